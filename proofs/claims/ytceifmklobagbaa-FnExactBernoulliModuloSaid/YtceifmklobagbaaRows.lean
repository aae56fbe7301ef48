/-
  No cell of these rows narrows 'for every input' (looked for: loops, veiled, ifaces, maps, wideKeys, modest, calm, conditions, laid).
  DERIVED. THE GIVEN ROWS OF THIS SEAT. 4 by the template 'for every input the law returns true; each argument reads behind the call as it read before'; 0 by the template 'total and deterministic' (their statements: YtceifmklobagbaaTotals.lean).
  GIVEN WITH THE SEED: the statements are not yours to turn. If you find one false, say at which input.
  Laid BY PROGRAM, IN A SANDBOX (cutbox-rows.mjs): the forced cells as the released guide's own fill.sh prints them over the translation cab61f1c0251c2e3… (all of the seat's roots in one cut). By AI agents, Wed Nov 11 2026. No macro, syntax, notation, axiom, sorry.
-/
import Derived.Test.YtceifmklobagbaaChecked
import GoSem.Claim
import GoSem.ClaimJoined
import GoSem.ClaimMapViews
import Derived.JoinedTies
import Derived.KernelRfl
namespace Go.Proofs.Ytceifmklobagbaa
/- THE CELL 'sum', in the pinned program and in every row, IS THE sha256 OF THE DUMP (.gsa) THAT YtceifmklobagbaaProg.lean LOADS. Nothing in Lean hashes anything: it is a label: what it is worth is what the hold of that sum in a sandbox is worth. -/
noncomputable def Try.pinned : Pinned := { name := "ytceifmklobagbaa", sum := "cab61f1c0251c2e32e77a04b16f5472e1d5979826a51ab9cd8f61889834b4dd2", checked := Try.checked }
namespace Rows
def none {H : Type} : Left H := { results := [], args := [] }

/-- 'laws.FnPeriodSums': WHATEVER THE INPUT: true; the input reads as it did. -/
def fnPeriodSumsSpec : ChangeSpec := { name := "fnPeriodSums", fn := fun _ => fun
  | [d] => { results := [.lit (.bool true)], args := [d] }
  | _ => none }
def fnPeriodSumsRow : OpenClaim := { program := "ytceifmklobagbaa", sum := "cab61f1c0251c2e32e77a04b16f5472e1d5979826a51ab9cd8f61889834b4dd2", func := "loop.example/g01313/laws.FnPeriodSums", spec := "fnPeriodSums", unfollowed := true, recurses := true, apart := false }
def FnPeriodSumsSaid : Prop := fnPeriodSumsRow.holds Try.pinned (OpenSpec.ofChange fnPeriodSumsSpec)

/-- ITS FALSE NEIGHBOUR: 'it returns false'. Refute it at one input. -/
def fnPeriodSumsWrong : ChangeSpec := { name := "fnPeriodSums", fn := fun _ => fun
  | [d] => { results := [.lit (.bool false)], args := [d] }
  | _ => none }
def FnPeriodSumsWrongFalsely : Prop := fnPeriodSumsRow.holds Try.pinned (OpenSpec.ofChange fnPeriodSumsWrong)

/-- 'laws.FnExactIrregularOf': WHATEVER THE INPUT: true; the input reads as it did. -/
def fnExactIrregularOfSpec : ChangeSpec := { name := "fnExactIrregularOf", fn := fun _ => fun
  | [d] => { results := [.lit (.bool true)], args := [d] }
  | _ => none }
def fnExactIrregularOfRow : OpenClaim := { program := "ytceifmklobagbaa", sum := "cab61f1c0251c2e32e77a04b16f5472e1d5979826a51ab9cd8f61889834b4dd2", func := "loop.example/g01313/laws.FnExactIrregularOf", spec := "fnExactIrregularOf", apart := false }
def FnExactIrregularOfSaid : Prop := fnExactIrregularOfRow.holds Try.pinned (OpenSpec.ofChange fnExactIrregularOfSpec)

/-- ITS FALSE NEIGHBOUR: 'it returns false'. Refute it at one input. -/
def fnExactIrregularOfWrong : ChangeSpec := { name := "fnExactIrregularOf", fn := fun _ => fun
  | [d] => { results := [.lit (.bool false)], args := [d] }
  | _ => none }
def FnExactIrregularOfWrongFalsely : Prop := fnExactIrregularOfRow.holds Try.pinned (OpenSpec.ofChange fnExactIrregularOfWrong)

/-- 'laws.FnExactSquareOfJacobi': WHATEVER THE INPUT: true; the input reads as it did. -/
def fnExactSquareOfJacobiSpec : ChangeSpec := { name := "fnExactSquareOfJacobi", fn := fun _ => fun
  | [d1, d2] => { results := [.lit (.bool true)], args := [d1, d2] }
  | _ => none }
def fnExactSquareOfJacobiRow : OpenClaim := { program := "ytceifmklobagbaa", sum := "cab61f1c0251c2e32e77a04b16f5472e1d5979826a51ab9cd8f61889834b4dd2", func := "loop.example/g01313/laws.FnExactSquareOfJacobi", spec := "fnExactSquareOfJacobi", unfollowed := true, recurses := true, apart := false }
def FnExactSquareOfJacobiSaid : Prop := fnExactSquareOfJacobiRow.holds Try.pinned (OpenSpec.ofChange fnExactSquareOfJacobiSpec)

/-- ITS FALSE NEIGHBOUR: 'it returns false'. Refute it at one input. -/
def fnExactSquareOfJacobiWrong : ChangeSpec := { name := "fnExactSquareOfJacobi", fn := fun _ => fun
  | [d1, d2] => { results := [.lit (.bool false)], args := [d1, d2] }
  | _ => none }
def FnExactSquareOfJacobiWrongFalsely : Prop := fnExactSquareOfJacobiRow.holds Try.pinned (OpenSpec.ofChange fnExactSquareOfJacobiWrong)

/-- 'laws.FnExactBernoulliModulo': WHATEVER THE INPUT: true; the input reads as it did. -/
def fnExactBernoulliModuloSpec : ChangeSpec := { name := "fnExactBernoulliModulo", fn := fun _ => fun
  | [d1, d2] => { results := [.lit (.bool true)], args := [d1, d2] }
  | _ => none }
def fnExactBernoulliModuloRow : OpenClaim := { program := "ytceifmklobagbaa", sum := "cab61f1c0251c2e32e77a04b16f5472e1d5979826a51ab9cd8f61889834b4dd2", func := "loop.example/g01313/laws.FnExactBernoulliModulo", spec := "fnExactBernoulliModulo", apart := false }
def FnExactBernoulliModuloSaid : Prop := fnExactBernoulliModuloRow.holds Try.pinned (OpenSpec.ofChange fnExactBernoulliModuloSpec)

/-- ITS FALSE NEIGHBOUR: 'it returns false'. Refute it at one input. -/
def fnExactBernoulliModuloWrong : ChangeSpec := { name := "fnExactBernoulliModulo", fn := fun _ => fun
  | [d1, d2] => { results := [.lit (.bool false)], args := [d1, d2] }
  | _ => none }
def FnExactBernoulliModuloWrongFalsely : Prop := fnExactBernoulliModuloRow.holds Try.pinned (OpenSpec.ofChange fnExactBernoulliModuloWrong)

/- THE SECOND FORM. 'bulk': how many values and letters a reading holds, each counted each time it is reached (what is shared counts as often as it is met; a slice's spare places count too). A statement '..UptoSaid' is the law's where the arguments, and the package variables that the reading takes, are together of bulk at most 1048576: NARROWER than '..Said'. Prove '..Said' where nothing that the law and all that it calls make is longer than what came in: it says more and counts as full. Else prove '..UptoSaid'. A law counts once. -/
mutual
def uptoBulk {H : Type} : DataW H → Nat
  | .lit (.string bytes) => bytes.length + 1
  | .lit _ => 1
  | .nil => 1
  | .ptr d => uptoBulk d + 1
  | .slice elems spare => uptoBulkAll elems + uptoBulkAll spare + 1
  | .agg parts => uptoBulkAll parts + 1
  | .iface _ d => uptoBulk d + 1
  | .map entries => uptoBulkEntries entries + 1
  | .held _ => 1
def uptoBulkAll {H : Type} : List (DataW H) → Nat
  | [] => 0
  | d :: r => uptoBulk d + uptoBulkAll r
def uptoBulkEntries {H : Type} : List (Lit × DataW H) → Nat
  | [] => 0
  | x :: r => uptoBulkEntry x + uptoBulkEntries r
def uptoBulkEntry {H : Type} : Lit × DataW H → Nat
  | (.string bytes, d) => bytes.length + uptoBulk d + 1
  | (_, d) => uptoBulk d + 1
 end
def uptoSmall : (H : Type) → List (DataW H) → Bool := fun _ ds => decide (uptoBulkAll ds ≤ 1048576)
def OpenSpec.upto (s : _root_.Go.ChangeSpec) : _root_.Go.OpenSpec := { _root_.Go.OpenSpec.ofChange s with cond := some uptoSmall }

/-- 'laws.FnPeriodSums', WHERE WHAT IT READS IS OF BULK AT MOST 1048576: true; the input reads as it did. -/
def fnPeriodSumsUptoRow : OpenClaim := { program := "ytceifmklobagbaa", sum := "cab61f1c0251c2e32e77a04b16f5472e1d5979826a51ab9cd8f61889834b4dd2", func := "loop.example/g01313/laws.FnPeriodSums", spec := "fnPeriodSums", unfollowed := true, recurses := true, apart := false, narrowed := true }
def FnPeriodSumsUptoSaid : Prop := fnPeriodSumsUptoRow.holds Try.pinned (OpenSpec.upto fnPeriodSumsSpec)

/-- 'laws.FnExactIrregularOf', WHERE WHAT IT READS IS OF BULK AT MOST 1048576: true; the input reads as it did. -/
def fnExactIrregularOfUptoRow : OpenClaim := { program := "ytceifmklobagbaa", sum := "cab61f1c0251c2e32e77a04b16f5472e1d5979826a51ab9cd8f61889834b4dd2", func := "loop.example/g01313/laws.FnExactIrregularOf", spec := "fnExactIrregularOf", apart := false, narrowed := true }
def FnExactIrregularOfUptoSaid : Prop := fnExactIrregularOfUptoRow.holds Try.pinned (OpenSpec.upto fnExactIrregularOfSpec)

/-- 'laws.FnExactSquareOfJacobi', WHERE WHAT IT READS IS OF BULK AT MOST 1048576: true; the input reads as it did. -/
def fnExactSquareOfJacobiUptoRow : OpenClaim := { program := "ytceifmklobagbaa", sum := "cab61f1c0251c2e32e77a04b16f5472e1d5979826a51ab9cd8f61889834b4dd2", func := "loop.example/g01313/laws.FnExactSquareOfJacobi", spec := "fnExactSquareOfJacobi", unfollowed := true, recurses := true, apart := false, narrowed := true }
def FnExactSquareOfJacobiUptoSaid : Prop := fnExactSquareOfJacobiUptoRow.holds Try.pinned (OpenSpec.upto fnExactSquareOfJacobiSpec)

/-- 'laws.FnExactBernoulliModulo', WHERE WHAT IT READS IS OF BULK AT MOST 1048576: true; the input reads as it did. -/
def fnExactBernoulliModuloUptoRow : OpenClaim := { program := "ytceifmklobagbaa", sum := "cab61f1c0251c2e32e77a04b16f5472e1d5979826a51ab9cd8f61889834b4dd2", func := "loop.example/g01313/laws.FnExactBernoulliModulo", spec := "fnExactBernoulliModulo", apart := false, narrowed := true }
def FnExactBernoulliModuloUptoSaid : Prop := fnExactBernoulliModuloUptoRow.holds Try.pinned (OpenSpec.upto fnExactBernoulliModuloSpec)

end Rows
end Go.Proofs.Ytceifmklobagbaa
