/-
  No cell of these rows narrows 'for every input' (looked for: loops, veiled, ifaces, maps, wideKeys, modest, calm, conditions, laid).
  DERIVED. THE GIVEN ROWS OF THIS SEAT. 11 by the template 'for every input the law returns true; each argument reads behind the call as it read before'; 0 by the template 'total and deterministic' (their statements: YtgcggngleiggiaaTotals.lean).
  GIVEN WITH THE SEED: the statements are not yours to turn. If you find one false, say at which input.
  Laid BY PROGRAM, IN A SANDBOX (cutbox-rows.mjs): the forced cells as the released guide's own fill.sh prints them over the translation 5aac9a7fe05efbad… (all of the seat's roots in one cut). By AI agents, Wed Nov 11 2026. No macro, syntax, notation, axiom, sorry.
-/
import Derived.Test.YtgcggngleiggiaaChecked
import GoSem.Claim
import GoSem.ClaimJoined
import GoSem.ClaimMapViews
import Derived.JoinedTies
import Derived.KernelRfl
namespace Go.Proofs.Ytgcggngleiggiaa
/- THE CELL 'sum', in the pinned program and in every row, IS THE sha256 OF THE DUMP (.gsa) THAT YtgcggngleiggiaaProg.lean LOADS. Nothing in Lean hashes anything: it is a label: what it is worth is what the hold of that sum in a sandbox is worth. -/
noncomputable def Try.pinned : Pinned := { name := "ytgcggngleiggiaa", sum := "5aac9a7fe05efbad8b679cfb1cb6e52937899b6e99424bae2757bd78c72ad7fb", checked := Try.checked }
namespace Rows
def none {H : Type} : Left H := { results := [], args := [] }

/-- 'laws.FnTop': WHATEVER THE INPUT: true; the input reads as it did. -/
def fnTopSpec : ChangeSpec := { name := "fnTop", fn := fun _ => fun
  | [d] => { results := [.lit (.bool true)], args := [d] }
  | _ => none }
def fnTopRow : OpenClaim := { program := "ytgcggngleiggiaa", sum := "5aac9a7fe05efbad8b679cfb1cb6e52937899b6e99424bae2757bd78c72ad7fb", func := "loop.example/g01313/laws.FnTop", spec := "fnTop", unfollowed := true, recurses := true, apart := false }
def FnTopSaid : Prop := fnTopRow.holds Try.pinned (OpenSpec.ofChange fnTopSpec)

/-- ITS FALSE NEIGHBOUR: 'it returns false'. Refute it at one input. -/
def fnTopWrong : ChangeSpec := { name := "fnTop", fn := fun _ => fun
  | [d] => { results := [.lit (.bool false)], args := [d] }
  | _ => none }
def FnTopWrongFalsely : Prop := fnTopRow.holds Try.pinned (OpenSpec.ofChange fnTopWrong)

/-- 'laws.FnExactPowerOfGauss': WHATEVER THE INPUT: true; the input reads as it did. -/
def fnExactPowerOfGaussSpec : ChangeSpec := { name := "fnExactPowerOfGauss", fn := fun _ => fun
  | [d] => { results := [.lit (.bool true)], args := [d] }
  | _ => none }
def fnExactPowerOfGaussRow : OpenClaim := { program := "ytgcggngleiggiaa", sum := "5aac9a7fe05efbad8b679cfb1cb6e52937899b6e99424bae2757bd78c72ad7fb", func := "loop.example/g01313/laws.FnExactPowerOfGauss", spec := "fnExactPowerOfGauss", recurses := true, apart := false }
def FnExactPowerOfGaussSaid : Prop := fnExactPowerOfGaussRow.holds Try.pinned (OpenSpec.ofChange fnExactPowerOfGaussSpec)

/-- ITS FALSE NEIGHBOUR: 'it returns false'. Refute it at one input. -/
def fnExactPowerOfGaussWrong : ChangeSpec := { name := "fnExactPowerOfGauss", fn := fun _ => fun
  | [d] => { results := [.lit (.bool false)], args := [d] }
  | _ => none }
def FnExactPowerOfGaussWrongFalsely : Prop := fnExactPowerOfGaussRow.holds Try.pinned (OpenSpec.ofChange fnExactPowerOfGaussWrong)

/-- 'laws.FnExactScaleGauss': WHATEVER THE INPUT: true; the input reads as it did. -/
def fnExactScaleGaussSpec : ChangeSpec := { name := "fnExactScaleGauss", fn := fun _ => fun
  | [d1, d2] => { results := [.lit (.bool true)], args := [d1, d2] }
  | _ => none }
def fnExactScaleGaussRow : OpenClaim := { program := "ytgcggngleiggiaa", sum := "5aac9a7fe05efbad8b679cfb1cb6e52937899b6e99424bae2757bd78c72ad7fb", func := "loop.example/g01313/laws.FnExactScaleGauss", spec := "fnExactScaleGauss", unfollowed := true, recurses := true, apart := false }
def FnExactScaleGaussSaid : Prop := fnExactScaleGaussRow.holds Try.pinned (OpenSpec.ofChange fnExactScaleGaussSpec)

/-- ITS FALSE NEIGHBOUR: 'it returns false'. Refute it at one input. -/
def fnExactScaleGaussWrong : ChangeSpec := { name := "fnExactScaleGauss", fn := fun _ => fun
  | [d1, d2] => { results := [.lit (.bool false)], args := [d1, d2] }
  | _ => none }
def FnExactScaleGaussWrongFalsely : Prop := fnExactScaleGaussRow.holds Try.pinned (OpenSpec.ofChange fnExactScaleGaussWrong)

/-- 'laws.FnExactSquareOfJacobi': WHATEVER THE INPUT: true; the input reads as it did. -/
def fnExactSquareOfJacobiSpec : ChangeSpec := { name := "fnExactSquareOfJacobi", fn := fun _ => fun
  | [d1, d2] => { results := [.lit (.bool true)], args := [d1, d2] }
  | _ => none }
def fnExactSquareOfJacobiRow : OpenClaim := { program := "ytgcggngleiggiaa", sum := "5aac9a7fe05efbad8b679cfb1cb6e52937899b6e99424bae2757bd78c72ad7fb", func := "loop.example/g01313/laws.FnExactSquareOfJacobi", spec := "fnExactSquareOfJacobi", unfollowed := true, recurses := true, apart := false }
def FnExactSquareOfJacobiSaid : Prop := fnExactSquareOfJacobiRow.holds Try.pinned (OpenSpec.ofChange fnExactSquareOfJacobiSpec)

/-- ITS FALSE NEIGHBOUR: 'it returns false'. Refute it at one input. -/
def fnExactSquareOfJacobiWrong : ChangeSpec := { name := "fnExactSquareOfJacobi", fn := fun _ => fun
  | [d1, d2] => { results := [.lit (.bool false)], args := [d1, d2] }
  | _ => none }
def FnExactSquareOfJacobiWrongFalsely : Prop := fnExactSquareOfJacobiRow.holds Try.pinned (OpenSpec.ofChange fnExactSquareOfJacobiWrong)

/-- 'laws.FnPeriodSums': WHATEVER THE INPUT: true; the input reads as it did. -/
def fnPeriodSumsSpec : ChangeSpec := { name := "fnPeriodSums", fn := fun _ => fun
  | [d] => { results := [.lit (.bool true)], args := [d] }
  | _ => none }
def fnPeriodSumsRow : OpenClaim := { program := "ytgcggngleiggiaa", sum := "5aac9a7fe05efbad8b679cfb1cb6e52937899b6e99424bae2757bd78c72ad7fb", func := "loop.example/g01313/laws.FnPeriodSums", spec := "fnPeriodSums", unfollowed := true, recurses := true, apart := false }
def FnPeriodSumsSaid : Prop := fnPeriodSumsRow.holds Try.pinned (OpenSpec.ofChange fnPeriodSumsSpec)

/-- ITS FALSE NEIGHBOUR: 'it returns false'. Refute it at one input. -/
def fnPeriodSumsWrong : ChangeSpec := { name := "fnPeriodSums", fn := fun _ => fun
  | [d] => { results := [.lit (.bool false)], args := [d] }
  | _ => none }
def FnPeriodSumsWrongFalsely : Prop := fnPeriodSumsRow.holds Try.pinned (OpenSpec.ofChange fnPeriodSumsWrong)

/-- 'laws.FnExactMinimalOf': WHATEVER THE INPUT: true; the input reads as it did. -/
def fnExactMinimalOfSpec : ChangeSpec := { name := "fnExactMinimalOf", fn := fun _ => fun
  | [d] => { results := [.lit (.bool true)], args := [d] }
  | _ => none }
def fnExactMinimalOfRow : OpenClaim := { program := "ytgcggngleiggiaa", sum := "5aac9a7fe05efbad8b679cfb1cb6e52937899b6e99424bae2757bd78c72ad7fb", func := "loop.example/g01313/laws.FnExactMinimalOf", spec := "fnExactMinimalOf", unfollowed := true, recurses := true, apart := false }
def FnExactMinimalOfSaid : Prop := fnExactMinimalOfRow.holds Try.pinned (OpenSpec.ofChange fnExactMinimalOfSpec)

/-- ITS FALSE NEIGHBOUR: 'it returns false'. Refute it at one input. -/
def fnExactMinimalOfWrong : ChangeSpec := { name := "fnExactMinimalOf", fn := fun _ => fun
  | [d] => { results := [.lit (.bool false)], args := [d] }
  | _ => none }
def FnExactMinimalOfWrongFalsely : Prop := fnExactMinimalOfRow.holds Try.pinned (OpenSpec.ofChange fnExactMinimalOfWrong)

/-- 'laws.FnExactIrregularOf': WHATEVER THE INPUT: true; the input reads as it did. -/
def fnExactIrregularOfSpec : ChangeSpec := { name := "fnExactIrregularOf", fn := fun _ => fun
  | [d] => { results := [.lit (.bool true)], args := [d] }
  | _ => none }
def fnExactIrregularOfRow : OpenClaim := { program := "ytgcggngleiggiaa", sum := "5aac9a7fe05efbad8b679cfb1cb6e52937899b6e99424bae2757bd78c72ad7fb", func := "loop.example/g01313/laws.FnExactIrregularOf", spec := "fnExactIrregularOf", apart := false }
def FnExactIrregularOfSaid : Prop := fnExactIrregularOfRow.holds Try.pinned (OpenSpec.ofChange fnExactIrregularOfSpec)

/-- ITS FALSE NEIGHBOUR: 'it returns false'. Refute it at one input. -/
def fnExactIrregularOfWrong : ChangeSpec := { name := "fnExactIrregularOf", fn := fun _ => fun
  | [d] => { results := [.lit (.bool false)], args := [d] }
  | _ => none }
def FnExactIrregularOfWrongFalsely : Prop := fnExactIrregularOfRow.holds Try.pinned (OpenSpec.ofChange fnExactIrregularOfWrong)

/-- 'laws.FnExactDivideCyclos': WHATEVER THE INPUT: true; the input reads as it did. -/
def fnExactDivideCyclosSpec : ChangeSpec := { name := "fnExactDivideCyclos", fn := fun _ => fun
  | [d1, d2] => { results := [.lit (.bool true)], args := [d1, d2] }
  | _ => none }
def fnExactDivideCyclosRow : OpenClaim := { program := "ytgcggngleiggiaa", sum := "5aac9a7fe05efbad8b679cfb1cb6e52937899b6e99424bae2757bd78c72ad7fb", func := "loop.example/g01313/laws.FnExactDivideCyclos", spec := "fnExactDivideCyclos", unfollowed := true, recurses := true, apart := false }
def FnExactDivideCyclosSaid : Prop := fnExactDivideCyclosRow.holds Try.pinned (OpenSpec.ofChange fnExactDivideCyclosSpec)

/-- ITS FALSE NEIGHBOUR: 'it returns false'. Refute it at one input. -/
def fnExactDivideCyclosWrong : ChangeSpec := { name := "fnExactDivideCyclos", fn := fun _ => fun
  | [d1, d2] => { results := [.lit (.bool false)], args := [d1, d2] }
  | _ => none }
def FnExactDivideCyclosWrongFalsely : Prop := fnExactDivideCyclosRow.holds Try.pinned (OpenSpec.ofChange fnExactDivideCyclosWrong)

/-- 'laws.FnGalois': WHATEVER THE INPUT: true; the input reads as it did. -/
def fnGaloisSpec : ChangeSpec := { name := "fnGalois", fn := fun _ => fun
  | [d] => { results := [.lit (.bool true)], args := [d] }
  | _ => none }
def fnGaloisRow : OpenClaim := { program := "ytgcggngleiggiaa", sum := "5aac9a7fe05efbad8b679cfb1cb6e52937899b6e99424bae2757bd78c72ad7fb", func := "loop.example/g01313/laws.FnGalois", spec := "fnGalois", unfollowed := true, recurses := true, apart := false }
def FnGaloisSaid : Prop := fnGaloisRow.holds Try.pinned (OpenSpec.ofChange fnGaloisSpec)

/-- ITS FALSE NEIGHBOUR: 'it returns false'. Refute it at one input. -/
def fnGaloisWrong : ChangeSpec := { name := "fnGalois", fn := fun _ => fun
  | [d] => { results := [.lit (.bool false)], args := [d] }
  | _ => none }
def FnGaloisWrongFalsely : Prop := fnGaloisRow.holds Try.pinned (OpenSpec.ofChange fnGaloisWrong)

/-- 'laws.FnResidues': WHATEVER THE INPUT: true; the input reads as it did. -/
def fnResiduesSpec : ChangeSpec := { name := "fnResidues", fn := fun _ => fun
  | [d] => { results := [.lit (.bool true)], args := [d] }
  | _ => none }
def fnResiduesRow : OpenClaim := { program := "ytgcggngleiggiaa", sum := "5aac9a7fe05efbad8b679cfb1cb6e52937899b6e99424bae2757bd78c72ad7fb", func := "loop.example/g01313/laws.FnResidues", spec := "fnResidues", unfollowed := true, recurses := true, apart := false }
def FnResiduesSaid : Prop := fnResiduesRow.holds Try.pinned (OpenSpec.ofChange fnResiduesSpec)

/-- ITS FALSE NEIGHBOUR: 'it returns false'. Refute it at one input. -/
def fnResiduesWrong : ChangeSpec := { name := "fnResidues", fn := fun _ => fun
  | [d] => { results := [.lit (.bool false)], args := [d] }
  | _ => none }
def FnResiduesWrongFalsely : Prop := fnResiduesRow.holds Try.pinned (OpenSpec.ofChange fnResiduesWrong)

/-- 'laws.FnBernoulli': WHATEVER THE INPUT: true; the input reads as it did. -/
def fnBernoulliSpec : ChangeSpec := { name := "fnBernoulli", fn := fun _ => fun
  | [d] => { results := [.lit (.bool true)], args := [d] }
  | _ => none }
def fnBernoulliRow : OpenClaim := { program := "ytgcggngleiggiaa", sum := "5aac9a7fe05efbad8b679cfb1cb6e52937899b6e99424bae2757bd78c72ad7fb", func := "loop.example/g01313/laws.FnBernoulli", spec := "fnBernoulli", unfollowed := true, recurses := true, apart := false }
def FnBernoulliSaid : Prop := fnBernoulliRow.holds Try.pinned (OpenSpec.ofChange fnBernoulliSpec)

/-- ITS FALSE NEIGHBOUR: 'it returns false'. Refute it at one input. -/
def fnBernoulliWrong : ChangeSpec := { name := "fnBernoulli", fn := fun _ => fun
  | [d] => { results := [.lit (.bool false)], args := [d] }
  | _ => none }
def FnBernoulliWrongFalsely : Prop := fnBernoulliRow.holds Try.pinned (OpenSpec.ofChange fnBernoulliWrong)

/- THE SECOND FORM. 'bulk': how many values and letters a reading holds, each counted each time it is reached (what is shared counts as often as it is met; a slice's spare places count too). A statement '..UptoSaid' is the law's where the arguments, and the package variables that the reading takes, are together of bulk at most 1048576: NARROWER than '..Said'. Prove '..Said' where nothing that the law and all that it calls make is longer than what came in: it says more and counts as full. Else prove '..UptoSaid'. A law counts once. -/
mutual
def uptoBulk {H : Type} : DataW H → Nat
  | .lit (.string bytes) => bytes.length + 1
  | .lit _ => 1
  | .nil => 1
  | .ptr d => uptoBulk d + 1
  | .slice elems spare => uptoBulkAll elems + uptoBulkAll spare + 1
  | .agg parts => uptoBulkAll parts + 1
  | .iface _ d => uptoBulk d + 1
  | .map entries => uptoBulkEntries entries + 1
  | .held _ => 1
def uptoBulkAll {H : Type} : List (DataW H) → Nat
  | [] => 0
  | d :: r => uptoBulk d + uptoBulkAll r
def uptoBulkEntries {H : Type} : List (Lit × DataW H) → Nat
  | [] => 0
  | x :: r => uptoBulkEntry x + uptoBulkEntries r
def uptoBulkEntry {H : Type} : Lit × DataW H → Nat
  | (.string bytes, d) => bytes.length + uptoBulk d + 1
  | (_, d) => uptoBulk d + 1
 end
def uptoSmall : (H : Type) → List (DataW H) → Bool := fun _ ds => decide (uptoBulkAll ds ≤ 1048576)
def OpenSpec.upto (s : _root_.Go.ChangeSpec) : _root_.Go.OpenSpec := { _root_.Go.OpenSpec.ofChange s with cond := some uptoSmall }

/-- 'laws.FnTop', WHERE WHAT IT READS IS OF BULK AT MOST 1048576: true; the input reads as it did. -/
def fnTopUptoRow : OpenClaim := { program := "ytgcggngleiggiaa", sum := "5aac9a7fe05efbad8b679cfb1cb6e52937899b6e99424bae2757bd78c72ad7fb", func := "loop.example/g01313/laws.FnTop", spec := "fnTop", unfollowed := true, recurses := true, apart := false, narrowed := true }
def FnTopUptoSaid : Prop := fnTopUptoRow.holds Try.pinned (OpenSpec.upto fnTopSpec)

/-- 'laws.FnExactPowerOfGauss', WHERE WHAT IT READS IS OF BULK AT MOST 1048576: true; the input reads as it did. -/
def fnExactPowerOfGaussUptoRow : OpenClaim := { program := "ytgcggngleiggiaa", sum := "5aac9a7fe05efbad8b679cfb1cb6e52937899b6e99424bae2757bd78c72ad7fb", func := "loop.example/g01313/laws.FnExactPowerOfGauss", spec := "fnExactPowerOfGauss", recurses := true, apart := false, narrowed := true }
def FnExactPowerOfGaussUptoSaid : Prop := fnExactPowerOfGaussUptoRow.holds Try.pinned (OpenSpec.upto fnExactPowerOfGaussSpec)

/-- 'laws.FnExactScaleGauss', WHERE WHAT IT READS IS OF BULK AT MOST 1048576: true; the input reads as it did. -/
def fnExactScaleGaussUptoRow : OpenClaim := { program := "ytgcggngleiggiaa", sum := "5aac9a7fe05efbad8b679cfb1cb6e52937899b6e99424bae2757bd78c72ad7fb", func := "loop.example/g01313/laws.FnExactScaleGauss", spec := "fnExactScaleGauss", unfollowed := true, recurses := true, apart := false, narrowed := true }
def FnExactScaleGaussUptoSaid : Prop := fnExactScaleGaussUptoRow.holds Try.pinned (OpenSpec.upto fnExactScaleGaussSpec)

/-- 'laws.FnExactSquareOfJacobi', WHERE WHAT IT READS IS OF BULK AT MOST 1048576: true; the input reads as it did. -/
def fnExactSquareOfJacobiUptoRow : OpenClaim := { program := "ytgcggngleiggiaa", sum := "5aac9a7fe05efbad8b679cfb1cb6e52937899b6e99424bae2757bd78c72ad7fb", func := "loop.example/g01313/laws.FnExactSquareOfJacobi", spec := "fnExactSquareOfJacobi", unfollowed := true, recurses := true, apart := false, narrowed := true }
def FnExactSquareOfJacobiUptoSaid : Prop := fnExactSquareOfJacobiUptoRow.holds Try.pinned (OpenSpec.upto fnExactSquareOfJacobiSpec)

/-- 'laws.FnPeriodSums', WHERE WHAT IT READS IS OF BULK AT MOST 1048576: true; the input reads as it did. -/
def fnPeriodSumsUptoRow : OpenClaim := { program := "ytgcggngleiggiaa", sum := "5aac9a7fe05efbad8b679cfb1cb6e52937899b6e99424bae2757bd78c72ad7fb", func := "loop.example/g01313/laws.FnPeriodSums", spec := "fnPeriodSums", unfollowed := true, recurses := true, apart := false, narrowed := true }
def FnPeriodSumsUptoSaid : Prop := fnPeriodSumsUptoRow.holds Try.pinned (OpenSpec.upto fnPeriodSumsSpec)

/-- 'laws.FnExactMinimalOf', WHERE WHAT IT READS IS OF BULK AT MOST 1048576: true; the input reads as it did. -/
def fnExactMinimalOfUptoRow : OpenClaim := { program := "ytgcggngleiggiaa", sum := "5aac9a7fe05efbad8b679cfb1cb6e52937899b6e99424bae2757bd78c72ad7fb", func := "loop.example/g01313/laws.FnExactMinimalOf", spec := "fnExactMinimalOf", unfollowed := true, recurses := true, apart := false, narrowed := true }
def FnExactMinimalOfUptoSaid : Prop := fnExactMinimalOfUptoRow.holds Try.pinned (OpenSpec.upto fnExactMinimalOfSpec)

/-- 'laws.FnExactIrregularOf', WHERE WHAT IT READS IS OF BULK AT MOST 1048576: true; the input reads as it did. -/
def fnExactIrregularOfUptoRow : OpenClaim := { program := "ytgcggngleiggiaa", sum := "5aac9a7fe05efbad8b679cfb1cb6e52937899b6e99424bae2757bd78c72ad7fb", func := "loop.example/g01313/laws.FnExactIrregularOf", spec := "fnExactIrregularOf", apart := false, narrowed := true }
def FnExactIrregularOfUptoSaid : Prop := fnExactIrregularOfUptoRow.holds Try.pinned (OpenSpec.upto fnExactIrregularOfSpec)

/-- 'laws.FnExactDivideCyclos', WHERE WHAT IT READS IS OF BULK AT MOST 1048576: true; the input reads as it did. -/
def fnExactDivideCyclosUptoRow : OpenClaim := { program := "ytgcggngleiggiaa", sum := "5aac9a7fe05efbad8b679cfb1cb6e52937899b6e99424bae2757bd78c72ad7fb", func := "loop.example/g01313/laws.FnExactDivideCyclos", spec := "fnExactDivideCyclos", unfollowed := true, recurses := true, apart := false, narrowed := true }
def FnExactDivideCyclosUptoSaid : Prop := fnExactDivideCyclosUptoRow.holds Try.pinned (OpenSpec.upto fnExactDivideCyclosSpec)

/-- 'laws.FnGalois', WHERE WHAT IT READS IS OF BULK AT MOST 1048576: true; the input reads as it did. -/
def fnGaloisUptoRow : OpenClaim := { program := "ytgcggngleiggiaa", sum := "5aac9a7fe05efbad8b679cfb1cb6e52937899b6e99424bae2757bd78c72ad7fb", func := "loop.example/g01313/laws.FnGalois", spec := "fnGalois", unfollowed := true, recurses := true, apart := false, narrowed := true }
def FnGaloisUptoSaid : Prop := fnGaloisUptoRow.holds Try.pinned (OpenSpec.upto fnGaloisSpec)

/-- 'laws.FnResidues', WHERE WHAT IT READS IS OF BULK AT MOST 1048576: true; the input reads as it did. -/
def fnResiduesUptoRow : OpenClaim := { program := "ytgcggngleiggiaa", sum := "5aac9a7fe05efbad8b679cfb1cb6e52937899b6e99424bae2757bd78c72ad7fb", func := "loop.example/g01313/laws.FnResidues", spec := "fnResidues", unfollowed := true, recurses := true, apart := false, narrowed := true }
def FnResiduesUptoSaid : Prop := fnResiduesUptoRow.holds Try.pinned (OpenSpec.upto fnResiduesSpec)

/-- 'laws.FnBernoulli', WHERE WHAT IT READS IS OF BULK AT MOST 1048576: true; the input reads as it did. -/
def fnBernoulliUptoRow : OpenClaim := { program := "ytgcggngleiggiaa", sum := "5aac9a7fe05efbad8b679cfb1cb6e52937899b6e99424bae2757bd78c72ad7fb", func := "loop.example/g01313/laws.FnBernoulli", spec := "fnBernoulli", unfollowed := true, recurses := true, apart := false, narrowed := true }
def FnBernoulliUptoSaid : Prop := fnBernoulliUptoRow.holds Try.pinned (OpenSpec.upto fnBernoulliSpec)

end Rows
end Go.Proofs.Ytgcggngleiggiaa
