-- Printed by a program of this session.
import Derived.Test.YtceifmklobagbaaProg
import Derived.Below
import Derived.Deep.Draws
import Derived.Deep.AppendLies
import Derived.Maps.AppendAt
import Derived.OwnWalk
import Derived.Laws.BytesArg
import Derived.Laws.MakeOwn
import Derived.Laws.OwnMore
import Derived.Deep.OwnRows
import Derived.Tactics
import Derived.Lib.ConvBytes
import Derived.Laws.Slices
import Derived.WalkKit
import Derived.KernelRfl
import Derived.RowKit3
import Derived.Deep.LoopGhost
import Derived.Deep.QuietTactic
import Derived.BigQuiet
import Derived.WideLaws
import Derived.Deep.DeepCutAuto
import Derived.Deep.CutBlock
import Derived.Deep.RegionHeld3
import Derived.Laws.Rows
import Derived.Lib.AppendStr
import Derived.ArgAppend
import Derived.Laws.IdiomCopy
import Derived.OrdersHeld
import Derived.Laws.BitsLemmas
import Derived.RowKit
import Derived.Lib.SliceRun
import Derived.Shelf.GgClosure.Gives
import Derived.Lib.SlBy
import Derived.WalkLawsBesides
import Derived.Laws.CopyOwn
import Derived.Test.YtceifmklobagbaaWWords
import Derived.Test.YtceifmklobagbaaWLast
import Derived.Test.YtceifmklobagbaaWTab
import Derived.Test.YtceifmklobagbaaWFour
import Derived.Test.YtceifmklobagbaaWQPut
import Derived.Test.YtceifmklobagbaaWApart
import Derived.Test.YtceifmklobagbaaWArr
import Derived.Test.YtceifmklobagbaaWZeros
import Derived.Test.YtceifmklobagbaaWFoot
import Derived.Test.YtceifmklobagbaaWKept
import Derived.Test.YtceifmklobagbaaWShare
import Derived.Test.YtceifmklobagbaaWN
import Derived.Test.YtceifmklobagbaaWFootNe
import Derived.Test.YtceifmklobagbaaWAt
import Derived.Test.YtceifmklobagbaaWEqStruct
import Derived.Test.YtceifmklobagbaaWRepsOne
import Derived.Test.YtceifmklobagbaaWInv
import Derived.Test.YtceifmklobagbaaWInvWords
import Derived.Test.YtceifmklobagbaaWGuard
import Derived.Test.YtceifmklobagbaaWNEv
import Derived.Test.YtceifmklobagbaaWMore
namespace Go.Proofs.Ytceifmklobagbaa.PB
open Go.RowKit Go.Proofs.YtceifmklobagbaaW.PrintWords Go.Proofs.YtceifmklobagbaaW.PrintLast Go.Proofs.YtceifmklobagbaaW.PrintMore
attribute [local go_sem] max2_int min2_int max_two min_two max_three min_three max_four min_four   -- for this text's walks alone
set_option linter.unusedVariables false
set_option linter.unusedSimpArgs false



def errW : Option Int → Value
  | none => .nilIface
  | some c => .iface 0 (.int .i64 c)
theorem errW_none : errW none = .nilIface := rfl
theorem errW_some (c : Int) : errW (some c) = .iface 0 (.int .i64 c) := rfl

theorem fn_call_ {P : Program} {g : Nat} {lb : Array Value} {f : Int → Int} {w W : World} {x t : Int} (hf : ∀ (W : World) (x : Int), Below w.heap.size w W → Calls P g (#[Value.int .i64 x] ++ lb) W fun e w' => e = .returned (.int .i64 (f x)) ∧ Drawn0 W w') (hb : Below w.heap.size w W) (h : some (f x) = some t) : Calls P g (#[Value.int .i64 x] ++ lb) W fun e w' => e = .returned (.int .i64 t) ∧ Drawn0 W w' := by
  obtain rfl := Option.some.inj h
  exact hf W x hb
theorem info2 : (Try.prog.info? 2).map (fun i => (i.zero, i.size, i.bytes)) = some (some (.int .i64 0), 1, 8) := by kernel_rfl
-- the values' own types

end Go.Proofs.Ytceifmklobagbaa.PB
