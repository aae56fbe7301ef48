-- Printed by a program of this session.
import Derived.Test.YtgcggngleiggiaaProg
import Derived.Below
import Derived.Deep.Draws
import Derived.Deep.AppendLies
import Derived.Maps.AppendAt
import Derived.OwnWalk
import Derived.Laws.BytesArg
import Derived.Laws.MakeOwn
import Derived.Laws.OwnMore
import Derived.Deep.OwnRows
import Derived.Tactics
import Derived.Lib.ConvBytes
import Derived.Laws.Slices
import Derived.WalkKit
import Derived.KernelRfl
import Derived.RowKit3
import Derived.Deep.LoopGhost
import Derived.Deep.QuietTactic
import Derived.BigQuiet
import Derived.WideLaws
import Derived.Deep.DeepCutAuto
import Derived.Deep.CutBlock
import Derived.Deep.RegionHeld3
import Derived.Laws.Rows
import Derived.Lib.AppendStr
import Derived.ArgAppend
import Derived.Laws.IdiomCopy
import Derived.OrdersHeld
import Derived.Laws.BitsLemmas
import Derived.RowKit
import Derived.Test.YtgcggngleiggiaaWWords
import Derived.Test.YtgcggngleiggiaaWLast
import Derived.Test.YtgcggngleiggiaaWTab
import Derived.Test.YtgcggngleiggiaaWFour
import Derived.Test.YtgcggngleiggiaaWQPut
import Derived.Test.YtgcggngleiggiaaWApart
import Derived.Test.YtgcggngleiggiaaWArr
import Derived.Test.YtgcggngleiggiaaWZeros
import Derived.Test.YtgcggngleiggiaaWFoot
import Derived.Test.YtgcggngleiggiaaWKept
import Derived.Test.YtgcggngleiggiaaWShare
import Derived.Test.YtgcggngleiggiaaWN
import Derived.Test.YtgcggngleiggiaaWFootNe
import Derived.Test.YtgcggngleiggiaaWAt
import Derived.Test.YtgcggngleiggiaaWEqStruct
import Derived.Test.YtgcggngleiggiaaWRepsOne
import Derived.Test.YtgcggngleiggiaaWInv
import Derived.Test.YtgcggngleiggiaaWInvWords
import Derived.Test.YtgcggngleiggiaaWGuard
import Derived.Test.YtgcggngleiggiaaWNEv
import Derived.Test.YtgcggngleiggiaaWMore
namespace Go.Proofs.Ytgcggngleiggiaa.PI
open Go.RowKit Go.Proofs.YtgcggngleiggiaaW.PrintWords Go.Proofs.YtgcggngleiggiaaW.PrintLast Go.Proofs.YtgcggngleiggiaaW.PrintMore
attribute [local go_sem] max2_int min2_int max_two min_two max_three min_three max_four min_four   -- for this text's walks alone
set_option linter.unusedVariables false
set_option linter.unusedSimpArgs false



def errW : Option Int → Value
  | none => .nilIface
  | some c => .iface 0 (.int .i64 c)
theorem errW_none : errW none = .nilIface := rfl
theorem errW_some (c : Int) : errW (some c) = .iface 0 (.int .i64 c) := rfl

theorem info2 : (Try.prog.info? 2).map (fun i => (i.zero, i.size, i.bytes)) = some (some (.int .i64 0), 1, 8) := by kernel_rfl
-- the values' own types

end Go.Proofs.Ytgcggngleiggiaa.PI
