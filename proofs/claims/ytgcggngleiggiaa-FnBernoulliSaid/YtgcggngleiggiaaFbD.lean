/-
Units: the check. Conditions: none.
-/
import Derived.Test.YtgcggngleiggiaaPr17
namespace Go.Proofs.Ytgcggngleiggiaa.Pure
open Go.RowKit Go.Proofs.Ytgcggngleiggiaa.Pr Go.Proofs.YtgcggngleiggiaaW.PrintWords Go.Proofs.YtgcggngleiggiaaW.PrintLast
set_option maxRecDepth 100000
def chkD (n a : Int) : Bool := match impl_CyclotomicUnit.f 5000 n a with
  | some r => decide (spec_CyclotomicUnit.f 5000 n a = some r) && decide (laws_cyclo9.f 5000 r.1 r.2.1 r.1 r.2.1 = some true) && (decide (r.2.2 ≠ 0) || match impl_IsUnit.f 5000 r.1 r.2.1 with
    | some (yes, five) => decide (five ≠ 0) || yes
    | none => false)
  | none => false
end Go.Proofs.Ytgcggngleiggiaa.Pure
