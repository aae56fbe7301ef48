/-
Values that IrregularOf tells. Conditions: none (closed terms).
-/
import Derived.Test.YtgcggngleiggiaaPr17
namespace Go.Proofs.Ytgcggngleiggiaa.Pure
open Go.RowKit Go.Proofs.Ytgcggngleiggiaa.Pr Go.Proofs.YtgcggngleiggiaaW.PrintWords Go.Proofs.YtgcggngleiggiaaW.PrintLast
set_option maxRecDepth 100000
def chkC (q : Int) : Bool := match impl_IrregularOf.f 5000 q with
  | some r => decide (spec_IrregularOf.f 5000 q = some r) && decide (laws_likeInts.f 5000 r.1 r.1 = some true) && (decide (r.2 ≠ 0) || match r.1 with
    | [] => true
    | [x] => decide (impl_BernoulliModulo.f 4998 q x = some (0, 0))
    | _ => false)
  | none => false
theorem irr2 : chkC 2 = true := by kernel_rfl
theorem irr15 : chkC 15 = true := by kernel_rfl
theorem irr67 : chkC 67 = true := by kernel_rfl
theorem irr3 : chkC 3 = true := by kernel_rfl
theorem irr5 : chkC 5 = true := by kernel_rfl
theorem irr7 : chkC 7 = true := by kernel_rfl
theorem irr11 : chkC 11 = true := by kernel_rfl
theorem irr13 : chkC 13 = true := by kernel_rfl
theorem irr17 : chkC 17 = true := by kernel_rfl
theorem irr19 : chkC 19 = true := by kernel_rfl
theorem irr23 : chkC 23 = true := by kernel_rfl
theorem irr29 : chkC 29 = true := by kernel_rfl
theorem irr31 : chkC 31 = true := by kernel_rfl
theorem irr37 : chkC 37 = true := by kernel_rfl
theorem irr41 : chkC 41 = true := by kernel_rfl
theorem irr43 : chkC 43 = true := by kernel_rfl
theorem irr47 : chkC 47 = true := by kernel_rfl
theorem irr53 : chkC 53 = true := by kernel_rfl
theorem irr59 : chkC 59 = true := by kernel_rfl
theorem irr61 : chkC 61 = true := by kernel_rfl
end Go.Proofs.Ytgcggngleiggiaa.Pure
