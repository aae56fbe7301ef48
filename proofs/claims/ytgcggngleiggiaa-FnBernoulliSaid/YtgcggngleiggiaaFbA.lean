/-
Values that BernoulliOf tells. Conditions: none (closed terms).
-/
import Derived.Test.YtgcggngleiggiaaPr17
namespace Go.Proofs.Ytgcggngleiggiaa.Pure
open Go.RowKit Go.Proofs.Ytgcggngleiggiaa.Pr Go.Proofs.YtgcggngleiggiaaW.PrintWords Go.Proofs.YtgcggngleiggiaaW.PrintLast
set_option maxRecDepth 100000
def fin (x3 x4 x5 x6 : Int) : Option Bool := if x6 = 0 then (if x5 ≥ 1 then (if (Int.tmod x3 2) = 0 then (some true) else (if x3 = 1 then (some true) else (some (x4 == 0)))) else (none)) else (if x4 = 0 then (some (x5 == 0)) else (none))
def chkA (t : Int) : Bool := match impl_BernoulliOf.f 5000 t with
  | some r => decide (spec_BernoulliOf.f 5000 t = some r) && decide (fin t r.1 r.2.1 r.2.2 = some true)
  | none => false
theorem allA : ((List.range 22).all fun t => chkA (t : Int)) = true := by kernel_rfl
theorem bof4995_2 : impl_BernoulliOf.f 4995 2 = some (1, 6, 0) := by kernel_rfl
theorem bof4995_4 : impl_BernoulliOf.f 4995 4 = some (-1, 30, 0) := by kernel_rfl
theorem bof4995_6 : impl_BernoulliOf.f 4995 6 = some (1, 42, 0) := by kernel_rfl
theorem bof4995_8 : impl_BernoulliOf.f 4995 8 = some (-1, 30, 0) := by kernel_rfl
theorem bof4995_10 : impl_BernoulliOf.f 4995 10 = some (5, 66, 0) := by kernel_rfl
theorem bof4995_12 : impl_BernoulliOf.f 4995 12 = some (-691, 2730, 0) := by kernel_rfl
theorem bof4995_14 : impl_BernoulliOf.f 4995 14 = some (7, 6, 0) := by kernel_rfl
theorem bof4995_16 : impl_BernoulliOf.f 4995 16 = some (-3617, 510, 0) := by kernel_rfl
theorem bof4995_18 : impl_BernoulliOf.f 4995 18 = some (43867, 798, 0) := by kernel_rfl
theorem bof4995_20 : impl_BernoulliOf.f 4995 20 = some (-174611, 330, 0) := by kernel_rfl
theorem bof4996_2 : impl_BernoulliOf.f 4996 2 = some (1, 6, 0) := by kernel_rfl
theorem bof4996_4 : impl_BernoulliOf.f 4996 4 = some (-1, 30, 0) := by kernel_rfl
theorem bof4996_6 : impl_BernoulliOf.f 4996 6 = some (1, 42, 0) := by kernel_rfl
theorem bof4996_8 : impl_BernoulliOf.f 4996 8 = some (-1, 30, 0) := by kernel_rfl
theorem bof4996_10 : impl_BernoulliOf.f 4996 10 = some (5, 66, 0) := by kernel_rfl
theorem bof4996_12 : impl_BernoulliOf.f 4996 12 = some (-691, 2730, 0) := by kernel_rfl
theorem bof4996_14 : impl_BernoulliOf.f 4996 14 = some (7, 6, 0) := by kernel_rfl
theorem bof4996_16 : impl_BernoulliOf.f 4996 16 = some (-3617, 510, 0) := by kernel_rfl
theorem bof4996_18 : impl_BernoulliOf.f 4996 18 = some (43867, 798, 0) := by kernel_rfl
theorem bof4996_20 : impl_BernoulliOf.f 4996 20 = some (-174611, 330, 0) := by kernel_rfl
theorem bof4997_2 : impl_BernoulliOf.f 4997 2 = some (1, 6, 0) := by kernel_rfl
theorem bof4997_4 : impl_BernoulliOf.f 4997 4 = some (-1, 30, 0) := by kernel_rfl
theorem bof4997_6 : impl_BernoulliOf.f 4997 6 = some (1, 42, 0) := by kernel_rfl
theorem bof4997_8 : impl_BernoulliOf.f 4997 8 = some (-1, 30, 0) := by kernel_rfl
theorem bof4997_10 : impl_BernoulliOf.f 4997 10 = some (5, 66, 0) := by kernel_rfl
theorem bof4997_12 : impl_BernoulliOf.f 4997 12 = some (-691, 2730, 0) := by kernel_rfl
theorem bof4997_14 : impl_BernoulliOf.f 4997 14 = some (7, 6, 0) := by kernel_rfl
theorem bof4997_16 : impl_BernoulliOf.f 4997 16 = some (-3617, 510, 0) := by kernel_rfl
theorem bof4997_18 : impl_BernoulliOf.f 4997 18 = some (43867, 798, 0) := by kernel_rfl
theorem bof4997_20 : impl_BernoulliOf.f 4997 20 = some (-174611, 330, 0) := by kernel_rfl
end Go.Proofs.Ytgcggngleiggiaa.Pure
