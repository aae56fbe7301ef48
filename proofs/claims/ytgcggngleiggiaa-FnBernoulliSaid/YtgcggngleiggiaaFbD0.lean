/-
Units of some orders. Conditions: none (closed terms).
-/
import Derived.Test.YtgcggngleiggiaaFbD
namespace Go.Proofs.Ytgcggngleiggiaa.Pure
open Go.RowKit Go.Proofs.Ytgcggngleiggiaa.Pr Go.Proofs.YtgcggngleiggiaaW.PrintWords Go.Proofs.YtgcggngleiggiaaW.PrintLast
set_option maxRecDepth 100000
theorem unit13_0 : chkD 13 0 = true := by kernel_rfl
theorem unit13_1 : chkD 13 1 = true := by kernel_rfl
theorem unit13_2 : chkD 13 2 = true := by kernel_rfl
theorem unit13_3 : chkD 13 3 = true := by kernel_rfl
theorem unit13_4 : chkD 13 4 = true := by kernel_rfl
theorem unit13_5 : chkD 13 5 = true := by kernel_rfl
theorem unit13_6 : chkD 13 6 = true := by kernel_rfl
theorem unit13_7 : chkD 13 7 = true := by kernel_rfl
theorem unit13_8 : chkD 13 8 = true := by kernel_rfl
theorem unit13_9 : chkD 13 9 = true := by kernel_rfl
theorem unit13_10 : chkD 13 10 = true := by kernel_rfl
theorem unit13_11 : chkD 13 11 = true := by kernel_rfl
theorem unit13_12 : chkD 13 12 = true := by kernel_rfl
theorem unit13_13 : chkD 13 13 = true := by kernel_rfl
theorem unit13_14 : chkD 13 14 = true := by kernel_rfl
theorem unit13 : ((List.range 15).all fun a => chkD 13 (a : Int)) = true := by
  rw [List.all_eq_true]
  intro a ha
  have h := List.mem_range.mp ha
  match a, h with
  | 0, _ => exact unit13_0
  | 1, _ => exact unit13_1
  | 2, _ => exact unit13_2
  | 3, _ => exact unit13_3
  | 4, _ => exact unit13_4
  | 5, _ => exact unit13_5
  | 6, _ => exact unit13_6
  | 7, _ => exact unit13_7
  | 8, _ => exact unit13_8
  | 9, _ => exact unit13_9
  | 10, _ => exact unit13_10
  | 11, _ => exact unit13_11
  | 12, _ => exact unit13_12
  | 13, _ => exact unit13_13
  | 14, _ => exact unit13_14
  | a + 15, h => exact absurd h (by omega)
end Go.Proofs.Ytgcggngleiggiaa.Pure
