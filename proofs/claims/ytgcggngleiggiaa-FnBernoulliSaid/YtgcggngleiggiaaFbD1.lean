/-
Units of some orders. Conditions: none (closed terms).
-/
import Derived.Test.YtgcggngleiggiaaFbD
namespace Go.Proofs.Ytgcggngleiggiaa.Pure
open Go.RowKit Go.Proofs.Ytgcggngleiggiaa.Pr Go.Proofs.YtgcggngleiggiaaW.PrintWords Go.Proofs.YtgcggngleiggiaaW.PrintLast
set_option maxRecDepth 100000
theorem unit11_0 : chkD 11 0 = true := by kernel_rfl
theorem unit11_1 : chkD 11 1 = true := by kernel_rfl
theorem unit11_2 : chkD 11 2 = true := by kernel_rfl
theorem unit11_3 : chkD 11 3 = true := by kernel_rfl
theorem unit11_4 : chkD 11 4 = true := by kernel_rfl
theorem unit11_5 : chkD 11 5 = true := by kernel_rfl
theorem unit11_6 : chkD 11 6 = true := by kernel_rfl
theorem unit11_7 : chkD 11 7 = true := by kernel_rfl
theorem unit11_8 : chkD 11 8 = true := by kernel_rfl
theorem unit11_9 : chkD 11 9 = true := by kernel_rfl
theorem unit11_10 : chkD 11 10 = true := by kernel_rfl
theorem unit11_11 : chkD 11 11 = true := by kernel_rfl
theorem unit11_12 : chkD 11 12 = true := by kernel_rfl
theorem unit11 : ((List.range 13).all fun a => chkD 11 (a : Int)) = true := by
  rw [List.all_eq_true]
  intro a ha
  have h := List.mem_range.mp ha
  match a, h with
  | 0, _ => exact unit11_0
  | 1, _ => exact unit11_1
  | 2, _ => exact unit11_2
  | 3, _ => exact unit11_3
  | 4, _ => exact unit11_4
  | 5, _ => exact unit11_5
  | 6, _ => exact unit11_6
  | 7, _ => exact unit11_7
  | 8, _ => exact unit11_8
  | 9, _ => exact unit11_9
  | 10, _ => exact unit11_10
  | 11, _ => exact unit11_11
  | 12, _ => exact unit11_12
  | a + 13, h => exact absurd h (by omega)
theorem unit16_0 : chkD 16 0 = true := by kernel_rfl
theorem unit16_1 : chkD 16 1 = true := by kernel_rfl
theorem unit16_2 : chkD 16 2 = true := by kernel_rfl
theorem unit16_3 : chkD 16 3 = true := by kernel_rfl
theorem unit16_4 : chkD 16 4 = true := by kernel_rfl
theorem unit16_5 : chkD 16 5 = true := by kernel_rfl
theorem unit16_6 : chkD 16 6 = true := by kernel_rfl
theorem unit16_7 : chkD 16 7 = true := by kernel_rfl
theorem unit16_8 : chkD 16 8 = true := by kernel_rfl
theorem unit16_9 : chkD 16 9 = true := by kernel_rfl
theorem unit16_10 : chkD 16 10 = true := by kernel_rfl
theorem unit16_11 : chkD 16 11 = true := by kernel_rfl
theorem unit16_12 : chkD 16 12 = true := by kernel_rfl
theorem unit16_13 : chkD 16 13 = true := by kernel_rfl
theorem unit16_14 : chkD 16 14 = true := by kernel_rfl
theorem unit16_15 : chkD 16 15 = true := by kernel_rfl
theorem unit16_16 : chkD 16 16 = true := by kernel_rfl
theorem unit16_17 : chkD 16 17 = true := by kernel_rfl
theorem unit16 : ((List.range 18).all fun a => chkD 16 (a : Int)) = true := by
  rw [List.all_eq_true]
  intro a ha
  have h := List.mem_range.mp ha
  match a, h with
  | 0, _ => exact unit16_0
  | 1, _ => exact unit16_1
  | 2, _ => exact unit16_2
  | 3, _ => exact unit16_3
  | 4, _ => exact unit16_4
  | 5, _ => exact unit16_5
  | 6, _ => exact unit16_6
  | 7, _ => exact unit16_7
  | 8, _ => exact unit16_8
  | 9, _ => exact unit16_9
  | 10, _ => exact unit16_10
  | 11, _ => exact unit16_11
  | 12, _ => exact unit16_12
  | 13, _ => exact unit16_13
  | 14, _ => exact unit16_14
  | 15, _ => exact unit16_15
  | 16, _ => exact unit16_16
  | 17, _ => exact unit16_17
  | a + 18, h => exact absurd h (by omega)
theorem unit9 : ((List.range 11).all fun a => chkD 9 (a : Int)) = true := by kernel_rfl
theorem unit7 : ((List.range 9).all fun a => chkD 7 (a : Int)) = true := by kernel_rfl
end Go.Proofs.Ytgcggngleiggiaa.Pure
