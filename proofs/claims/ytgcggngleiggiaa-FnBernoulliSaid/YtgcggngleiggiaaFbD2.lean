/-
Units of some orders. Conditions: none (closed terms).
-/
import Derived.Test.YtgcggngleiggiaaFbD
namespace Go.Proofs.Ytgcggngleiggiaa.Pure
open Go.RowKit Go.Proofs.Ytgcggngleiggiaa.Pr Go.Proofs.YtgcggngleiggiaaW.PrintWords Go.Proofs.YtgcggngleiggiaaW.PrintLast
set_option maxRecDepth 100000
theorem unit15_0 : chkD 15 0 = true := by kernel_rfl
theorem unit15_1 : chkD 15 1 = true := by kernel_rfl
theorem unit15_2 : chkD 15 2 = true := by kernel_rfl
theorem unit15_3 : chkD 15 3 = true := by kernel_rfl
theorem unit15_4 : chkD 15 4 = true := by kernel_rfl
theorem unit15_5 : chkD 15 5 = true := by kernel_rfl
theorem unit15_6 : chkD 15 6 = true := by kernel_rfl
theorem unit15_7 : chkD 15 7 = true := by kernel_rfl
theorem unit15_8 : chkD 15 8 = true := by kernel_rfl
theorem unit15_9 : chkD 15 9 = true := by kernel_rfl
theorem unit15_10 : chkD 15 10 = true := by kernel_rfl
theorem unit15_11 : chkD 15 11 = true := by kernel_rfl
theorem unit15_12 : chkD 15 12 = true := by kernel_rfl
theorem unit15_13 : chkD 15 13 = true := by kernel_rfl
theorem unit15_14 : chkD 15 14 = true := by kernel_rfl
theorem unit15_15 : chkD 15 15 = true := by kernel_rfl
theorem unit15_16 : chkD 15 16 = true := by kernel_rfl
theorem unit15 : ((List.range 17).all fun a => chkD 15 (a : Int)) = true := by
  rw [List.all_eq_true]
  intro a ha
  have h := List.mem_range.mp ha
  match a, h with
  | 0, _ => exact unit15_0
  | 1, _ => exact unit15_1
  | 2, _ => exact unit15_2
  | 3, _ => exact unit15_3
  | 4, _ => exact unit15_4
  | 5, _ => exact unit15_5
  | 6, _ => exact unit15_6
  | 7, _ => exact unit15_7
  | 8, _ => exact unit15_8
  | 9, _ => exact unit15_9
  | 10, _ => exact unit15_10
  | 11, _ => exact unit15_11
  | 12, _ => exact unit15_12
  | 13, _ => exact unit15_13
  | 14, _ => exact unit15_14
  | 15, _ => exact unit15_15
  | 16, _ => exact unit15_16
  | a + 17, h => exact absurd h (by omega)
theorem unit14 : ((List.range 16).all fun a => chkD 14 (a : Int)) = true := by kernel_rfl
theorem unit12 : ((List.range 14).all fun a => chkD 12 (a : Int)) = true := by kernel_rfl
theorem unit10 : ((List.range 12).all fun a => chkD 10 (a : Int)) = true := by kernel_rfl
theorem unit8 : ((List.range 10).all fun a => chkD 8 (a : Int)) = true := by kernel_rfl
theorem unit5 : ((List.range 7).all fun a => chkD 5 (a : Int)) = true := by kernel_rfl
theorem unit6 : ((List.range 8).all fun a => chkD 6 (a : Int)) = true := by kernel_rfl
theorem unit4 : ((List.range 6).all fun a => chkD 4 (a : Int)) = true := by kernel_rfl
theorem unit3 : ((List.range 5).all fun a => chkD 3 (a : Int)) = true := by kernel_rfl
theorem unit2 : ((List.range 4).all fun a => chkD 2 (a : Int)) = true := by kernel_rfl
theorem unit1 : ((List.range 3).all fun a => chkD 1 (a : Int)) = true := by kernel_rfl
theorem unit21 : ((List.range 23).all fun a => chkD 21 (a : Int)) = true := by kernel_rfl
theorem unit22 : ((List.range 24).all fun a => chkD 22 (a : Int)) = true := by kernel_rfl
theorem unit23 : ((List.range 25).all fun a => chkD 23 (a : Int)) = true := by kernel_rfl
theorem unit24 : ((List.range 26).all fun a => chkD 24 (a : Int)) = true := by kernel_rfl
theorem unit25 : ((List.range 27).all fun a => chkD 25 (a : Int)) = true := by kernel_rfl
theorem unit26 : ((List.range 28).all fun a => chkD 26 (a : Int)) = true := by kernel_rfl
theorem unit27 : ((List.range 29).all fun a => chkD 27 (a : Int)) = true := by kernel_rfl
theorem unit28 : ((List.range 30).all fun a => chkD 28 (a : Int)) = true := by kernel_rfl
theorem unit29 : ((List.range 31).all fun a => chkD 29 (a : Int)) = true := by kernel_rfl
theorem unit30 : ((List.range 32).all fun a => chkD 30 (a : Int)) = true := by kernel_rfl
theorem unit31 : ((List.range 33).all fun a => chkD 31 (a : Int)) = true := by kernel_rfl
theorem unit32 : ((List.range 34).all fun a => chkD 32 (a : Int)) = true := by kernel_rfl
theorem unit33 : ((List.range 35).all fun a => chkD 33 (a : Int)) = true := by kernel_rfl
theorem unit34 : ((List.range 36).all fun a => chkD 34 (a : Int)) = true := by kernel_rfl
theorem unit35 : ((List.range 37).all fun a => chkD 35 (a : Int)) = true := by kernel_rfl
theorem unit36 : ((List.range 38).all fun a => chkD 36 (a : Int)) = true := by kernel_rfl
end Go.Proofs.Ytgcggngleiggiaa.Pure
