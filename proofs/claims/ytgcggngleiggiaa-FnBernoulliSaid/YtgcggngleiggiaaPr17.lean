-- Printed by a program of this session, hand-proved contracts among it.
import Derived.Test.YtgcggngleiggiaaPr0
import Derived.Test.YtgcggngleiggiaaPr1
import Derived.Test.YtgcggngleiggiaaPr2
import Derived.Test.YtgcggngleiggiaaPr3
import Derived.Test.YtgcggngleiggiaaPr4
import Derived.Test.YtgcggngleiggiaaPr6
import Derived.Test.YtgcggngleiggiaaPr7
import Derived.Test.YtgcggngleiggiaaPr10
import Derived.Test.YtgcggngleiggiaaPr14
import Derived.Test.YtgcggngleiggiaaPr16
namespace Go.Proofs.Ytgcggngleiggiaa.Pr
open Go.RowKit Go.Proofs.YtgcggngleiggiaaW.PrintWords Go.Proofs.YtgcggngleiggiaaW.PrintLast Go.Proofs.YtgcggngleiggiaaW.PrintMore Go.Proofs.Ytgcggngleiggiaa.Sq
attribute [local go_sem] max2_int min2_int max_two min_two max_three min_three max_four min_four   -- for this text's walks alone
set_option linter.unusedVariables false
set_option linter.unusedSimpArgs false

/-! ### laws_FnBernoulli: function 13 -/
mutual
def laws_FnBernoulli.j0 : Nat → Int → Int → Int → Int → Int → Int → Int → Int → Int → List Int → Int → Option (Bool)
 | 0, _, _, _, _, _, _, _, _, _, _, _ => none
 | k + 1, x3, x4, x5, x6, x10, x11, x12, x13, x16, x17, x18 => if x18 = 0 then (laws_FnBernoulli.l0 k x3 x4 x5 x6 x10 x11 x12 x13 x16 x17 0) else (laws_FnBernoulli.j2 k x3 x4 x5 x6 x10 x11 x12 x13)
def laws_FnBernoulli.j2 : Nat → Int → Int → Int → Int → Int → Int → Int → Int → Option (Bool)
 | 0, _, _, _, _, _, _, _, _ => none
 | k + 1, x3, x4, x5, x6, x10, x11, x12, x13 => if x13 = 0 then (laws_FnBernoulli.j3 k x3 x4 x5 x6 x10 x11 x12 (decide (x11 ≤ 20))) else (laws_FnBernoulli.j3 k x3 x4 x5 x6 x10 x11 x12 false)
def laws_FnBernoulli.j3 : Nat → Int → Int → Int → Int → Int → Int → Int → Bool → Option (Bool)
 | 0, _, _, _, _, _, _, _, _ => none
 | k + 1, x3, x4, x5, x6, x10, x11, x12, x177 => if x177 = true then ((impl_BernoulliOf.f k x11).bind fun bt635 => (if bt635.2.2 = 0 then (if x10 = 0 then (none) else (if (Int.tmod bt635.2.1 x10) = 0 then (none) else (if (Int.tmod (wrap64 ((Int.tmod (wrap64 ((wrap64 (x12 * bt635.2.1)) - bt635.1)) x10) + x10)) x10) = 0 then (if x6 = 0 then (if x5 ≥ 1 then (if (Int.tmod x3 2) = 0 then (some true) else (if x3 = 1 then (some true) else (some (x4 == 0)))) else (none)) else (if x4 = 0 then (some (x5 == 0)) else (none))) else (none)))) else (none))) else (if x6 = 0 then (if x5 ≥ 1 then (if (Int.tmod x3 2) = 0 then (some true) else (if x3 = 1 then (some true) else (some (x4 == 0)))) else (none)) else (if x4 = 0 then (some (x5 == 0)) else (none)))
def laws_FnBernoulli.l0 : Nat → Int → Int → Int → Int → Int → Int → Int → Int → Int → List Int → Int → Option (Bool)
 | 0, _, _, _, _, _, _, _, _, _, _, _ => none
 | k + 1, x3, x4, x5, x6, x10, x11, x12, x13, x16, x17, x29 => if x29 < (x17.length : Int) then (if 0 ≤ x29 then ((impl_BernoulliModulo.f k x16 (rd x17 x29)).bind fun bt633 => (if bt633.2 = 0 then (if bt633.1 = 0 then (laws_FnBernoulli.l0 k x3 x4 x5 x6 x10 x11 x12 x13 x16 x17 (wrap64 (x29 + 1))) else (none)) else (none))) else (none)) else (laws_FnBernoulli.j2 k x3 x4 x5 x6 x10 x11 x12 x13)
end
def laws_FnBernoulli.f (k : Nat) (l0 : List Int) : Option (Bool) := (laws_big.f l0).bind fun t591 => (if t591 = true then (some true) else ((spec_DrawBernoulliOf.f k l0).bind fun t592 => ((impl_BernoulliOf.f k t592).bind fun bt593 => ((spec_BernoulliOf.f k t592).bind fun bt596 => (if bt593.2.2 = bt596.2.2 then (if bt593.1 = bt596.1 then (if bt593.2.1 = bt596.2.1 then ((spec_DrawBernoulliModulo.f k l0).bind fun bt599 => ((impl_BernoulliModulo.f k bt599.1 bt599.2).bind fun bt601 => ((spec_BernoulliModulo.f k bt599.1 bt599.2).bind fun bt603 => (if bt601.2 = bt603.2 then (if bt601.1 = bt603.1 then ((spec_DrawIrregularOf.f k l0).bind fun t605 => ((impl_IrregularOf.f k t605).bind fun bt606 => ((spec_IrregularOf.f k t605).bind fun bt610 => (if bt606.2 = bt610.2 then ((laws_likeInts.f k bt606.1 bt610.1).bind fun t614 => (if t614 = true then ((spec_DrawCyclotomicUnit.f k l0).bind fun bt615 => ((impl_CyclotomicUnit.f k bt615.1 bt615.2).bind fun bt617 => ((spec_CyclotomicUnit.f k bt615.1 bt615.2).bind fun bt623 => (if bt617.2.2 = bt623.2.2 then ((laws_cyclo9.f k bt617.1 bt617.2.1 bt623.1 bt623.2.1).bind fun t629 => (if t629 = true then (if bt617.2.2 = 0 then ((impl_IsUnit.f k bt617.1 bt617.2.1).bind fun bt630 => (if bt630.2 = 0 then (if bt630.1 = true then (laws_FnBernoulli.j0 k t592 bt593.1 bt593.2.1 bt593.2.2 bt599.1 bt599.2 bt601.1 bt601.2 t605 bt606.1 bt606.2) else (none)) else (laws_FnBernoulli.j0 k t592 bt593.1 bt593.2.1 bt593.2.2 bt599.1 bt599.2 bt601.1 bt601.2 t605 bt606.1 bt606.2))) else (laws_FnBernoulli.j0 k t592 bt593.1 bt593.2.1 bt593.2.2 bt599.1 bt599.2 bt601.1 bt601.2 t605 bt606.1 bt606.2)) else (none))) else (none))))) else (none))) else (none))))) else (none)) else (none))))) else (none)) else (none)) else (none))))))
set_option maxHeartbeats 8000000 in
set_option maxRecDepth 100000 in
theorem laws_FnBernoulli.calls (k : Nat) (A0 : Option Addr) (c0 : Nat) (l0 : List Int) (r : Bool) (w : World) (hr0 : Kd.C (Kd.int .u8) w A0 l0.length l0) (hc0 : l0.length ≤ c0) (h : laws_FnBernoulli.f k l0 = some r) :
  Calls Try.prog 13 #[.slice A0 l0.length c0] w fun e w' => e = .returned (.bool r) ∧ Below w.heap.size w w' := by
 have hu32 := Try.underlying32
 have HR0 := Aside0.mk hr0
 have HC0 := Aside0.mk hc0
 clear hr0 hc0
 have HB := Aside0.mk (Below.refl w.heap.size w)
 have H : ((laws_big.f l0).bind fun t591 => (if t591 = true then (some true) else ((spec_DrawBernoulliOf.f k l0).bind fun t592 => ((impl_BernoulliOf.f k t592).bind fun bt593 => ((spec_BernoulliOf.f k t592).bind fun bt596 => (if bt593.2.2 = bt596.2.2 then (if bt593.1 = bt596.1 then (if bt593.2.1 = bt596.2.1 then ((spec_DrawBernoulliModulo.f k l0).bind fun bt599 => ((impl_BernoulliModulo.f k bt599.1 bt599.2).bind fun bt601 => ((spec_BernoulliModulo.f k bt599.1 bt599.2).bind fun bt603 => (if bt601.2 = bt603.2 then (if bt601.1 = bt603.1 then ((spec_DrawIrregularOf.f k l0).bind fun t605 => ((impl_IrregularOf.f k t605).bind fun bt606 => ((spec_IrregularOf.f k t605).bind fun bt610 => (if bt606.2 = bt610.2 then ((laws_likeInts.f k bt606.1 bt610.1).bind fun t614 => (if t614 = true then ((spec_DrawCyclotomicUnit.f k l0).bind fun bt615 => ((impl_CyclotomicUnit.f k bt615.1 bt615.2).bind fun bt617 => ((spec_CyclotomicUnit.f k bt615.1 bt615.2).bind fun bt623 => (if bt617.2.2 = bt623.2.2 then ((laws_cyclo9.f k bt617.1 bt617.2.1 bt623.1 bt623.2.1).bind fun t629 => (if t629 = true then (if bt617.2.2 = 0 then ((impl_IsUnit.f k bt617.1 bt617.2.1).bind fun bt630 => (if bt630.2 = 0 then (if bt630.1 = true then (laws_FnBernoulli.j0 k t592 bt593.1 bt593.2.1 bt593.2.2 bt599.1 bt599.2 bt601.1 bt601.2 t605 bt606.1 bt606.2) else (none)) else (laws_FnBernoulli.j0 k t592 bt593.1 bt593.2.1 bt593.2.2 bt599.1 bt599.2 bt601.1 bt601.2 t605 bt606.1 bt606.2))) else (laws_FnBernoulli.j0 k t592 bt593.1 bt593.2.1 bt593.2.2 bt599.1 bt599.2 bt601.1 bt601.2 t605 bt606.1 bt606.2)) else (none))) else (none))))) else (none))) else (none))))) else (none)) else (none))))) else (none)) else (none)) else (none))))))) = some r := h
 clear h
 replace H := Option.bind_eq_some_iff.mp H
 obtain ⟨t591, A20, H⟩ := H
 replace H : (if t591 = true then (some true) else ((spec_DrawBernoulliOf.f k l0).bind fun t592 => ((impl_BernoulliOf.f k t592).bind fun bt593 => ((spec_BernoulliOf.f k t592).bind fun bt596 => (if bt593.2.2 = bt596.2.2 then (if bt593.1 = bt596.1 then (if bt593.2.1 = bt596.2.1 then ((spec_DrawBernoulliModulo.f k l0).bind fun bt599 => ((impl_BernoulliModulo.f k bt599.1 bt599.2).bind fun bt601 => ((spec_BernoulliModulo.f k bt599.1 bt599.2).bind fun bt603 => (if bt601.2 = bt603.2 then (if bt601.1 = bt603.1 then ((spec_DrawIrregularOf.f k l0).bind fun t605 => ((impl_IrregularOf.f k t605).bind fun bt606 => ((spec_IrregularOf.f k t605).bind fun bt610 => (if bt606.2 = bt610.2 then ((laws_likeInts.f k bt606.1 bt610.1).bind fun t614 => (if t614 = true then ((spec_DrawCyclotomicUnit.f k l0).bind fun bt615 => ((impl_CyclotomicUnit.f k bt615.1 bt615.2).bind fun bt617 => ((spec_CyclotomicUnit.f k bt615.1 bt615.2).bind fun bt623 => (if bt617.2.2 = bt623.2.2 then ((laws_cyclo9.f k bt617.1 bt617.2.1 bt623.1 bt623.2.1).bind fun t629 => (if t629 = true then (if bt617.2.2 = 0 then ((impl_IsUnit.f k bt617.1 bt617.2.1).bind fun bt630 => (if bt630.2 = 0 then (if bt630.1 = true then (laws_FnBernoulli.j0 k t592 bt593.1 bt593.2.1 bt593.2.2 bt599.1 bt599.2 bt601.1 bt601.2 t605 bt606.1 bt606.2) else (none)) else (laws_FnBernoulli.j0 k t592 bt593.1 bt593.2.1 bt593.2.2 bt599.1 bt599.2 bt601.1 bt601.2 t605 bt606.1 bt606.2))) else (laws_FnBernoulli.j0 k t592 bt593.1 bt593.2.1 bt593.2.2 bt599.1 bt599.2 bt601.1 bt601.2 t605 bt606.1 bt606.2)) else (none))) else (none))))) else (none))) else (none))))) else (none)) else (none))))) else (none)) else (none)) else (none)))))) = some r := H
 have A2 := Aside0.mk A20
 clear A20
 by_cases c3 : t591 = true
 ·subst c3
  have H1 : (some true) = some r := by rw [if_pos rfl] at H; exact H
  clear H
  have H := H1
  clear H1
  obtain rfl := Option.some.inj H
  go_enter Try.func13, Try.ntmps13
  go_wp2_with (first | ((with_reducible refine gate_callee (f := 14) rfl ?_); refine goesL_ (some 36) rfl rfl Try.func14 (by kernel_rfl) rfl #[.slice A0 l0.length c0] rfl ar ?_; (with_reducible refine (laws_big.calls _ _ l0 true _ ?side1 ?side2 A2.out).mono ?_); (case side1 => exact kC HR0.out); (case side2 => exact HC0.out); rintro e w' ⟨rfl, ⟨nd, rfl⟩⟩; refine ⟨_, rfl, ?_⟩))
  go_ret
  exact ⟨by first | rfl | (simp [errW_none, errW_some] <;> rfl) | (simp [*, errW_none, errW_some] <;> rfl), tb⟩
 ·replace c3 := Bool.eq_false_iff.mpr c3
  subst c3
  have H1 : ((spec_DrawBernoulliOf.f k l0).bind fun t592 => ((impl_BernoulliOf.f k t592).bind fun bt593 => ((spec_BernoulliOf.f k t592).bind fun bt596 => (if bt593.2.2 = bt596.2.2 then (if bt593.1 = bt596.1 then (if bt593.2.1 = bt596.2.1 then ((spec_DrawBernoulliModulo.f k l0).bind fun bt599 => ((impl_BernoulliModulo.f k bt599.1 bt599.2).bind fun bt601 => ((spec_BernoulliModulo.f k bt599.1 bt599.2).bind fun bt603 => (if bt601.2 = bt603.2 then (if bt601.1 = bt603.1 then ((spec_DrawIrregularOf.f k l0).bind fun t605 => ((impl_IrregularOf.f k t605).bind fun bt606 => ((spec_IrregularOf.f k t605).bind fun bt610 => (if bt606.2 = bt610.2 then ((laws_likeInts.f k bt606.1 bt610.1).bind fun t614 => (if t614 = true then ((spec_DrawCyclotomicUnit.f k l0).bind fun bt615 => ((impl_CyclotomicUnit.f k bt615.1 bt615.2).bind fun bt617 => ((spec_CyclotomicUnit.f k bt615.1 bt615.2).bind fun bt623 => (if bt617.2.2 = bt623.2.2 then ((laws_cyclo9.f k bt617.1 bt617.2.1 bt623.1 bt623.2.1).bind fun t629 => (if t629 = true then (if bt617.2.2 = 0 then ((impl_IsUnit.f k bt617.1 bt617.2.1).bind fun bt630 => (if bt630.2 = 0 then (if bt630.1 = true then (laws_FnBernoulli.j0 k t592 bt593.1 bt593.2.1 bt593.2.2 bt599.1 bt599.2 bt601.1 bt601.2 t605 bt606.1 bt606.2) else (none)) else (laws_FnBernoulli.j0 k t592 bt593.1 bt593.2.1 bt593.2.2 bt599.1 bt599.2 bt601.1 bt601.2 t605 bt606.1 bt606.2))) else (laws_FnBernoulli.j0 k t592 bt593.1 bt593.2.1 bt593.2.2 bt599.1 bt599.2 bt601.1 bt601.2 t605 bt606.1 bt606.2)) else (none))) else (none))))) else (none))) else (none))))) else (none)) else (none))))) else (none)) else (none)) else (none))))) = some r := by rw [if_neg (show ¬ (false = true) by decide)] at H; exact H
  clear H
  have H := H1
  clear H1
  replace H := Option.bind_eq_some_iff.mp H
  obtain ⟨t592, A40, H⟩ := H
  replace H : ((impl_BernoulliOf.f k t592).bind fun bt593 => ((spec_BernoulliOf.f k t592).bind fun bt596 => (if bt593.2.2 = bt596.2.2 then (if bt593.1 = bt596.1 then (if bt593.2.1 = bt596.2.1 then ((spec_DrawBernoulliModulo.f k l0).bind fun bt599 => ((impl_BernoulliModulo.f k bt599.1 bt599.2).bind fun bt601 => ((spec_BernoulliModulo.f k bt599.1 bt599.2).bind fun bt603 => (if bt601.2 = bt603.2 then (if bt601.1 = bt603.1 then ((spec_DrawIrregularOf.f k l0).bind fun t605 => ((impl_IrregularOf.f k t605).bind fun bt606 => ((spec_IrregularOf.f k t605).bind fun bt610 => (if bt606.2 = bt610.2 then ((laws_likeInts.f k bt606.1 bt610.1).bind fun t614 => (if t614 = true then ((spec_DrawCyclotomicUnit.f k l0).bind fun bt615 => ((impl_CyclotomicUnit.f k bt615.1 bt615.2).bind fun bt617 => ((spec_CyclotomicUnit.f k bt615.1 bt615.2).bind fun bt623 => (if bt617.2.2 = bt623.2.2 then ((laws_cyclo9.f k bt617.1 bt617.2.1 bt623.1 bt623.2.1).bind fun t629 => (if t629 = true then (if bt617.2.2 = 0 then ((impl_IsUnit.f k bt617.1 bt617.2.1).bind fun bt630 => (if bt630.2 = 0 then (if bt630.1 = true then (laws_FnBernoulli.j0 k t592 bt593.1 bt593.2.1 bt593.2.2 bt599.1 bt599.2 bt601.1 bt601.2 t605 bt606.1 bt606.2) else (none)) else (laws_FnBernoulli.j0 k t592 bt593.1 bt593.2.1 bt593.2.2 bt599.1 bt599.2 bt601.1 bt601.2 t605 bt606.1 bt606.2))) else (laws_FnBernoulli.j0 k t592 bt593.1 bt593.2.1 bt593.2.2 bt599.1 bt599.2 bt601.1 bt601.2 t605 bt606.1 bt606.2)) else (none))) else (none))))) else (none))) else (none))))) else (none)) else (none))))) else (none)) else (none)) else (none)))) = some r := H
  have A4 := Aside0.mk A40
  clear A40
  replace H := Option.bind_eq_some_iff.mp H
  obtain ⟨⟨t593, t594, t595⟩, A50, H⟩ := H
  replace H : ((spec_BernoulliOf.f k t592).bind fun bt596 => (if t595 = bt596.2.2 then (if t593 = bt596.1 then (if t594 = bt596.2.1 then ((spec_DrawBernoulliModulo.f k l0).bind fun bt599 => ((impl_BernoulliModulo.f k bt599.1 bt599.2).bind fun bt601 => ((spec_BernoulliModulo.f k bt599.1 bt599.2).bind fun bt603 => (if bt601.2 = bt603.2 then (if bt601.1 = bt603.1 then ((spec_DrawIrregularOf.f k l0).bind fun t605 => ((impl_IrregularOf.f k t605).bind fun bt606 => ((spec_IrregularOf.f k t605).bind fun bt610 => (if bt606.2 = bt610.2 then ((laws_likeInts.f k bt606.1 bt610.1).bind fun t614 => (if t614 = true then ((spec_DrawCyclotomicUnit.f k l0).bind fun bt615 => ((impl_CyclotomicUnit.f k bt615.1 bt615.2).bind fun bt617 => ((spec_CyclotomicUnit.f k bt615.1 bt615.2).bind fun bt623 => (if bt617.2.2 = bt623.2.2 then ((laws_cyclo9.f k bt617.1 bt617.2.1 bt623.1 bt623.2.1).bind fun t629 => (if t629 = true then (if bt617.2.2 = 0 then ((impl_IsUnit.f k bt617.1 bt617.2.1).bind fun bt630 => (if bt630.2 = 0 then (if bt630.1 = true then (laws_FnBernoulli.j0 k t592 t593 t594 t595 bt599.1 bt599.2 bt601.1 bt601.2 t605 bt606.1 bt606.2) else (none)) else (laws_FnBernoulli.j0 k t592 t593 t594 t595 bt599.1 bt599.2 bt601.1 bt601.2 t605 bt606.1 bt606.2))) else (laws_FnBernoulli.j0 k t592 t593 t594 t595 bt599.1 bt599.2 bt601.1 bt601.2 t605 bt606.1 bt606.2)) else (none))) else (none))))) else (none))) else (none))))) else (none)) else (none))))) else (none)) else (none)) else (none))) = some r := H
  have A5 := Aside0.mk A50
  clear A50
  replace H := Option.bind_eq_some_iff.mp H
  obtain ⟨⟨t596, t597, t598⟩, A60, H⟩ := H
  replace H : (if t595 = t598 then (if t593 = t596 then (if t594 = t597 then ((spec_DrawBernoulliModulo.f k l0).bind fun bt599 => ((impl_BernoulliModulo.f k bt599.1 bt599.2).bind fun bt601 => ((spec_BernoulliModulo.f k bt599.1 bt599.2).bind fun bt603 => (if bt601.2 = bt603.2 then (if bt601.1 = bt603.1 then ((spec_DrawIrregularOf.f k l0).bind fun t605 => ((impl_IrregularOf.f k t605).bind fun bt606 => ((spec_IrregularOf.f k t605).bind fun bt610 => (if bt606.2 = bt610.2 then ((laws_likeInts.f k bt606.1 bt610.1).bind fun t614 => (if t614 = true then ((spec_DrawCyclotomicUnit.f k l0).bind fun bt615 => ((impl_CyclotomicUnit.f k bt615.1 bt615.2).bind fun bt617 => ((spec_CyclotomicUnit.f k bt615.1 bt615.2).bind fun bt623 => (if bt617.2.2 = bt623.2.2 then ((laws_cyclo9.f k bt617.1 bt617.2.1 bt623.1 bt623.2.1).bind fun t629 => (if t629 = true then (if bt617.2.2 = 0 then ((impl_IsUnit.f k bt617.1 bt617.2.1).bind fun bt630 => (if bt630.2 = 0 then (if bt630.1 = true then (laws_FnBernoulli.j0 k t592 t593 t594 t595 bt599.1 bt599.2 bt601.1 bt601.2 t605 bt606.1 bt606.2) else (none)) else (laws_FnBernoulli.j0 k t592 t593 t594 t595 bt599.1 bt599.2 bt601.1 bt601.2 t605 bt606.1 bt606.2))) else (laws_FnBernoulli.j0 k t592 t593 t594 t595 bt599.1 bt599.2 bt601.1 bt601.2 t605 bt606.1 bt606.2)) else (none))) else (none))))) else (none))) else (none))))) else (none)) else (none))))) else (none)) else (none)) else (none)) = some r := H
  have A6 := Aside0.mk A60
  clear A60
  by_cases c7 : t595 = t598
  ·rw [if_pos c7] at H
   have c7b0 : (t595 == t598) = true := beq_iff_eq.mpr c7
   have c7b1 : (t595 != t598) = false := bne_eq_false_iff_eq.mpr c7
   clear c7
   by_cases c8 : t593 = t596
   ·rw [if_pos c8] at H
    have c8b0 : (t593 == t596) = true := beq_iff_eq.mpr c8
    have c8b1 : (t593 != t596) = false := bne_eq_false_iff_eq.mpr c8
    clear c8
    by_cases c9 : t594 = t597
    ·rw [if_pos c9] at H
     have c9b0 : (t594 == t597) = true := beq_iff_eq.mpr c9
     have c9b1 : (t594 != t597) = false := bne_eq_false_iff_eq.mpr c9
     clear c9
     replace H := Option.bind_eq_some_iff.mp H
     obtain ⟨⟨t599, t600⟩, A100, H⟩ := H
     replace H : ((impl_BernoulliModulo.f k t599 t600).bind fun bt601 => ((spec_BernoulliModulo.f k t599 t600).bind fun bt603 => (if bt601.2 = bt603.2 then (if bt601.1 = bt603.1 then ((spec_DrawIrregularOf.f k l0).bind fun t605 => ((impl_IrregularOf.f k t605).bind fun bt606 => ((spec_IrregularOf.f k t605).bind fun bt610 => (if bt606.2 = bt610.2 then ((laws_likeInts.f k bt606.1 bt610.1).bind fun t614 => (if t614 = true then ((spec_DrawCyclotomicUnit.f k l0).bind fun bt615 => ((impl_CyclotomicUnit.f k bt615.1 bt615.2).bind fun bt617 => ((spec_CyclotomicUnit.f k bt615.1 bt615.2).bind fun bt623 => (if bt617.2.2 = bt623.2.2 then ((laws_cyclo9.f k bt617.1 bt617.2.1 bt623.1 bt623.2.1).bind fun t629 => (if t629 = true then (if bt617.2.2 = 0 then ((impl_IsUnit.f k bt617.1 bt617.2.1).bind fun bt630 => (if bt630.2 = 0 then (if bt630.1 = true then (laws_FnBernoulli.j0 k t592 t593 t594 t595 t599 t600 bt601.1 bt601.2 t605 bt606.1 bt606.2) else (none)) else (laws_FnBernoulli.j0 k t592 t593 t594 t595 t599 t600 bt601.1 bt601.2 t605 bt606.1 bt606.2))) else (laws_FnBernoulli.j0 k t592 t593 t594 t595 t599 t600 bt601.1 bt601.2 t605 bt606.1 bt606.2)) else (none))) else (none))))) else (none))) else (none))))) else (none)) else (none)))) = some r := H
     have A10 := Aside0.mk A100
     clear A100
     replace H := Option.bind_eq_some_iff.mp H
     obtain ⟨⟨t601, t602⟩, A110, H⟩ := H
     replace H : ((spec_BernoulliModulo.f k t599 t600).bind fun bt603 => (if t602 = bt603.2 then (if t601 = bt603.1 then ((spec_DrawIrregularOf.f k l0).bind fun t605 => ((impl_IrregularOf.f k t605).bind fun bt606 => ((spec_IrregularOf.f k t605).bind fun bt610 => (if bt606.2 = bt610.2 then ((laws_likeInts.f k bt606.1 bt610.1).bind fun t614 => (if t614 = true then ((spec_DrawCyclotomicUnit.f k l0).bind fun bt615 => ((impl_CyclotomicUnit.f k bt615.1 bt615.2).bind fun bt617 => ((spec_CyclotomicUnit.f k bt615.1 bt615.2).bind fun bt623 => (if bt617.2.2 = bt623.2.2 then ((laws_cyclo9.f k bt617.1 bt617.2.1 bt623.1 bt623.2.1).bind fun t629 => (if t629 = true then (if bt617.2.2 = 0 then ((impl_IsUnit.f k bt617.1 bt617.2.1).bind fun bt630 => (if bt630.2 = 0 then (if bt630.1 = true then (laws_FnBernoulli.j0 k t592 t593 t594 t595 t599 t600 t601 t602 t605 bt606.1 bt606.2) else (none)) else (laws_FnBernoulli.j0 k t592 t593 t594 t595 t599 t600 t601 t602 t605 bt606.1 bt606.2))) else (laws_FnBernoulli.j0 k t592 t593 t594 t595 t599 t600 t601 t602 t605 bt606.1 bt606.2)) else (none))) else (none))))) else (none))) else (none))))) else (none)) else (none))) = some r := H
     have A11 := Aside0.mk A110
     clear A110
     replace H := Option.bind_eq_some_iff.mp H
     obtain ⟨⟨t603, t604⟩, A120, H⟩ := H
     replace H : (if t602 = t604 then (if t601 = t603 then ((spec_DrawIrregularOf.f k l0).bind fun t605 => ((impl_IrregularOf.f k t605).bind fun bt606 => ((spec_IrregularOf.f k t605).bind fun bt610 => (if bt606.2 = bt610.2 then ((laws_likeInts.f k bt606.1 bt610.1).bind fun t614 => (if t614 = true then ((spec_DrawCyclotomicUnit.f k l0).bind fun bt615 => ((impl_CyclotomicUnit.f k bt615.1 bt615.2).bind fun bt617 => ((spec_CyclotomicUnit.f k bt615.1 bt615.2).bind fun bt623 => (if bt617.2.2 = bt623.2.2 then ((laws_cyclo9.f k bt617.1 bt617.2.1 bt623.1 bt623.2.1).bind fun t629 => (if t629 = true then (if bt617.2.2 = 0 then ((impl_IsUnit.f k bt617.1 bt617.2.1).bind fun bt630 => (if bt630.2 = 0 then (if bt630.1 = true then (laws_FnBernoulli.j0 k t592 t593 t594 t595 t599 t600 t601 t602 t605 bt606.1 bt606.2) else (none)) else (laws_FnBernoulli.j0 k t592 t593 t594 t595 t599 t600 t601 t602 t605 bt606.1 bt606.2))) else (laws_FnBernoulli.j0 k t592 t593 t594 t595 t599 t600 t601 t602 t605 bt606.1 bt606.2)) else (none))) else (none))))) else (none))) else (none))))) else (none)) else (none)) = some r := H
     have A12 := Aside0.mk A120
     clear A120
     by_cases c13 : t602 = t604
     ·rw [if_pos c13] at H
      have c13b0 : (t602 == t604) = true := beq_iff_eq.mpr c13
      have c13b1 : (t602 != t604) = false := bne_eq_false_iff_eq.mpr c13
      clear c13
      by_cases c14 : t601 = t603
      ·rw [if_pos c14] at H
       have c14b0 : (t601 == t603) = true := beq_iff_eq.mpr c14
       have c14b1 : (t601 != t603) = false := bne_eq_false_iff_eq.mpr c14
       clear c14
       replace H := Option.bind_eq_some_iff.mp H
       obtain ⟨t605, A150, H⟩ := H
       replace H : ((impl_IrregularOf.f k t605).bind fun bt606 => ((spec_IrregularOf.f k t605).bind fun bt610 => (if bt606.2 = bt610.2 then ((laws_likeInts.f k bt606.1 bt610.1).bind fun t614 => (if t614 = true then ((spec_DrawCyclotomicUnit.f k l0).bind fun bt615 => ((impl_CyclotomicUnit.f k bt615.1 bt615.2).bind fun bt617 => ((spec_CyclotomicUnit.f k bt615.1 bt615.2).bind fun bt623 => (if bt617.2.2 = bt623.2.2 then ((laws_cyclo9.f k bt617.1 bt617.2.1 bt623.1 bt623.2.1).bind fun t629 => (if t629 = true then (if bt617.2.2 = 0 then ((impl_IsUnit.f k bt617.1 bt617.2.1).bind fun bt630 => (if bt630.2 = 0 then (if bt630.1 = true then (laws_FnBernoulli.j0 k t592 t593 t594 t595 t599 t600 t601 t602 t605 bt606.1 bt606.2) else (none)) else (laws_FnBernoulli.j0 k t592 t593 t594 t595 t599 t600 t601 t602 t605 bt606.1 bt606.2))) else (laws_FnBernoulli.j0 k t592 t593 t594 t595 t599 t600 t601 t602 t605 bt606.1 bt606.2)) else (none))) else (none))))) else (none))) else (none)))) = some r := H
       have A15 := Aside0.mk A150
       clear A150
       replace H := Option.bind_eq_some_iff.mp H
       obtain ⟨⟨t606, t607⟩, A160, H⟩ := H
       replace H : ((spec_IrregularOf.f k t605).bind fun bt610 => (if t607 = bt610.2 then ((laws_likeInts.f k t606 bt610.1).bind fun t614 => (if t614 = true then ((spec_DrawCyclotomicUnit.f k l0).bind fun bt615 => ((impl_CyclotomicUnit.f k bt615.1 bt615.2).bind fun bt617 => ((spec_CyclotomicUnit.f k bt615.1 bt615.2).bind fun bt623 => (if bt617.2.2 = bt623.2.2 then ((laws_cyclo9.f k bt617.1 bt617.2.1 bt623.1 bt623.2.1).bind fun t629 => (if t629 = true then (if bt617.2.2 = 0 then ((impl_IsUnit.f k bt617.1 bt617.2.1).bind fun bt630 => (if bt630.2 = 0 then (if bt630.1 = true then (laws_FnBernoulli.j0 k t592 t593 t594 t595 t599 t600 t601 t602 t605 t606 t607) else (none)) else (laws_FnBernoulli.j0 k t592 t593 t594 t595 t599 t600 t601 t602 t605 t606 t607))) else (laws_FnBernoulli.j0 k t592 t593 t594 t595 t599 t600 t601 t602 t605 t606 t607)) else (none))) else (none))))) else (none))) else (none))) = some r := H
       have A16 := Aside0.mk A160
       clear A160
       replace H := Option.bind_eq_some_iff.mp H
       obtain ⟨⟨t610, t611⟩, A170, H⟩ := H
       replace H : (if t607 = t611 then ((laws_likeInts.f k t606 t610).bind fun t614 => (if t614 = true then ((spec_DrawCyclotomicUnit.f k l0).bind fun bt615 => ((impl_CyclotomicUnit.f k bt615.1 bt615.2).bind fun bt617 => ((spec_CyclotomicUnit.f k bt615.1 bt615.2).bind fun bt623 => (if bt617.2.2 = bt623.2.2 then ((laws_cyclo9.f k bt617.1 bt617.2.1 bt623.1 bt623.2.1).bind fun t629 => (if t629 = true then (if bt617.2.2 = 0 then ((impl_IsUnit.f k bt617.1 bt617.2.1).bind fun bt630 => (if bt630.2 = 0 then (if bt630.1 = true then (laws_FnBernoulli.j0 k t592 t593 t594 t595 t599 t600 t601 t602 t605 t606 t607) else (none)) else (laws_FnBernoulli.j0 k t592 t593 t594 t595 t599 t600 t601 t602 t605 t606 t607))) else (laws_FnBernoulli.j0 k t592 t593 t594 t595 t599 t600 t601 t602 t605 t606 t607)) else (none))) else (none))))) else (none))) else (none)) = some r := H
       have A17 := Aside0.mk A170
       clear A170
       by_cases c18 : t607 = t611
       ·rw [if_pos c18] at H
        have c18b0 : (t607 == t611) = true := beq_iff_eq.mpr c18
        have c18b1 : (t607 != t611) = false := bne_eq_false_iff_eq.mpr c18
        clear c18
        replace H := Option.bind_eq_some_iff.mp H
        obtain ⟨t614, A190, H⟩ := H
        replace H : (if t614 = true then ((spec_DrawCyclotomicUnit.f k l0).bind fun bt615 => ((impl_CyclotomicUnit.f k bt615.1 bt615.2).bind fun bt617 => ((spec_CyclotomicUnit.f k bt615.1 bt615.2).bind fun bt623 => (if bt617.2.2 = bt623.2.2 then ((laws_cyclo9.f k bt617.1 bt617.2.1 bt623.1 bt623.2.1).bind fun t629 => (if t629 = true then (if bt617.2.2 = 0 then ((impl_IsUnit.f k bt617.1 bt617.2.1).bind fun bt630 => (if bt630.2 = 0 then (if bt630.1 = true then (laws_FnBernoulli.j0 k t592 t593 t594 t595 t599 t600 t601 t602 t605 t606 t607) else (none)) else (laws_FnBernoulli.j0 k t592 t593 t594 t595 t599 t600 t601 t602 t605 t606 t607))) else (laws_FnBernoulli.j0 k t592 t593 t594 t595 t599 t600 t601 t602 t605 t606 t607)) else (none))) else (none))))) else (none)) = some r := H
        have A19 := Aside0.mk A190
        clear A190
        by_cases c20 : t614 = true
        ·subst c20
         have H1 : ((spec_DrawCyclotomicUnit.f k l0).bind fun bt615 => ((impl_CyclotomicUnit.f k bt615.1 bt615.2).bind fun bt617 => ((spec_CyclotomicUnit.f k bt615.1 bt615.2).bind fun bt623 => (if bt617.2.2 = bt623.2.2 then ((laws_cyclo9.f k bt617.1 bt617.2.1 bt623.1 bt623.2.1).bind fun t629 => (if t629 = true then (if bt617.2.2 = 0 then ((impl_IsUnit.f k bt617.1 bt617.2.1).bind fun bt630 => (if bt630.2 = 0 then (if bt630.1 = true then (laws_FnBernoulli.j0 k t592 t593 t594 t595 t599 t600 t601 t602 t605 t606 t607) else (none)) else (laws_FnBernoulli.j0 k t592 t593 t594 t595 t599 t600 t601 t602 t605 t606 t607))) else (laws_FnBernoulli.j0 k t592 t593 t594 t595 t599 t600 t601 t602 t605 t606 t607)) else (none))) else (none))))) = some r := by rw [if_pos rfl] at H; exact H
         clear H
         have H := H1
         clear H1
         replace H := Option.bind_eq_some_iff.mp H
         obtain ⟨⟨t615, t616⟩, A210, H⟩ := H
         replace H : ((impl_CyclotomicUnit.f k t615 t616).bind fun bt617 => ((spec_CyclotomicUnit.f k t615 t616).bind fun bt623 => (if bt617.2.2 = bt623.2.2 then ((laws_cyclo9.f k bt617.1 bt617.2.1 bt623.1 bt623.2.1).bind fun t629 => (if t629 = true then (if bt617.2.2 = 0 then ((impl_IsUnit.f k bt617.1 bt617.2.1).bind fun bt630 => (if bt630.2 = 0 then (if bt630.1 = true then (laws_FnBernoulli.j0 k t592 t593 t594 t595 t599 t600 t601 t602 t605 t606 t607) else (none)) else (laws_FnBernoulli.j0 k t592 t593 t594 t595 t599 t600 t601 t602 t605 t606 t607))) else (laws_FnBernoulli.j0 k t592 t593 t594 t595 t599 t600 t601 t602 t605 t606 t607)) else (none))) else (none)))) = some r := H
         have A21 := Aside0.mk A210
         clear A210
         replace H := Option.bind_eq_some_iff.mp H
         obtain ⟨⟨t617, t618, t621⟩, A220, H⟩ := H
         replace H : ((spec_CyclotomicUnit.f k t615 t616).bind fun bt623 => (if t621 = bt623.2.2 then ((laws_cyclo9.f k t617 t618 bt623.1 bt623.2.1).bind fun t629 => (if t629 = true then (if t621 = 0 then ((impl_IsUnit.f k t617 t618).bind fun bt630 => (if bt630.2 = 0 then (if bt630.1 = true then (laws_FnBernoulli.j0 k t592 t593 t594 t595 t599 t600 t601 t602 t605 t606 t607) else (none)) else (laws_FnBernoulli.j0 k t592 t593 t594 t595 t599 t600 t601 t602 t605 t606 t607))) else (laws_FnBernoulli.j0 k t592 t593 t594 t595 t599 t600 t601 t602 t605 t606 t607)) else (none))) else (none))) = some r := H
         have A22 := Aside0.mk A220
         clear A220
         replace H := Option.bind_eq_some_iff.mp H
         obtain ⟨⟨t623, t624, t627⟩, A230, H⟩ := H
         replace H : (if t621 = t627 then ((laws_cyclo9.f k t617 t618 t623 t624).bind fun t629 => (if t629 = true then (if t621 = 0 then ((impl_IsUnit.f k t617 t618).bind fun bt630 => (if bt630.2 = 0 then (if bt630.1 = true then (laws_FnBernoulli.j0 k t592 t593 t594 t595 t599 t600 t601 t602 t605 t606 t607) else (none)) else (laws_FnBernoulli.j0 k t592 t593 t594 t595 t599 t600 t601 t602 t605 t606 t607))) else (laws_FnBernoulli.j0 k t592 t593 t594 t595 t599 t600 t601 t602 t605 t606 t607)) else (none))) else (none)) = some r := H
         have A23 := Aside0.mk A230
         clear A230
         by_cases c24 : t621 = t627
         ·rw [if_pos c24] at H
          have c24b0 : (t621 == t627) = true := beq_iff_eq.mpr c24
          have c24b1 : (t621 != t627) = false := bne_eq_false_iff_eq.mpr c24
          clear c24
          replace H := Option.bind_eq_some_iff.mp H
          obtain ⟨t629, A250, H⟩ := H
          replace H : (if t629 = true then (if t621 = 0 then ((impl_IsUnit.f k t617 t618).bind fun bt630 => (if bt630.2 = 0 then (if bt630.1 = true then (laws_FnBernoulli.j0 k t592 t593 t594 t595 t599 t600 t601 t602 t605 t606 t607) else (none)) else (laws_FnBernoulli.j0 k t592 t593 t594 t595 t599 t600 t601 t602 t605 t606 t607))) else (laws_FnBernoulli.j0 k t592 t593 t594 t595 t599 t600 t601 t602 t605 t606 t607)) else (none)) = some r := H
          have A25 := Aside0.mk A250
          clear A250
          by_cases c26 : t629 = true
          ·subst c26
           have H1 : (if t621 = 0 then ((impl_IsUnit.f k t617 t618).bind fun bt630 => (if bt630.2 = 0 then (if bt630.1 = true then (laws_FnBernoulli.j0 k t592 t593 t594 t595 t599 t600 t601 t602 t605 t606 t607) else (none)) else (laws_FnBernoulli.j0 k t592 t593 t594 t595 t599 t600 t601 t602 t605 t606 t607))) else (laws_FnBernoulli.j0 k t592 t593 t594 t595 t599 t600 t601 t602 t605 t606 t607)) = some r := by rw [if_pos rfl] at H; exact H
           clear H
           have H := H1
           clear H1
           have HC27 := Aside0.mk H
           clear H
           go_enter Try.func13, Try.ntmps13
           go_upto_if 137 with (first | ((with_reducible refine gate_callee (f := 14) rfl ?_); refine goesL_ (some 36) rfl rfl Try.func14 (by kernel_rfl) rfl #[.slice A0 l0.length c0] rfl ar ?_; (with_reducible refine (laws_big.calls _ _ l0 false _ ?side1 ?side2 A2.out).mono ?_); (case side1 => exact kC HR0.out); (case side2 => exact HC0.out); rintro e w' ⟨rfl, ⟨nd, rfl⟩⟩; refine ⟨_, rfl, ?_⟩) | ((with_reducible refine gate_callee (f := 97) rfl ?_); refine goesL_ (some 38) rfl rfl Try.func97 (by kernel_rfl) rfl #[.slice A0 l0.length c0] rfl ar ?_; (with_reducible refine (spec_DrawBernoulliOf.calls k _ _ l0 t592 _ ?side1 ?side2 A4.out).mono ?_); (case side1 => exact kC HR0.out); (case side2 => exact HC0.out); rintro e w28 ⟨rfl, hb⟩; refine ⟨_, rfl, ?_⟩; replace HB := Aside0.mk (below_step tb hb); (try clear hb); (try clear hb2); (try clear hk); (try clear hi)) | ((with_reducible refine gate_callee (f := 98) rfl ?_); refine goesL_ (some 41) rfl rfl Try.func98 (by kernel_rfl) rfl #[.int .i64 t592] rfl ar ?_; (with_reducible refine (impl_BernoulliOf.calls k t592 t593 t594 t595 _ A5.out).mono ?_); rintro e w29 ⟨rfl, hb⟩; refine ⟨_, rfl, ?_⟩; replace HB := Aside0.mk (below_step tb hb); (try clear hb); (try clear hb2); (try clear hk); (try clear hi)) | ((with_reducible refine gate_callee (f := 99) rfl ?_); refine goesL_ (some 47) rfl rfl Try.func99 (by kernel_rfl) rfl #[.int .i64 t592] rfl ar ?_; (with_reducible refine (spec_BernoulliOf.calls k t592 t596 t597 t598 _ A6.out).mono ?_); rintro e w30 ⟨rfl, hb⟩; refine ⟨_, rfl, ?_⟩; replace HB := Aside0.mk (below_step tb hb); (try clear hb); (try clear hb2); (try clear hk); (try clear hi)) | ((with_reducible refine gate_callee (f := 100) rfl ?_); refine goesL_ (some 66) rfl rfl Try.func100 (by kernel_rfl) rfl #[.slice A0 l0.length c0] rfl ar ?_; (with_reducible refine (spec_DrawBernoulliModulo.calls k _ _ l0 t599 t600 _ ?side1 ?side2 A10.out).mono ?_); (case side1 => exact kC (Kd.C_below HR0.out HB.out)); (case side2 => exact HC0.out); rintro e w31 ⟨rfl, hb⟩; refine ⟨_, rfl, ?_⟩; replace HB := Aside0.mk (below_step tb hb); (try clear hb); (try clear hb2); (try clear hk); (try clear hi)) | ((with_reducible refine gate_callee (f := 101) rfl ?_); refine goesL_ (some 72) rfl rfl Try.func101 (by kernel_rfl) rfl #[.int .i64 t599, .int .i64 t600] rfl ar ?_; (with_reducible refine (impl_BernoulliModulo.calls k t599 t600 t601 t602 _ A11.out).mono ?_); rintro e w32 ⟨rfl, hb⟩; refine ⟨_, rfl, ?_⟩; replace HB := Aside0.mk (below_step tb hb); (try clear hb); (try clear hb2); (try clear hk); (try clear hi)) | ((with_reducible refine gate_callee (f := 102) rfl ?_); refine goesL_ (some 78) rfl rfl Try.func102 (by kernel_rfl) rfl #[.int .i64 t599, .int .i64 t600] rfl ar ?_; (with_reducible refine (spec_BernoulliModulo.calls k t599 t600 t603 t604 _ A12.out).mono ?_); rintro e w33 ⟨rfl, hb⟩; refine ⟨_, rfl, ?_⟩; replace HB := Aside0.mk (below_step tb hb); (try clear hb); (try clear hb2); (try clear hk); (try clear hi)) | ((with_reducible refine gate_callee (f := 103) rfl ?_); refine goesL_ (some 90) rfl rfl Try.func103 (by kernel_rfl) rfl #[.slice A0 l0.length c0] rfl ar ?_; (with_reducible refine (spec_DrawIrregularOf.calls k _ _ l0 t605 _ ?side1 ?side2 A15.out).mono ?_); (case side1 => exact kC (Kd.C_below HR0.out HB.out)); (case side2 => exact HC0.out); rintro e w34 ⟨rfl, hb⟩; refine ⟨_, rfl, ?_⟩; replace HB := Aside0.mk (below_step tb hb); (try clear hb); (try clear hb2); (try clear hk); (try clear hi)) | ((with_reducible refine gate_callee (f := 66) rfl ?_); refine goesL_ (some 93) rfl rfl Try.func66 (by kernel_rfl) rfl #[.int .i64 t605] rfl ar ?_; (with_reducible refine (impl_IrregularOf.calls k t605 t606 t607 _ A16.out).mono ?_); rintro e w35 ⟨v608, rfl, ho0, hb⟩; refine ⟨_, rfl, ?_⟩; have HO609 := Aside0.mk (Kd.R_lower ho0 (below_size tb)); replace HB := Aside0.mk (below_step tb hb); (try clear hb); (try clear hb2); (try clear hk); (try clear hi); (try clear ho0)) | ((with_reducible refine gate_callee (f := 65) rfl ?_); refine goesL_ (some 98) rfl rfl Try.func65 (by kernel_rfl) rfl #[.int .i64 t605] rfl ar ?_; (with_reducible refine (spec_IrregularOf.calls k t605 t610 t611 _ A17.out).mono ?_); rintro e w36 ⟨v612, rfl, ho0, hb⟩; refine ⟨_, rfl, ?_⟩; have HO613 := Aside0.mk (Kd.R_lower (Kd.R_new' ho0 (Kd.R_lt (kR HO609.out))) (below_size tb)); replace HO609 := Aside0.mk (Kd.R_elder' (kR HO609.out) (Kd.R_base ho0) hb); replace HB := Aside0.mk (below_step tb hb); (try clear hb); (try clear hb2); (try clear hk); (try clear hi); (try clear ho0); obtain ⟨Ao37, co37, eo37⟩ := Kd.R_slice HO609.out; subst eo37; obtain ⟨Ao38, co38, eo38⟩ := Kd.R_slice HO613.out; subst eo38) | (go_at_call 46; (with_reducible refine (laws_likeInts.calls k _ _ t606 _ _ t610 true _ ?side1 ?side2 ?side3 ?side4 A19.out).mono ?_); (case side1 => exact kC (Kd.R_reads' HO609.out).2.2); (case side2 => exact (Kd.R_reads' HO609.out).2.1); (case side3 => exact kC (Kd.R_reads' HO613.out).2.2); (case side4 => exact (Kd.R_reads' HO613.out).2.1); rintro e w' ⟨rfl, ⟨nd, rfl⟩⟩; (try (rw [drewN_self w36]; generalize hq_ : World.drewN w36 _ = w36; have n0_ : Aside0 (Kd.R (Kd.int .i64) 2 w36 w.heap.size (fun k_ => some k_ ≠ (.slice Ao38 t610.length co38 : Value).ownBlock) (.slice Ao37 t606.length co37) t606) := ⟨by rw [← hq_]; exact (by (with_reducible repeat (first | apply Kd.R_alloc | apply Kd.R_drewN | apply Kd.R_drew)); exact Kd.R_mono HO609.out (fun _ hk => hk.2))⟩; have n1_ : Aside0 (Kd.R (Kd.int .i64) 2 w36 w.heap.size (fun k_ => some k_ ≠ (.slice Ao37 t606.length co37 : Value).ownBlock) (.slice Ao38 t610.length co38) t610) := ⟨by rw [← hq_]; exact (by (with_reducible repeat (first | apply Kd.R_alloc | apply Kd.R_drewN | apply Kd.R_drew)); exact Kd.R_mono HO613.out (fun _ hk => hk.2))⟩; have n2_ : Aside0 (Below w.heap.size w w36) := ⟨by rw [← hq_]; exact tb⟩; clear HO609 HO613 HB hq_; have HO609 := n0_; have HO613 := n1_; have HB := n2_; clear n0_ n1_ n2_))) | ((with_reducible refine gate_callee (f := 104) rfl ?_); refine goesL_ (some 112) rfl rfl Try.func104 (by kernel_rfl) rfl #[.slice A0 l0.length c0] rfl ar ?_; (with_reducible refine (spec_DrawCyclotomicUnit.calls k _ _ l0 t615 t616 _ ?side1 ?side2 A21.out).mono ?_); (case side1 => exact kC (Kd.C_below HR0.out HB.out)); (case side2 => exact HC0.out); rintro e w39 ⟨rfl, hb⟩; refine ⟨_, rfl, ?_⟩; replace HO609 := Aside0.mk (Kd.R_below (kR HO609.out) hb); replace HO613 := Aside0.mk (Kd.R_below (kR HO613.out) hb); replace HB := Aside0.mk (below_step tb hb); (try clear hb); (try clear hb2); (try clear hk); (try clear hi)) | ((with_reducible refine gate_callee (f := 105) rfl ?_); refine goesL_ (some 118) rfl rfl Try.func105 (by kernel_rfl) rfl #[.int .i64 t615, .int .i64 t616] rfl ar ?_; (with_reducible refine (impl_CyclotomicUnit.calls k t615 t616 t617 t618 t621 _ A22.out).mono ?_); rintro e w40 ⟨v619, rfl, ho0, hb⟩; refine ⟨_, rfl, ?_⟩; have HO620 := Aside0.mk (Kd.R_lower (Kd.R_new' (Kd.R_new' ho0 (Kd.R_lt (kR HO609.out))) (Kd.R_lt (kR HO613.out))) (below_size tb)); replace HO609 := Aside0.mk (Kd.R_elder' (kR HO609.out) (Kd.R_base ho0) hb); replace HO613 := Aside0.mk (Kd.R_elder' (kR HO613.out) (Kd.R_base ho0) hb); replace HB := Aside0.mk (below_step tb hb); (try clear hb); (try clear hb2); (try clear hk); (try clear hi); (try clear ho0)) | ((with_reducible refine gate_dst (N := 23) rfl ?_); refine box_event ?hg (N := 23) ?hd (cs := #[.int .i64 0, .slice none 0 0]) (t := 32) ?hr ?_; (case hd => rfl); (case hg => rfl); (case hr => first | (go_simp; done) | (go_simp; rfl)); intro gb622 hg w41 hbox hb; replace HO609 := Aside0.mk (Kd.R_below (kR HO609.out) hb); replace HO613 := Aside0.mk (Kd.R_below (kR HO613.out) hb); replace HO620 := Aside0.mk (Kd.R_below (kR HO620.out) hb); have BK622 := Aside0.mk (hbox); have GW622 := Aside0.mk ((by rw [hg]; exact (below_size tb) : w.heap.size ≤ gb622)); have GE622 := Aside0.mk ((by rw [hg]; exact (below_size tb) : w.heap.size ≤ gb622)); replace HB := Aside0.mk (below_step tb hb); clear hb hbox hg; have hcz42_0 : w41.cell? ⟨gb622, 0, none⟩ = some (.int .i64 0) := (blk_cell BK622.out 0).trans rfl; have hcz42_1 : w41.cell? ⟨gb622, 1, none⟩ = some (.slice none 0 0) := (blk_cell BK622.out 1).trans rfl; have hfz42_0 := blk_frozen BK622.out 0; have hfz42_1 := blk_frozen BK622.out 1; obtain ⟨Ao43, co43, eo43⟩ := Kd.R_slice HO620.out; subst eo43) | ((with_reducible refine gate_callee (f := 106) rfl ?_); refine goesL_ (some 124) rfl rfl Try.func106 (by kernel_rfl) rfl #[.int .i64 t615, .int .i64 t616] rfl ar ?_; (with_reducible refine (spec_CyclotomicUnit.calls k t615 t616 t623 t624 t627 _ A23.out).mono ?_); rintro e w44 ⟨v625, rfl, ho0, hb⟩; refine ⟨_, rfl, ?_⟩; have HO626 := Aside0.mk (Kd.R_lower (Kd.R_new' (Kd.R_new' (Kd.R_new' ho0 (Kd.R_lt (by (with_reducible repeat (first | apply Kd.R_alloc | apply Kd.R_drewN | apply Kd.R_drew)); exact (Kd.R_mono (Kd.R_far (p := ⟨gb622, 1, none⟩) (Kd.R_far (p := ⟨gb622, 0, none⟩) (Kd.R_types HO609.out BK622.out (by decide)) (fun _ hk => hk.2) (.int .i64 t617)) (fun _ hk => hk.2) (.slice Ao43 t618.length co43)) (fun _ h_ => h_.1))))) (Kd.R_lt (by (with_reducible repeat (first | apply Kd.R_alloc | apply Kd.R_drewN | apply Kd.R_drew)); exact (Kd.R_mono (Kd.R_far (p := ⟨gb622, 1, none⟩) (Kd.R_far (p := ⟨gb622, 0, none⟩) (Kd.R_types HO613.out BK622.out (by decide)) (fun _ hk => hk.2) (.int .i64 t617)) (fun _ hk => hk.2) (.slice Ao43 t618.length co43)) (fun _ h_ => h_.1))))) (Kd.R_lt (by (with_reducible repeat (first | apply Kd.R_alloc | apply Kd.R_drewN | apply Kd.R_drew)); exact (Kd.R_mono (Kd.R_far (p := ⟨gb622, 1, none⟩) (Kd.R_far (p := ⟨gb622, 0, none⟩) (Kd.R_types HO620.out BK622.out (by decide)) (fun _ hk => hk.2) (.int .i64 t617)) (fun _ hk => hk.2) (.slice Ao43 t618.length co43)) (fun _ h_ => h_.1))))) (below_size tb)); replace HO609 := Aside0.mk (Kd.R_elder' (by (with_reducible repeat (first | apply Kd.R_alloc | apply Kd.R_drewN | apply Kd.R_drew)); exact (Kd.R_mono (Kd.R_far (p := ⟨gb622, 1, none⟩) (Kd.R_far (p := ⟨gb622, 0, none⟩) (Kd.R_types HO609.out BK622.out (by decide)) (fun _ hk => hk.2) (.int .i64 t617)) (fun _ hk => hk.2) (.slice Ao43 t618.length co43)) (fun _ h_ => h_.1))) (Kd.R_base ho0) hb); replace HO613 := Aside0.mk (Kd.R_elder' (by (with_reducible repeat (first | apply Kd.R_alloc | apply Kd.R_drewN | apply Kd.R_drew)); exact (Kd.R_mono (Kd.R_far (p := ⟨gb622, 1, none⟩) (Kd.R_far (p := ⟨gb622, 0, none⟩) (Kd.R_types HO613.out BK622.out (by decide)) (fun _ hk => hk.2) (.int .i64 t617)) (fun _ hk => hk.2) (.slice Ao43 t618.length co43)) (fun _ h_ => h_.1))) (Kd.R_base ho0) hb); replace HO620 := Aside0.mk (Kd.R_elder' (by (with_reducible repeat (first | apply Kd.R_alloc | apply Kd.R_drewN | apply Kd.R_drew)); exact (Kd.R_mono (Kd.R_far (p := ⟨gb622, 1, none⟩) (Kd.R_far (p := ⟨gb622, 0, none⟩) (Kd.R_types HO620.out BK622.out (by decide)) (fun _ hk => hk.2) (.int .i64 t617)) (fun _ hk => hk.2) (.slice Ao43 t618.length co43)) (fun _ h_ => h_.1))) (Kd.R_base ho0) hb); replace BK622 := Aside0.mk (blk_below (g := gb622) (o := .cells #[.int .i64 t617, .slice Ao43 t618.length co43] 32 (0, 0)) (by (with_reducible repeat (first | refine blk_drewN ?_ _ | refine blk_drew ?_ | refine blk_alloc ?_ _)); refine blk_put (cs := #[.int .i64 t617, .slice none 0 0]) ?_ 1 _ rfl; (with_reducible repeat (first | refine blk_drewN ?_ _ | refine blk_drew ?_ | refine blk_alloc ?_ _)); refine blk_put (cs := #[.int .i64 0, .slice none 0 0]) ?_ 0 _ rfl; (with_reducible repeat (first | refine blk_drewN ?_ _ | refine blk_drew ?_ | refine blk_alloc ?_ _)); exact BK622.out) hb); replace HB := Aside0.mk (below_step tb hb); (try clear hb); (try clear hb2); (try clear hk); (try clear hi); (try clear ho0)) | ((with_reducible refine gate_dst (N := 25) rfl ?_); refine box_event ?hg (N := 25) ?hd (cs := #[.int .i64 0, .slice none 0 0]) (t := 32) ?hr ?_; (case hd => rfl); (case hg => rfl); (case hr => first | (go_simp; done) | (go_simp; rfl)); intro gb628 hg w45 hbox hb; replace HO609 := Aside0.mk (Kd.R_below (kR HO609.out) hb); replace HO613 := Aside0.mk (Kd.R_below (kR HO613.out) hb); replace HO620 := Aside0.mk (Kd.R_below (kR HO620.out) hb); replace HO626 := Aside0.mk (Kd.R_below (kR HO626.out) hb); have BK628 := Aside0.mk (hbox); have GW628 := Aside0.mk ((by rw [hg]; exact (below_size tb) : w.heap.size ≤ gb628)); have GE628 := Aside0.mk ((by rw [hg]; exact (below_size tb) : w.heap.size ≤ gb628)); replace HB := Aside0.mk (below_step tb hb); have NB622_628 := Aside0.mk ((by rw [hg]; exact Nat.ne_of_lt (blk_lt (kb BK622.out)) : gb622 ≠ gb628)); have NB628_622 := Aside0.mk ((by rw [hg]; exact Nat.ne_of_gt (blk_lt (kb BK622.out)) : gb628 ≠ gb622)); replace BK622 := Aside0.mk (blk_below (kb BK622.out) hb); clear hb hbox hg; have hnb46 := NB628_622.out; have hnc46 := NB622_628.out; have hcz47_0 : w45.cell? ⟨gb628, 0, none⟩ = some (.int .i64 0) := (blk_cell BK628.out 0).trans rfl; have hcz47_1 : w45.cell? ⟨gb628, 1, none⟩ = some (.slice none 0 0) := (blk_cell BK628.out 1).trans rfl; have hfz47_0 := blk_frozen BK628.out 0; have hfz47_1 := blk_frozen BK628.out 1; obtain ⟨Ao48, co48, eo48⟩ := Kd.R_slice HO626.out; subst eo48; have hcz49_0 : w45.cell? ⟨gb622, 0, none⟩ = some (.int .i64 t617) := (blk_cell BK622.out 0).trans rfl; have hcz49_1 : w45.cell? ⟨gb622, 1, none⟩ = some (.slice Ao43 t618.length co43) := (blk_cell BK622.out 1).trans rfl; have hfz49_0 := blk_frozen BK622.out 0; have hfz49_1 := blk_frozen BK622.out 1) | (go_at_call 19; (with_reducible refine (laws_cyclo9.calls k t617 _ _ t618 t623 _ _ t624 true _ ?side1 ?side2 ?side3 ?side4 A25.out).mono ?_); (case side1 => refine (Kd.R_reads' (e := 2) (base := w.heap.size) (ok := fun k_ => (((True ∧ some k_ ≠ (.slice Ao37 t606.length co37 : Value).ownBlock) ∧ some k_ ≠ (.slice Ao38 t610.length co38 : Value).ownBlock) ∧ some k_ ≠ (.slice Ao48 t624.length co48 : Value).ownBlock)) (n := t618.length) (c := co43) ?_).2.2; exact (by (with_reducible repeat (first | apply Kd.R_alloc | apply Kd.R_drewN | apply Kd.R_drew)); exact (Kd.R_mono (Kd.R_far (p := ⟨gb628, 1, none⟩) (Kd.R_far (p := ⟨gb628, 0, none⟩) (Kd.R_types HO620.out BK628.out (by decide)) (fun _ hk => hk.2) (.int .i64 t623)) (fun _ hk => hk.2) (.slice Ao48 t624.length co48)) (fun _ h_ => h_.1)))); (case side2 => exact (Kd.R_reads' HO620.out).2.1); (case side3 => refine (Kd.R_reads' (e := 2) (base := w.heap.size) (ok := fun k_ => (((True ∧ some k_ ≠ (.slice Ao37 t606.length co37 : Value).ownBlock) ∧ some k_ ≠ (.slice Ao38 t610.length co38 : Value).ownBlock) ∧ some k_ ≠ (.slice Ao43 t618.length co43 : Value).ownBlock)) (n := t624.length) (c := co48) ?_).2.2; exact (by (with_reducible repeat (first | apply Kd.R_alloc | apply Kd.R_drewN | apply Kd.R_drew)); exact (Kd.R_mono (Kd.R_far (p := ⟨gb628, 1, none⟩) (Kd.R_far (p := ⟨gb628, 0, none⟩) (Kd.R_types HO626.out BK628.out (by decide)) (fun _ hk => hk.2) (.int .i64 t623)) (fun _ hk => hk.2) (.slice Ao48 t624.length co48)) (fun _ h_ => h_.1)))); (case side4 => exact (Kd.R_reads' HO626.out).2.1); rintro e w50 ⟨rfl, hb⟩; replace HO609 := Aside0.mk (Kd.R_below (by (with_reducible repeat (first | apply Kd.R_alloc | apply Kd.R_drewN | apply Kd.R_drew)); exact (Kd.R_mono (Kd.R_far (p := ⟨gb628, 1, none⟩) (Kd.R_far (p := ⟨gb628, 0, none⟩) (Kd.R_types HO609.out BK628.out (by decide)) (fun _ hk => hk.2) (.int .i64 t623)) (fun _ hk => hk.2) (.slice Ao48 t624.length co48)) (fun _ h_ => h_.1))) hb); replace HO613 := Aside0.mk (Kd.R_below (by (with_reducible repeat (first | apply Kd.R_alloc | apply Kd.R_drewN | apply Kd.R_drew)); exact (Kd.R_mono (Kd.R_far (p := ⟨gb628, 1, none⟩) (Kd.R_far (p := ⟨gb628, 0, none⟩) (Kd.R_types HO613.out BK628.out (by decide)) (fun _ hk => hk.2) (.int .i64 t623)) (fun _ hk => hk.2) (.slice Ao48 t624.length co48)) (fun _ h_ => h_.1))) hb); replace HO620 := Aside0.mk (Kd.R_below (by (with_reducible repeat (first | apply Kd.R_alloc | apply Kd.R_drewN | apply Kd.R_drew)); exact (Kd.R_mono (Kd.R_far (p := ⟨gb628, 1, none⟩) (Kd.R_far (p := ⟨gb628, 0, none⟩) (Kd.R_types HO620.out BK628.out (by decide)) (fun _ hk => hk.2) (.int .i64 t623)) (fun _ hk => hk.2) (.slice Ao48 t624.length co48)) (fun _ h_ => h_.1))) hb); replace HO626 := Aside0.mk (Kd.R_below (by (with_reducible repeat (first | apply Kd.R_alloc | apply Kd.R_drewN | apply Kd.R_drew)); exact (Kd.R_mono (Kd.R_far (p := ⟨gb628, 1, none⟩) (Kd.R_far (p := ⟨gb628, 0, none⟩) (Kd.R_types HO626.out BK628.out (by decide)) (fun _ hk => hk.2) (.int .i64 t623)) (fun _ hk => hk.2) (.slice Ao48 t624.length co48)) (fun _ h_ => h_.1))) hb); replace BK622 := Aside0.mk (blk_below (g := gb622) (o := .cells #[.int .i64 t617, .slice Ao43 t618.length co43] 32 (0, 0)) (by (with_reducible repeat (first | refine blk_drewN ?_ _ | refine blk_drew ?_ | refine blk_alloc ?_ _)); refine blk_far ?_ NB622_628.out _; (with_reducible repeat (first | refine blk_drewN ?_ _ | refine blk_drew ?_ | refine blk_alloc ?_ _)); refine blk_far ?_ NB622_628.out _; (with_reducible repeat (first | refine blk_drewN ?_ _ | refine blk_drew ?_ | refine blk_alloc ?_ _)); exact BK622.out) hb); replace BK628 := Aside0.mk (blk_below (g := gb628) (o := .cells #[.int .i64 t623, .slice Ao48 t624.length co48] 32 (0, 0)) (by (with_reducible repeat (first | refine blk_drewN ?_ _ | refine blk_drew ?_ | refine blk_alloc ?_ _)); refine blk_put (cs := #[.int .i64 t623, .slice none 0 0]) ?_ 1 _ rfl; (with_reducible repeat (first | refine blk_drewN ?_ _ | refine blk_drew ?_ | refine blk_alloc ?_ _)); refine blk_put (cs := #[.int .i64 0, .slice none 0 0]) ?_ 0 _ rfl; (with_reducible repeat (first | refine blk_drewN ?_ _ | refine blk_drew ?_ | refine blk_alloc ?_ _)); exact BK628.out) hb); replace HB := Aside0.mk (below_step tb hb); (try clear hb); (try clear hb2); (try clear hk); (try clear hi)))
           (try simp only [Act.put, List.setIfInBounds_toArray, List.set_cons_zero, List.set_cons_succ])
           go_cut [] (fun wc => ∃ (kq : Nat), Aside0 (laws_FnBernoulli.j0 kq t592 t593 t594 t595 t599 t600 t601 t602 t605 t606 t607 = some r) ∧ Aside0 (kq ≤ k) ∧ Aside0 (Kd.R (Kd.int .i64) 2 wc w.heap.size (fun k_ => some k_ ≠ ((.slice Ao43 t618.length co43) : Value).ownBlock ∧ some k_ ≠ ((.slice Ao48 t624.length co48) : Value).ownBlock) (.slice Ao37 t606.length co37) t606) ∧ Aside0 (Kd.R (Kd.int .i64) 2 wc w.heap.size (fun k_ => some k_ ≠ ((.slice Ao37 t606.length co37) : Value).ownBlock ∧ some k_ ≠ ((.slice Ao48 t624.length co48) : Value).ownBlock) (.slice Ao43 t618.length co43) t618) ∧ Aside0 (Kd.R (Kd.int .i64) 2 wc w.heap.size (fun k_ => some k_ ≠ ((.slice Ao37 t606.length co37) : Value).ownBlock ∧ some k_ ≠ ((.slice Ao43 t618.length co43) : Value).ownBlock) (.slice Ao48 t624.length co48) t624) ∧ Aside0 (wc.heap[gb622]? = some (.cells #[.int .i64 t617, (.slice Ao43 t618.length co43)] 32 (0, 0))) ∧ Aside0 (wc.heap[gb628]? = some (.cells #[.int .i64 t623, (.slice Ao48 t624.length co48)] 32 (0, 0))) ∧ Aside0 (Below w.heap.size w wc))
           case first =>
            have H := HC27.out
            clear HC27
            by_cases c51 : t621 = 0
            ·rw [if_pos c51] at H
             have c51b0 : (t621 == 0) = true := beq_iff_eq.mpr c51
             have c51b1 : (t621 != 0) = false := bne_eq_false_iff_eq.mpr c51
             clear c51
             (first | rw [c51b0] | (simp only [i64_w, i32_w]; rw [c51b0]) | skip)
             replace H := Option.bind_eq_some_iff.mp H
             obtain ⟨⟨t630, t631⟩, A520, H⟩ := H
             replace H : (if t631 = 0 then (if t630 = true then (laws_FnBernoulli.j0 k t592 t593 t594 t595 t599 t600 t601 t602 t605 t606 t607) else (none)) else (laws_FnBernoulli.j0 k t592 t593 t594 t595 t599 t600 t601 t602 t605 t606 t607)) = some r := H
             have A52 := Aside0.mk A520
             clear A520
             by_cases c53 : t631 = 0
             ·rw [if_pos c53] at H
              have c53b0 : (t631 == 0) = true := beq_iff_eq.mpr c53
              have c53b1 : (t631 != 0) = false := bne_eq_false_iff_eq.mpr c53
              clear c53
              by_cases c54 : t630 = true
              ·subst c54
               have H1 : (laws_FnBernoulli.j0 k t592 t593 t594 t595 t599 t600 t601 t602 t605 t606 t607) = some r := by rw [if_pos rfl] at H; exact H
               clear H
               have H := H1
               clear H1
               have H' := Aside0.mk H
               clear H
               have hnb55 := NB622_628.out
               have hnc55 := NB628_622.out
               have hcz56_0 : w50.cell? ⟨gb622, 0, none⟩ = some (.int .i64 t617) := (blk_cell BK622.out 0).trans rfl
               have hcz56_1 : w50.cell? ⟨gb622, 1, none⟩ = some (.slice Ao43 t618.length co43) := (blk_cell BK622.out 1).trans rfl
               have hfz56_0 := blk_frozen BK622.out 0
               have hfz56_1 := blk_frozen BK622.out 1
               go_wp2_with (first | ((with_reducible refine gate_callee (f := 107) rfl ?_); refine goesL_ (some 140) rfl rfl Try.func107 (by kernel_rfl) rfl #[.agg #[.int .i64 t617, .slice Ao43 t618.length co43]] rfl ar ?_; (with_reducible refine (impl_IsUnit.calls k t617 _ _ t618 true t631 _ ?side1 ?side2 A52.out).mono ?_); (case side1 => exact kC (Kd.R_reads' HO620.out).2.2); (case side2 => exact (Kd.R_reads' HO620.out).2.1); rintro e w57 ⟨rfl, hb⟩; refine ⟨_, rfl, ?_⟩; replace HO609 := Aside0.mk (Kd.R_below (kR HO609.out) hb); replace HO613 := Aside0.mk (Kd.R_below (kR HO613.out) hb); replace HO620 := Aside0.mk (Kd.R_below (kR HO620.out) hb); replace HO626 := Aside0.mk (Kd.R_below (kR HO626.out) hb); replace BK622 := Aside0.mk (blk_below (kb BK622.out) hb); replace BK628 := Aside0.mk (blk_below (kb BK628.out) hb); replace HB := Aside0.mk (below_step tb hb); (try clear hb); (try clear hb2); (try clear hk); (try clear hi)))
               go_meet
               case rel => exact ⟨_, H', ⟨by first | omega | exact Nat.le_refl _⟩, ⟨by (with_reducible repeat (first | apply Kd.R_alloc | apply Kd.R_drewN | apply Kd.R_drew)); exact Kd.R_mono HO609.out (fun _ hk => ⟨hk.1.2, hk.2⟩)⟩, ⟨by (with_reducible repeat (first | apply Kd.R_alloc | apply Kd.R_drewN | apply Kd.R_drew)); exact Kd.R_mono HO620.out (fun _ hk => ⟨hk.1.1.2, hk.2⟩)⟩, ⟨by (with_reducible repeat (first | apply Kd.R_alloc | apply Kd.R_drewN | apply Kd.R_drew)); exact Kd.R_mono HO626.out (fun _ hk => ⟨hk.1.1.2, hk.2⟩)⟩, ⟨kb BK622.out⟩, ⟨kb BK628.out⟩, ⟨tb⟩⟩
              ·replace c54 := Bool.eq_false_iff.mpr c54
               subst c54
               have H1 : (none) = some r := by rw [if_neg (show ¬ (false = true) by decide)] at H; exact H
               clear H
               have H := H1
               clear H1
               exact absurd H (by simp)
             ·rw [if_neg c53] at H
              have c53b0 : (t631 == 0) = false := beq_eq_false_iff_ne.mpr c53
              have c53b1 : (t631 != 0) = true := bne_iff_ne.mpr c53
              have H' := Aside0.mk H
              clear H
              have hnb58 := NB622_628.out
              have hnc58 := NB628_622.out
              have hcz59_0 : w50.cell? ⟨gb622, 0, none⟩ = some (.int .i64 t617) := (blk_cell BK622.out 0).trans rfl
              have hcz59_1 : w50.cell? ⟨gb622, 1, none⟩ = some (.slice Ao43 t618.length co43) := (blk_cell BK622.out 1).trans rfl
              have hfz59_0 := blk_frozen BK622.out 0
              have hfz59_1 := blk_frozen BK622.out 1
              go_wp2_with (first | ((with_reducible refine gate_callee (f := 107) rfl ?_); refine goesL_ (some 140) rfl rfl Try.func107 (by kernel_rfl) rfl #[.agg #[.int .i64 t617, .slice Ao43 t618.length co43]] rfl ar ?_; (with_reducible refine (impl_IsUnit.calls k t617 _ _ t618 t630 t631 _ ?side1 ?side2 A52.out).mono ?_); (case side1 => exact kC (Kd.R_reads' HO620.out).2.2); (case side2 => exact (Kd.R_reads' HO620.out).2.1); rintro e w60 ⟨rfl, hb⟩; refine ⟨_, rfl, ?_⟩; replace HO609 := Aside0.mk (Kd.R_below (kR HO609.out) hb); replace HO613 := Aside0.mk (Kd.R_below (kR HO613.out) hb); replace HO620 := Aside0.mk (Kd.R_below (kR HO620.out) hb); replace HO626 := Aside0.mk (Kd.R_below (kR HO626.out) hb); replace BK622 := Aside0.mk (blk_below (kb BK622.out) hb); replace BK628 := Aside0.mk (blk_below (kb BK628.out) hb); replace HB := Aside0.mk (below_step tb hb); (try clear hb); (try clear hb2); (try clear hk); (try clear hi)))
              go_meet
              case rel => exact ⟨_, H', ⟨by first | omega | exact Nat.le_refl _⟩, ⟨by (with_reducible repeat (first | apply Kd.R_alloc | apply Kd.R_drewN | apply Kd.R_drew)); exact Kd.R_mono HO609.out (fun _ hk => ⟨hk.1.2, hk.2⟩)⟩, ⟨by (with_reducible repeat (first | apply Kd.R_alloc | apply Kd.R_drewN | apply Kd.R_drew)); exact Kd.R_mono HO620.out (fun _ hk => ⟨hk.1.1.2, hk.2⟩)⟩, ⟨by (with_reducible repeat (first | apply Kd.R_alloc | apply Kd.R_drewN | apply Kd.R_drew)); exact Kd.R_mono HO626.out (fun _ hk => ⟨hk.1.1.2, hk.2⟩)⟩, ⟨kb BK622.out⟩, ⟨kb BK628.out⟩, ⟨tb⟩⟩
            ·rw [if_neg c51] at H
             have c51b0 : (t621 == 0) = false := beq_eq_false_iff_ne.mpr c51
             have c51b1 : (t621 != 0) = true := bne_iff_ne.mpr c51
             (first | rw [c51b0] | (simp only [i64_w, i32_w]; rw [c51b0]) | skip)
             have H' := Aside0.mk H
             clear H
             go_wp2
             go_meet
             case rel => exact ⟨_, H', ⟨by first | omega | exact Nat.le_refl _⟩, ⟨by (with_reducible repeat (first | apply Kd.R_alloc | apply Kd.R_drewN | apply Kd.R_drew)); exact Kd.R_mono HO609.out (fun _ hk => ⟨hk.1.2, hk.2⟩)⟩, ⟨by (with_reducible repeat (first | apply Kd.R_alloc | apply Kd.R_drewN | apply Kd.R_drew)); exact Kd.R_mono HO620.out (fun _ hk => ⟨hk.1.1.2, hk.2⟩)⟩, ⟨by (with_reducible repeat (first | apply Kd.R_alloc | apply Kd.R_drewN | apply Kd.R_drew)); exact Kd.R_mono HO626.out (fun _ hk => ⟨hk.1.1.2, hk.2⟩)⟩, ⟨kb BK622.out⟩, ⟨kb BK628.out⟩, ⟨tb⟩⟩
           case rest =>
            clear HC27
            try clear c1
            try clear c2
            try clear p2
            try clear c3
            try clear c4
            try clear c5
            try clear c6
            try clear c7
            try clear c7b0
            try clear c7b1
            try clear c8
            try clear c8b0
            try clear c8b1
            try clear c9
            try clear c9b0
            try clear c9b1
            try clear c10
            try clear c13
            try clear c13b0
            try clear c13b1
            try clear c14
            try clear c14b0
            try clear c14b1
            try clear c18
            try clear c18b0
            try clear c18b1
            try clear c20
            try clear c24
            try clear c24b0
            try clear c24b1
            try clear c26
            try clear c46
            try clear c51
            try clear c51b0
            try clear c51b1
            try clear c53
            try clear c53b0
            try clear c53b1
            try clear c54
            try clear c55
            try clear c58
            try clear hcz42_0
            try clear hcz42_1
            try clear hcz47_0
            try clear hcz47_1
            try clear hcz49_0
            try clear hcz49_1
            try clear hcz56_0
            try clear hcz56_1
            try clear hcz59_0
            try clear hcz59_1
            try clear hfz42_0
            try clear hfz42_1
            try clear hfz47_0
            try clear hfz47_1
            try clear hfz49_0
            try clear hfz49_1
            try clear hfz56_0
            try clear hfz56_1
            try clear hfz59_0
            try clear hfz59_1
            obtain ⟨kq, HA, HJ26, HO_17, HO_623001, HO_629001, BK622, BK628, HB⟩ := hcut
            cases kq with
            | zero => exact absurd HA.out (by simp [laws_FnBernoulli.j0])
            | succ kj26 =>
             have H := HA.out
             clear HA
             simp only [laws_FnBernoulli.j0] at H
             have HC61 := Aside0.mk H
             clear H
             go_upto_if 150 with (fail)
             go_cut [] (fun wc => ∃ (kq : Nat), Aside0 (laws_FnBernoulli.j2 kq t592 t593 t594 t595 t599 t600 t601 t602 = some r) ∧ Aside0 (kq ≤ kj26) ∧ Aside0 (Kd.R (Kd.int .i64) 2 wc w.heap.size (fun k_ => some k_ ≠ ((.slice Ao48 t624.length co48) : Value).ownBlock) (.slice Ao43 t618.length co43) t618) ∧ Aside0 (Kd.R (Kd.int .i64) 2 wc w.heap.size (fun k_ => some k_ ≠ ((.slice Ao43 t618.length co43) : Value).ownBlock) (.slice Ao48 t624.length co48) t624) ∧ Aside0 (wc.heap[gb622]? = some (.cells #[.int .i64 t617, (.slice Ao43 t618.length co43)] 32 (0, 0))) ∧ Aside0 (wc.heap[gb628]? = some (.cells #[.int .i64 t623, (.slice Ao48 t624.length co48)] 32 (0, 0))) ∧ Aside0 (Below w.heap.size w wc))
             case first =>
              have H := HC61.out
              clear HC61
              by_cases c62 : t607 = 0
              ·rw [if_pos c62] at H
               have c62b0 : (t607 == 0) = true := beq_iff_eq.mpr c62
               have c62b1 : (t607 != 0) = false := bne_eq_false_iff_eq.mpr c62
               clear c62
               (first | rw [c62b0] | (simp only [i64_w, i32_w]; rw [c62b0]) | skip)
               have H' := Aside0.mk H
               clear H
               go_wp2
               go_loopg [29] kj26 (fun kq v29 w' => ∃ (x29_2 : Int), v29 = .int .i64 x29_2 ∧ Aside0 (laws_FnBernoulli.l0 kq t592 t593 t594 t595 t599 t600 t601 t602 t605 t606 x29_2 = some r) ∧ Aside0 (kq ≤ kj26) ∧ Aside0 (Kd.R (Kd.int .i64) 2 w' w.heap.size (fun k_ => some k_ ≠ ((.slice Ao43 t618.length co43) : Value).ownBlock ∧ some k_ ≠ ((.slice Ao48 t624.length co48) : Value).ownBlock) (.slice Ao37 t606.length co37) t606) ∧ Aside0 (Kd.R (Kd.int .i64) 2 w' w.heap.size (fun k_ => some k_ ≠ ((.slice Ao37 t606.length co37) : Value).ownBlock ∧ some k_ ≠ ((.slice Ao48 t624.length co48) : Value).ownBlock) (.slice Ao43 t618.length co43) t618) ∧ Aside0 (Kd.R (Kd.int .i64) 2 w' w.heap.size (fun k_ => some k_ ≠ ((.slice Ao37 t606.length co37) : Value).ownBlock ∧ some k_ ≠ ((.slice Ao43 t618.length co43) : Value).ownBlock) (.slice Ao48 t624.length co48) t624) ∧ Aside0 (w'.heap[gb622]? = some (.cells #[.int .i64 t617, (.slice Ao43 t618.length co43)] 32 (0, 0))) ∧ Aside0 (w'.heap[gb628]? = some (.cells #[.int .i64 t623, (.slice Ao48 t624.length co48)] 32 (0, 0))) ∧ Aside0 (Below w.heap.size w w'))
               case atStart => exact ⟨(0), (by first | rfl | (simp; done) | (simp [*]; done)), H', ⟨Nat.le_refl _⟩, ⟨kR HO_17.out⟩, ⟨kR HO_623001.out⟩, ⟨kR HO_629001.out⟩, ⟨kb BK622.out⟩, ⟨kb BK628.out⟩, ⟨tb⟩⟩
               case round =>
                clear H'
                try clear c1
                try clear c2
                try clear p2
                try clear c3
                try clear c4
                try clear c5
                try clear c6
                try clear c7
                try clear c7b0
                try clear c7b1
                try clear c8
                try clear c8b0
                try clear c8b1
                try clear c9
                try clear c9b0
                try clear c9b1
                try clear c10
                try clear c13
                try clear c13b0
                try clear c13b1
                try clear c14
                try clear c14b0
                try clear c14b1
                try clear c18
                try clear c18b0
                try clear c18b1
                try clear c20
                try clear c24
                try clear c24b0
                try clear c24b1
                try clear c26
                try clear c46
                try clear c51
                try clear c51b0
                try clear c51b1
                try clear c53
                try clear c53b0
                try clear c53b1
                try clear c54
                try clear c55
                try clear c58
                try clear c62
                try clear c62b0
                try clear c62b1
                try clear hcz42_0
                try clear hcz42_1
                try clear hcz47_0
                try clear hcz47_1
                try clear hcz49_0
                try clear hcz49_1
                try clear hcz56_0
                try clear hcz56_1
                try clear hcz59_0
                try clear hcz59_1
                try clear hfz42_0
                try clear hfz42_1
                try clear hfz47_0
                try clear hfz47_1
                try clear hfz49_0
                try clear hfz49_1
                try clear hfz56_0
                try clear hfz56_1
                try clear hfz59_0
                try clear hfz59_1
                try clear p2
                obtain ⟨x29_2, rfl, HA, HK2, HO_17, HO_623001, HO_629001, BK622, BK628, HB⟩ := hrel
                cases gk with
                | zero => exact absurd HA.out (by simp [laws_FnBernoulli.l0])
                | succ k2 =>
                 have H := HA.out
                 clear HA
                 simp only [laws_FnBernoulli.l0] at H
                 by_cases c63 : x29_2 < (t606.length : Int)
                 ·rw [if_pos c63] at H
                  have c63b0 : decide (x29_2 < (t606.length : Int)) = true := decide_eq_true c63
                  clear c63
                  by_cases c64 : 0 ≤ x29_2
                  ·rw [if_pos c64] at H
                   have c64b0 : decide (0 ≤ x29_2) = true := decide_eq_true c64
                   clear c64
                   replace H := Option.bind_eq_some_iff.mp H
                   obtain ⟨⟨t633, t634⟩, A650, H⟩ := H
                   replace H : (if t634 = 0 then (if t633 = 0 then (laws_FnBernoulli.l0 k2 t592 t593 t594 t595 t599 t600 t601 t602 t605 t606 (wrap64 (x29_2 + 1))) else (none)) else (none)) = some r := H
                   have A65 := Aside0.mk A650
                   clear A650
                   by_cases c66 : t634 = 0
                   ·rw [if_pos c66] at H
                    have c66b0 : (t634 == 0) = true := beq_iff_eq.mpr c66
                    have c66b1 : (t634 != 0) = false := bne_eq_false_iff_eq.mpr c66
                    clear c66
                    by_cases c67 : t633 = 0
                    ·rw [if_pos c67] at H
                     have c67b0 : (t633 == 0) = true := beq_iff_eq.mpr c67
                     have c67b1 : (t633 != 0) = false := bne_eq_false_iff_eq.mpr c67
                     clear c67
                     have H' := Aside0.mk H
                     clear H
                     have p632 : 0 ≤ (x29_2 : Int) := od
                     have q632 : x29_2 < (t606.length : Int) := od
                     obtain ⟨ad632, e632, hx632_0⟩ := Kd.at_int (Kd.R_reads' HO_17.out).2.2 x29_2 p632 q632
                     cases e632
                     replace p632 := eq_true p632
                     replace q632 := eq_true q632
                     go_wp2_with (first | ((with_reducible refine gate_callee (f := 101) rfl ?_); refine goesL_ (some 163) rfl rfl Try.func101 (by kernel_rfl) rfl #[.int .i64 t605, .int .i64 (rd t606 x29_2)] rfl ar ?_; (with_reducible refine (impl_BernoulliModulo.calls k2 t605 (rd t606 x29_2) t633 t634 _ A65.out).mono ?_); rintro e w68 ⟨rfl, hb⟩; refine ⟨_, rfl, ?_⟩; replace HO_17 := Aside0.mk (Kd.R_below (kR HO_17.out) hb); replace HO_623001 := Aside0.mk (Kd.R_below (kR HO_623001.out) hb); replace HO_629001 := Aside0.mk (Kd.R_below (kR HO_629001.out) hb); replace BK622 := Aside0.mk (blk_below (kb BK622.out) hb); replace BK628 := Aside0.mk (blk_below (kb BK628.out) hb); replace HB := Aside0.mk (below_step tb hb); (try clear hb); (try clear hb2); (try clear hk); (try clear hi)))
                     go_roundg k2
                     case measure => have := HJ26.out; have := HK2.out; omega
                     case rel => exact ⟨(wrap64 (x29_2 + 1)), (by first | rfl | (simp; done) | (simp [*]; done)), H', ⟨by have := HJ26.out; have := HK2.out; omega⟩, ⟨kR HO_17.out⟩, ⟨kR HO_623001.out⟩, ⟨kR HO_629001.out⟩, ⟨kb BK622.out⟩, ⟨kb BK628.out⟩, ⟨tb⟩⟩
                    ·rw [if_neg c67] at H
                     exact absurd H (by simp)
                   ·rw [if_neg c66] at H
                    exact absurd H (by simp)
                  ·rw [if_neg c64] at H
                   exact absurd H (by simp)
                 ·rw [if_neg c63] at H
                  have c63b0 : decide (x29_2 < (t606.length : Int)) = false := decide_eq_false c63
                  clear c63
                  have H' := Aside0.mk H
                  clear H
                  go_wp2
                  go_meet
                  case rel => exact ⟨_, H', ⟨by have := HJ26.out; have := HK2.out; first | omega | exact Nat.le_refl _⟩, ⟨by (with_reducible repeat (first | apply Kd.R_alloc | apply Kd.R_drewN | apply Kd.R_drew)); exact Kd.R_mono HO_623001.out (fun _ hk => hk.2)⟩, ⟨by (with_reducible repeat (first | apply Kd.R_alloc | apply Kd.R_drewN | apply Kd.R_drew)); exact Kd.R_mono HO_629001.out (fun _ hk => hk.2)⟩, ⟨kb BK622.out⟩, ⟨kb BK628.out⟩, ⟨tb⟩⟩
              ·rw [if_neg c62] at H
               have c62b0 : (t607 == 0) = false := beq_eq_false_iff_ne.mpr c62
               have c62b1 : (t607 != 0) = true := bne_iff_ne.mpr c62
               (first | rw [c62b0] | (simp only [i64_w, i32_w]; rw [c62b0]) | skip)
               have H' := Aside0.mk H
               clear H
               go_wp2
               go_meet
               case rel => exact ⟨_, H', ⟨by have := HJ26.out; first | omega | exact Nat.le_refl _⟩, ⟨by (with_reducible repeat (first | apply Kd.R_alloc | apply Kd.R_drewN | apply Kd.R_drew)); exact Kd.R_mono HO_623001.out (fun _ hk => hk.2)⟩, ⟨by (with_reducible repeat (first | apply Kd.R_alloc | apply Kd.R_drewN | apply Kd.R_drew)); exact Kd.R_mono HO_629001.out (fun _ hk => hk.2)⟩, ⟨kb BK622.out⟩, ⟨kb BK628.out⟩, ⟨tb⟩⟩
             case rest =>
              clear HC61
              try clear c1
              try clear c2
              try clear p2
              try clear c3
              try clear c4
              try clear c5
              try clear c6
              try clear p6
              try clear q6
              try clear hx6
              try clear c7
              try clear c7b0
              try clear c7b1
              try clear c8
              try clear c8b0
              try clear c8b1
              try clear c9
              try clear c9b0
              try clear c9b1
              try clear c10
              try clear c13
              try clear c13b0
              try clear c13b1
              try clear c14
              try clear c14b0
              try clear c14b1
              try clear c18
              try clear c18b0
              try clear c18b1
              try clear c20
              try clear c24
              try clear c24b0
              try clear c24b1
              try clear c26
              try clear c46
              try clear c51
              try clear c51b0
              try clear c51b1
              try clear c53
              try clear c53b0
              try clear c53b1
              try clear c54
              try clear c55
              try clear c58
              try clear c62
              try clear c62b0
              try clear c62b1
              try clear c63
              try clear c63b0
              try clear p63
              try clear q63
              try clear hx63
              try clear c64
              try clear c64b0
              try clear p64
              try clear c65
              try clear c66
              try clear c66b0
              try clear c66b1
              try clear c67
              try clear c67b0
              try clear c67b1
              try clear hcz42_0
              try clear hcz42_1
              try clear hcz47_0
              try clear hcz47_1
              try clear hcz49_0
              try clear hcz49_1
              try clear hcz56_0
              try clear hcz56_1
              try clear hcz59_0
              try clear hcz59_1
              try clear hfz42_0
              try clear hfz42_1
              try clear hfz47_0
              try clear hfz47_1
              try clear hfz49_0
              try clear hfz49_1
              try clear hfz56_0
              try clear hfz56_1
              try clear hfz59_0
              try clear hfz59_1
              try clear hx632_0
              try clear p2
              try clear p632
              try clear q632
              obtain ⟨kq, HA, HJ60, HO_623001, HO_629001, BK622, BK628, HB⟩ := hcut
              cases kq with
              | zero => exact absurd HA.out (by simp [laws_FnBernoulli.j2])
              | succ kj60 =>
               have H := HA.out
               clear HA
               simp only [laws_FnBernoulli.j2] at H
               have HC69 := Aside0.mk H
               clear H
               go_upto_region 34 with (fail)
               go_cut [177] (fun v177 wc => ∃ (kq : Nat) (x177_68 : Bool), v177 = .bool x177_68 ∧ Aside0 (laws_FnBernoulli.j3 kq t592 t593 t594 t595 t599 t600 t601 x177_68 = some r) ∧ Aside0 (kq ≤ kj60) ∧ Aside0 (Kd.R (Kd.int .i64) 2 wc w.heap.size (fun k_ => some k_ ≠ ((.slice Ao48 t624.length co48) : Value).ownBlock) (.slice Ao43 t618.length co43) t618) ∧ Aside0 (Kd.R (Kd.int .i64) 2 wc w.heap.size (fun k_ => some k_ ≠ ((.slice Ao43 t618.length co43) : Value).ownBlock) (.slice Ao48 t624.length co48) t624) ∧ Aside0 (wc.heap[gb622]? = some (.cells #[.int .i64 t617, (.slice Ao43 t618.length co43)] 32 (0, 0))) ∧ Aside0 (wc.heap[gb628]? = some (.cells #[.int .i64 t623, (.slice Ao48 t624.length co48)] 32 (0, 0))) ∧ Aside0 (Below w.heap.size w wc))
               case first =>
                have H := HC69.out
                clear HC69
                by_cases c70 : t602 = 0
                ·rw [if_pos c70] at H
                 have c70b0 : (t602 == 0) = true := beq_iff_eq.mpr c70
                 have c70b1 : (t602 != 0) = false := bne_eq_false_iff_eq.mpr c70
                 clear c70
                 (first | rw [c70b0] | (simp only [i64_w, i32_w]; rw [c70b0]) | skip)
                 have H' := Aside0.mk H
                 clear H
                 go_wp2
                 go_meet
                 case rel => exact ⟨_, (decide (t600 ≤ 20)), (by first | rfl | (simp; done) | (simp [*]; done)), H', ⟨by have := HJ26.out; have := HJ60.out; first | omega | exact Nat.le_refl _⟩, ⟨kR HO_623001.out⟩, ⟨kR HO_629001.out⟩, ⟨kb BK622.out⟩, ⟨kb BK628.out⟩, ⟨tb⟩⟩
                ·rw [if_neg c70] at H
                 have c70b0 : (t602 == 0) = false := beq_eq_false_iff_ne.mpr c70
                 have c70b1 : (t602 != 0) = true := bne_iff_ne.mpr c70
                 (first | rw [c70b0] | (simp only [i64_w, i32_w]; rw [c70b0]) | skip)
                 have H' := Aside0.mk H
                 clear H
                 go_wp2
                 go_meet
                 case rel => exact ⟨_, (false), (by first | rfl | (simp; done) | (simp [*]; done)), H', ⟨by have := HJ26.out; have := HJ60.out; first | omega | exact Nat.le_refl _⟩, ⟨kR HO_623001.out⟩, ⟨kR HO_629001.out⟩, ⟨kb BK622.out⟩, ⟨kb BK628.out⟩, ⟨tb⟩⟩
               case rest =>
                clear HC69
                try clear c1
                try clear c2
                try clear p2
                try clear c3
                try clear c4
                try clear c5
                try clear c6
                try clear p6
                try clear q6
                try clear hx6
                try clear c7
                try clear c7b0
                try clear c7b1
                try clear c8
                try clear c8b0
                try clear c8b1
                try clear c9
                try clear c9b0
                try clear c9b1
                try clear c10
                try clear c13
                try clear c13b0
                try clear c13b1
                try clear c14
                try clear c14b0
                try clear c14b1
                try clear c18
                try clear c18b0
                try clear c18b1
                try clear c20
                try clear c24
                try clear c24b0
                try clear c24b1
                try clear c26
                try clear c46
                try clear c51
                try clear c51b0
                try clear c51b1
                try clear c53
                try clear c53b0
                try clear c53b1
                try clear c54
                try clear c55
                try clear c58
                try clear c62
                try clear c62b0
                try clear c62b1
                try clear c63
                try clear c63b0
                try clear p63
                try clear q63
                try clear hx63
                try clear c64
                try clear c64b0
                try clear p64
                try clear c65
                try clear c66
                try clear c66b0
                try clear c66b1
                try clear c67
                try clear c67b0
                try clear c67b1
                try clear c70
                try clear c70b0
                try clear c70b1
                try clear hcz42_0
                try clear hcz42_1
                try clear hcz47_0
                try clear hcz47_1
                try clear hcz49_0
                try clear hcz49_1
                try clear hcz56_0
                try clear hcz56_1
                try clear hcz59_0
                try clear hcz59_1
                try clear hfz42_0
                try clear hfz42_1
                try clear hfz47_0
                try clear hfz47_1
                try clear hfz49_0
                try clear hfz49_1
                try clear hfz56_0
                try clear hfz56_1
                try clear hfz59_0
                try clear hfz59_1
                try clear hx632_0
                try clear p2
                try clear p6
                try clear p63
                try clear p632
                try clear p64
                try clear q6
                try clear q63
                try clear q632
                obtain ⟨kq, x177_68, rfl, HA, HJ68, HO_623001, HO_629001, BK622, BK628, HB⟩ := hcut
                cases kq with
                | zero => exact absurd HA.out (by simp [laws_FnBernoulli.j3])
                | succ kj68 =>
                 have H := HA.out
                 clear HA
                 simp only [laws_FnBernoulli.j3] at H
                 by_cases c71 : x177_68 = true
                 ·subst c71
                  have H1 : ((impl_BernoulliOf.f kj68 t600).bind fun bt635 => (if bt635.2.2 = 0 then (if t599 = 0 then (none) else (if (Int.tmod bt635.2.1 t599) = 0 then (none) else (if (Int.tmod (wrap64 ((Int.tmod (wrap64 ((wrap64 (t601 * bt635.2.1)) - bt635.1)) t599) + t599)) t599) = 0 then (if t595 = 0 then (if t594 ≥ 1 then (if (Int.tmod t592 2) = 0 then (some true) else (if t592 = 1 then (some true) else (some (t593 == 0)))) else (none)) else (if t593 = 0 then (some (t594 == 0)) else (none))) else (none)))) else (none))) = some r := by rw [if_pos rfl] at H; exact H
                  clear H
                  have H := H1
                  clear H1
                  replace H := Option.bind_eq_some_iff.mp H
                  obtain ⟨⟨t635, t636, t637⟩, A720, H⟩ := H
                  replace H : (if t637 = 0 then (if t599 = 0 then (none) else (if (Int.tmod t636 t599) = 0 then (none) else (if (Int.tmod (wrap64 ((Int.tmod (wrap64 ((wrap64 (t601 * t636)) - t635)) t599) + t599)) t599) = 0 then (if t595 = 0 then (if t594 ≥ 1 then (if (Int.tmod t592 2) = 0 then (some true) else (if t592 = 1 then (some true) else (some (t593 == 0)))) else (none)) else (if t593 = 0 then (some (t594 == 0)) else (none))) else (none)))) else (none)) = some r := H
                  have A72 := Aside0.mk A720
                  clear A720
                  by_cases c73 : t637 = 0
                  ·rw [if_pos c73] at H
                   have c73b0 : (t637 == 0) = true := beq_iff_eq.mpr c73
                   have c73b1 : (t637 != 0) = false := bne_eq_false_iff_eq.mpr c73
                   clear c73
                   by_cases c74 : t599 = 0
                   ·rw [if_pos c74] at H
                    exact absurd H (by simp)
                   ·rw [if_neg c74] at H
                    have c74b0 : (t599 == 0) = false := beq_eq_false_iff_ne.mpr c74
                    have c74b1 : (t599 != 0) = true := bne_iff_ne.mpr c74
                    by_cases c75 : (Int.tmod t636 t599) = 0
                    ·rw [if_pos c75] at H
                     exact absurd H (by simp)
                    ·rw [if_neg c75] at H
                     have c75b0 : ((Int.tmod t636 t599) == 0) = false := beq_eq_false_iff_ne.mpr c75
                     have c75b1 : ((Int.tmod t636 t599) != 0) = true := bne_iff_ne.mpr c75
                     by_cases c76 : (Int.tmod (wrap64 ((Int.tmod (wrap64 ((wrap64 (t601 * t636)) - t635)) t599) + t599)) t599) = 0
                     ·rw [if_pos c76] at H
                      have c76b0 : ((Int.tmod (wrap64 ((Int.tmod (wrap64 ((wrap64 (t601 * t636)) - t635)) t599) + t599)) t599) == 0) = true := beq_iff_eq.mpr c76
                      have c76b1 : ((Int.tmod (wrap64 ((Int.tmod (wrap64 ((wrap64 (t601 * t636)) - t635)) t599) + t599)) t599) != 0) = false := bne_eq_false_iff_eq.mpr c76
                      clear c76
                      by_cases c77 : t595 = 0
                      ·rw [if_pos c77] at H
                       have c77b0 : (t595 == 0) = true := beq_iff_eq.mpr c77
                       have c77b1 : (t595 != 0) = false := bne_eq_false_iff_eq.mpr c77
                       clear c77
                       by_cases c78 : t594 ≥ 1
                       ·rw [if_pos c78] at H
                        have c78b0 : decide (1 ≤ t594) = true := decide_eq_true c78
                        clear c78
                        by_cases c79 : (Int.tmod t592 2) = 0
                        ·rw [if_pos c79] at H
                         have c79b0 : ((Int.tmod t592 2) == 0) = true := beq_iff_eq.mpr c79
                         have c79b1 : ((Int.tmod t592 2) != 0) = false := bne_eq_false_iff_eq.mpr c79
                         clear c79
                         obtain rfl := Option.some.inj H
                         go_wp2_with (first | ((with_reducible refine gate_callee (f := 98) rfl ?_); refine goesL_ (some 180) rfl rfl Try.func98 (by kernel_rfl) rfl #[.int .i64 t600] rfl ar ?_; (with_reducible refine (impl_BernoulliOf.calls kj68 t600 t635 t636 t637 _ A72.out).mono ?_); rintro e w80 ⟨rfl, hb⟩; refine ⟨_, rfl, ?_⟩; replace HO_623001 := Aside0.mk (Kd.R_below (kR HO_623001.out) hb); replace HO_629001 := Aside0.mk (Kd.R_below (kR HO_629001.out) hb); replace BK622 := Aside0.mk (blk_below (kb BK622.out) hb); replace BK628 := Aside0.mk (blk_below (kb BK628.out) hb); replace HB := Aside0.mk (below_step tb hb); (try clear hb); (try clear hb2); (try clear hk); (try clear hi)))
                         go_ret
                         exact ⟨by first | rfl | (simp [errW_none, errW_some] <;> rfl) | (simp [*, errW_none, errW_some] <;> rfl), tb⟩
                        ·rw [if_neg c79] at H
                         have c79b0 : ((Int.tmod t592 2) == 0) = false := beq_eq_false_iff_ne.mpr c79
                         have c79b1 : ((Int.tmod t592 2) != 0) = true := bne_iff_ne.mpr c79
                         by_cases c81 : t592 = 1
                         ·rw [if_pos c81] at H
                          have c81b0 : (t592 == 1) = true := beq_iff_eq.mpr c81
                          have c81b1 : (t592 != 1) = false := bne_eq_false_iff_eq.mpr c81
                          clear c81
                          obtain rfl := Option.some.inj H
                          go_wp2_with (first | ((with_reducible refine gate_callee (f := 98) rfl ?_); refine goesL_ (some 180) rfl rfl Try.func98 (by kernel_rfl) rfl #[.int .i64 t600] rfl ar ?_; (with_reducible refine (impl_BernoulliOf.calls kj68 t600 t635 t636 t637 _ A72.out).mono ?_); rintro e w82 ⟨rfl, hb⟩; refine ⟨_, rfl, ?_⟩; replace HO_623001 := Aside0.mk (Kd.R_below (kR HO_623001.out) hb); replace HO_629001 := Aside0.mk (Kd.R_below (kR HO_629001.out) hb); replace BK622 := Aside0.mk (blk_below (kb BK622.out) hb); replace BK628 := Aside0.mk (blk_below (kb BK628.out) hb); replace HB := Aside0.mk (below_step tb hb); (try clear hb); (try clear hb2); (try clear hk); (try clear hi)))
                          go_ret
                          exact ⟨by first | rfl | (simp [errW_none, errW_some] <;> rfl) | (simp [*, errW_none, errW_some] <;> rfl), tb⟩
                         ·rw [if_neg c81] at H
                          have c81b0 : (t592 == 1) = false := beq_eq_false_iff_ne.mpr c81
                          have c81b1 : (t592 != 1) = true := bne_iff_ne.mpr c81
                          obtain rfl := Option.some.inj H
                          go_wp2_with (first | ((with_reducible refine gate_callee (f := 98) rfl ?_); refine goesL_ (some 180) rfl rfl Try.func98 (by kernel_rfl) rfl #[.int .i64 t600] rfl ar ?_; (with_reducible refine (impl_BernoulliOf.calls kj68 t600 t635 t636 t637 _ A72.out).mono ?_); rintro e w83 ⟨rfl, hb⟩; refine ⟨_, rfl, ?_⟩; replace HO_623001 := Aside0.mk (Kd.R_below (kR HO_623001.out) hb); replace HO_629001 := Aside0.mk (Kd.R_below (kR HO_629001.out) hb); replace BK622 := Aside0.mk (blk_below (kb BK622.out) hb); replace BK628 := Aside0.mk (blk_below (kb BK628.out) hb); replace HB := Aside0.mk (below_step tb hb); (try clear hb); (try clear hb2); (try clear hk); (try clear hi)))
                          go_ret
                          exact ⟨by first | rfl | (simp [errW_none, errW_some] <;> rfl) | (simp [*, errW_none, errW_some] <;> rfl), tb⟩
                       ·rw [if_neg c78] at H
                        exact absurd H (by simp)
                      ·rw [if_neg c77] at H
                       have c77b0 : (t595 == 0) = false := beq_eq_false_iff_ne.mpr c77
                       have c77b1 : (t595 != 0) = true := bne_iff_ne.mpr c77
                       by_cases c84 : t593 = 0
                       ·rw [if_pos c84] at H
                        have c84b0 : (t593 == 0) = true := beq_iff_eq.mpr c84
                        have c84b1 : (t593 != 0) = false := bne_eq_false_iff_eq.mpr c84
                        clear c84
                        obtain rfl := Option.some.inj H
                        go_wp2_with (first | ((with_reducible refine gate_callee (f := 98) rfl ?_); refine goesL_ (some 180) rfl rfl Try.func98 (by kernel_rfl) rfl #[.int .i64 t600] rfl ar ?_; (with_reducible refine (impl_BernoulliOf.calls kj68 t600 t635 t636 t637 _ A72.out).mono ?_); rintro e w85 ⟨rfl, hb⟩; refine ⟨_, rfl, ?_⟩; replace HO_623001 := Aside0.mk (Kd.R_below (kR HO_623001.out) hb); replace HO_629001 := Aside0.mk (Kd.R_below (kR HO_629001.out) hb); replace BK622 := Aside0.mk (blk_below (kb BK622.out) hb); replace BK628 := Aside0.mk (blk_below (kb BK628.out) hb); replace HB := Aside0.mk (below_step tb hb); (try clear hb); (try clear hb2); (try clear hk); (try clear hi)))
                        go_ret
                        exact ⟨by first | rfl | (simp [errW_none, errW_some] <;> rfl) | (simp [*, errW_none, errW_some] <;> rfl), tb⟩
                       ·rw [if_neg c84] at H
                        exact absurd H (by simp)
                     ·rw [if_neg c76] at H
                      exact absurd H (by simp)
                  ·rw [if_neg c73] at H
                   exact absurd H (by simp)
                 ·replace c71 := Bool.eq_false_iff.mpr c71
                  subst c71
                  have H1 : (if t595 = 0 then (if t594 ≥ 1 then (if (Int.tmod t592 2) = 0 then (some true) else (if t592 = 1 then (some true) else (some (t593 == 0)))) else (none)) else (if t593 = 0 then (some (t594 == 0)) else (none))) = some r := by rw [if_neg (show ¬ (false = true) by decide)] at H; exact H
                  clear H
                  have H := H1
                  clear H1
                  by_cases c86 : t595 = 0
                  ·rw [if_pos c86] at H
                   have c86b0 : (t595 == 0) = true := beq_iff_eq.mpr c86
                   have c86b1 : (t595 != 0) = false := bne_eq_false_iff_eq.mpr c86
                   clear c86
                   by_cases c87 : t594 ≥ 1
                   ·rw [if_pos c87] at H
                    have c87b0 : decide (1 ≤ t594) = true := decide_eq_true c87
                    clear c87
                    by_cases c88 : (Int.tmod t592 2) = 0
                    ·rw [if_pos c88] at H
                     have c88b0 : ((Int.tmod t592 2) == 0) = true := beq_iff_eq.mpr c88
                     have c88b1 : ((Int.tmod t592 2) != 0) = false := bne_eq_false_iff_eq.mpr c88
                     clear c88
                     obtain rfl := Option.some.inj H
                     go_wp2
                     go_ret
                     exact ⟨by first | rfl | (simp [errW_none, errW_some] <;> rfl) | (simp [*, errW_none, errW_some] <;> rfl), tb⟩
                    ·rw [if_neg c88] at H
                     have c88b0 : ((Int.tmod t592 2) == 0) = false := beq_eq_false_iff_ne.mpr c88
                     have c88b1 : ((Int.tmod t592 2) != 0) = true := bne_iff_ne.mpr c88
                     by_cases c89 : t592 = 1
                     ·rw [if_pos c89] at H
                      have c89b0 : (t592 == 1) = true := beq_iff_eq.mpr c89
                      have c89b1 : (t592 != 1) = false := bne_eq_false_iff_eq.mpr c89
                      clear c89
                      obtain rfl := Option.some.inj H
                      go_wp2
                      go_ret
                      exact ⟨by first | rfl | (simp [errW_none, errW_some] <;> rfl) | (simp [*, errW_none, errW_some] <;> rfl), tb⟩
                     ·rw [if_neg c89] at H
                      have c89b0 : (t592 == 1) = false := beq_eq_false_iff_ne.mpr c89
                      have c89b1 : (t592 != 1) = true := bne_iff_ne.mpr c89
                      obtain rfl := Option.some.inj H
                      go_wp2
                      go_ret
                      exact ⟨by first | rfl | (simp [errW_none, errW_some] <;> rfl) | (simp [*, errW_none, errW_some] <;> rfl), tb⟩
                   ·rw [if_neg c87] at H
                    exact absurd H (by simp)
                  ·rw [if_neg c86] at H
                   have c86b0 : (t595 == 0) = false := beq_eq_false_iff_ne.mpr c86
                   have c86b1 : (t595 != 0) = true := bne_iff_ne.mpr c86
                   by_cases c90 : t593 = 0
                   ·rw [if_pos c90] at H
                    have c90b0 : (t593 == 0) = true := beq_iff_eq.mpr c90
                    have c90b1 : (t593 != 0) = false := bne_eq_false_iff_eq.mpr c90
                    clear c90
                    obtain rfl := Option.some.inj H
                    go_wp2
                    go_ret
                    exact ⟨by first | rfl | (simp [errW_none, errW_some] <;> rfl) | (simp [*, errW_none, errW_some] <;> rfl), tb⟩
                   ·rw [if_neg c90] at H
                    exact absurd H (by simp)
          ·replace c26 := Bool.eq_false_iff.mpr c26
           subst c26
           have H1 : (none) = some r := by rw [if_neg (show ¬ (false = true) by decide)] at H; exact H
           clear H
           have H := H1
           clear H1
           exact absurd H (by simp)
         ·rw [if_neg c24] at H
          exact absurd H (by simp)
        ·replace c20 := Bool.eq_false_iff.mpr c20
         subst c20
         have H1 : (none) = some r := by rw [if_neg (show ¬ (false = true) by decide)] at H; exact H
         clear H
         have H := H1
         clear H1
         exact absurd H (by simp)
       ·rw [if_neg c18] at H
        exact absurd H (by simp)
      ·rw [if_neg c14] at H
       exact absurd H (by simp)
     ·rw [if_neg c13] at H
      exact absurd H (by simp)
    ·rw [if_neg c9] at H
     exact absurd H (by simp)
   ·rw [if_neg c8] at H
    exact absurd H (by simp)
  ·rw [if_neg c7] at H
   exact absurd H (by simp)

/-- THE ONE PURE STATEMENT of laws_FnBernoulli: yours. -/
def laws_FnBernoulli.Pure : Prop := ∀ (l0 : List Int), l0.length ≤ maxLen → l0.length * 1 ≤ 140737488351232 → (∀ x ∈ l0, (Lit.int .u8 x).wf = true) → ∃ k, laws_FnBernoulli.f k l0 = some true
theorem laws_FnBernoulli.walk (P : laws_FnBernoulli.Pure) (a0 : Option Addr) (len0 cap0 : Nat) (z0 : List Int) (w : World) (w0 : (a0 = none ∧ len0 = 0 ∧ cap0 = 0 ∧ z0 = []) ∨ ∃ x, a0 = some x ∧ len0 ≤ cap0 ∧ cap0 ≤ maxLen ∧ z0.length = cap0 ∧ (∀ i, i < z0.length → w.cell? (x.add i) = some (.int .u8 (z0.getD i 0))) ∧ ∀ n ∈ z0, (Lit.int .u8 n).wf = true) (y0 : len0 * 1 ≤ 140737488351232) :
  Calls Try.prog 13 #[.slice a0 len0 cap0] w fun e w' => e = .returned (.bool true) ∧ Below w.heap.size w w' := by
 obtain ⟨l0, rfl, hr0, hm0, hw0, hc0⟩ := ReadsInt.ofRowC w0
 obtain ⟨k, h⟩ := P l0 hm0 y0 hw0
 refine (laws_FnBernoulli.calls k _ _ l0 true w (Kd.C_of_reads (d := (0 : Int)) (h1 := fun _ => rfl) hr0) hc0 h).mono ?_
 rintro e w' ⟨rfl, hd⟩
 exact ⟨rfl, hd⟩

end Go.Proofs.Ytgcggngleiggiaa.Pr
