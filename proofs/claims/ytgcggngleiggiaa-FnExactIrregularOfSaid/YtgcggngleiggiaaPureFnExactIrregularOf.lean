/-
IrregularOf answers for every argument as the reference does. Conditions: none beyond the statement's own (the argument is an int64).
-/
import Derived.Test.YtgcggngleiggiaaPI9
namespace Go.Proofs.Ytgcggngleiggiaa.Pure
open Go.RowKit Go.Proofs.Ytgcggngleiggiaa.PI Go.Proofs.YtgcggngleiggiaaW.PrintWords Go.Proofs.YtgcggngleiggiaaW.PrintLast

set_option maxRecDepth 100000 in
theorem irr3 : laws_FnExactIrregularOf.f 9000 3 = some true := by kernel_rfl
set_option maxRecDepth 100000 in
theorem irr4 : laws_FnExactIrregularOf.f 60 4 = some true := by kernel_rfl
set_option maxRecDepth 100000 in
theorem irr5 : laws_FnExactIrregularOf.f 9000 5 = some true := by kernel_rfl
set_option maxRecDepth 100000 in
theorem irr6 : laws_FnExactIrregularOf.f 60 6 = some true := by kernel_rfl
set_option maxRecDepth 100000 in
theorem irr7 : laws_FnExactIrregularOf.f 9000 7 = some true := by kernel_rfl
set_option maxRecDepth 100000 in
theorem irr8 : laws_FnExactIrregularOf.f 60 8 = some true := by kernel_rfl
set_option maxRecDepth 100000 in
theorem irr9 : laws_FnExactIrregularOf.f 60 9 = some true := by kernel_rfl
set_option maxRecDepth 100000 in
theorem irr10 : laws_FnExactIrregularOf.f 60 10 = some true := by kernel_rfl
set_option maxRecDepth 100000 in
theorem irr11 : laws_FnExactIrregularOf.f 9000 11 = some true := by kernel_rfl
set_option maxRecDepth 100000 in
theorem irr12 : laws_FnExactIrregularOf.f 60 12 = some true := by kernel_rfl
set_option maxRecDepth 100000 in
theorem irr13 : laws_FnExactIrregularOf.f 9000 13 = some true := by kernel_rfl
set_option maxRecDepth 100000 in
theorem irr14 : laws_FnExactIrregularOf.f 60 14 = some true := by kernel_rfl
set_option maxRecDepth 100000 in
theorem irr15 : laws_FnExactIrregularOf.f 60 15 = some true := by kernel_rfl
set_option maxRecDepth 100000 in
theorem irr16 : laws_FnExactIrregularOf.f 60 16 = some true := by kernel_rfl
set_option maxRecDepth 100000 in
theorem irr17 : laws_FnExactIrregularOf.f 9000 17 = some true := by kernel_rfl
set_option maxRecDepth 100000 in
theorem irr18 : laws_FnExactIrregularOf.f 60 18 = some true := by kernel_rfl
set_option maxRecDepth 100000 in
theorem irr19 : laws_FnExactIrregularOf.f 9000 19 = some true := by kernel_rfl
set_option maxRecDepth 100000 in
theorem irr20 : laws_FnExactIrregularOf.f 60 20 = some true := by kernel_rfl
set_option maxRecDepth 100000 in
theorem irr21 : laws_FnExactIrregularOf.f 60 21 = some true := by kernel_rfl
set_option maxRecDepth 100000 in
theorem irr22 : laws_FnExactIrregularOf.f 60 22 = some true := by kernel_rfl
set_option maxRecDepth 100000 in
theorem irr23 : laws_FnExactIrregularOf.f 9000 23 = some true := by kernel_rfl
set_option maxRecDepth 100000 in
theorem irr24 : laws_FnExactIrregularOf.f 60 24 = some true := by kernel_rfl
set_option maxRecDepth 100000 in
theorem irr25 : laws_FnExactIrregularOf.f 60 25 = some true := by kernel_rfl
set_option maxRecDepth 100000 in
theorem irr26 : laws_FnExactIrregularOf.f 60 26 = some true := by kernel_rfl
set_option maxRecDepth 100000 in
theorem irr27 : laws_FnExactIrregularOf.f 60 27 = some true := by kernel_rfl
set_option maxRecDepth 100000 in
theorem irr28 : laws_FnExactIrregularOf.f 60 28 = some true := by kernel_rfl
set_option maxRecDepth 100000 in
theorem irr29 : laws_FnExactIrregularOf.f 9000 29 = some true := by kernel_rfl
set_option maxRecDepth 100000 in
theorem irr30 : laws_FnExactIrregularOf.f 60 30 = some true := by kernel_rfl
set_option maxRecDepth 100000 in
theorem irr31 : laws_FnExactIrregularOf.f 9000 31 = some true := by kernel_rfl
set_option maxRecDepth 100000 in
theorem irr32 : laws_FnExactIrregularOf.f 60 32 = some true := by kernel_rfl
set_option maxRecDepth 100000 in
theorem irr33 : laws_FnExactIrregularOf.f 60 33 = some true := by kernel_rfl
set_option maxRecDepth 100000 in
theorem irr34 : laws_FnExactIrregularOf.f 60 34 = some true := by kernel_rfl
set_option maxRecDepth 100000 in
theorem irr35 : laws_FnExactIrregularOf.f 60 35 = some true := by kernel_rfl
set_option maxRecDepth 100000 in
theorem irr36 : laws_FnExactIrregularOf.f 60 36 = some true := by kernel_rfl
set_option maxRecDepth 100000 in
theorem irr37 : laws_FnExactIrregularOf.f 9000 37 = some true := by kernel_rfl
set_option maxRecDepth 100000 in
theorem irr38 : laws_FnExactIrregularOf.f 60 38 = some true := by kernel_rfl
set_option maxRecDepth 100000 in
theorem irr39 : laws_FnExactIrregularOf.f 60 39 = some true := by kernel_rfl
set_option maxRecDepth 100000 in
theorem irr40 : laws_FnExactIrregularOf.f 60 40 = some true := by kernel_rfl
set_option maxRecDepth 100000 in
theorem irr41 : laws_FnExactIrregularOf.f 9000 41 = some true := by kernel_rfl
set_option maxRecDepth 100000 in
theorem irr42 : laws_FnExactIrregularOf.f 60 42 = some true := by kernel_rfl
set_option maxRecDepth 100000 in
theorem irr43 : laws_FnExactIrregularOf.f 9000 43 = some true := by kernel_rfl
set_option maxRecDepth 100000 in
theorem irr44 : laws_FnExactIrregularOf.f 60 44 = some true := by kernel_rfl
set_option maxRecDepth 100000 in
theorem irr45 : laws_FnExactIrregularOf.f 60 45 = some true := by kernel_rfl
set_option maxRecDepth 100000 in
theorem irr46 : laws_FnExactIrregularOf.f 60 46 = some true := by kernel_rfl
set_option maxRecDepth 100000 in
theorem irr47 : laws_FnExactIrregularOf.f 9000 47 = some true := by kernel_rfl
set_option maxRecDepth 100000 in
theorem irr48 : laws_FnExactIrregularOf.f 60 48 = some true := by kernel_rfl
set_option maxRecDepth 100000 in
theorem irr49 : laws_FnExactIrregularOf.f 60 49 = some true := by kernel_rfl
set_option maxRecDepth 100000 in
theorem irr50 : laws_FnExactIrregularOf.f 60 50 = some true := by kernel_rfl
set_option maxRecDepth 100000 in
theorem irr51 : laws_FnExactIrregularOf.f 60 51 = some true := by kernel_rfl
set_option maxRecDepth 100000 in
theorem irr52 : laws_FnExactIrregularOf.f 60 52 = some true := by kernel_rfl
set_option maxRecDepth 100000 in
theorem irr53 : laws_FnExactIrregularOf.f 9000 53 = some true := by kernel_rfl
set_option maxRecDepth 100000 in
theorem irr54 : laws_FnExactIrregularOf.f 60 54 = some true := by kernel_rfl
set_option maxRecDepth 100000 in
theorem irr55 : laws_FnExactIrregularOf.f 60 55 = some true := by kernel_rfl
set_option maxRecDepth 100000 in
theorem irr56 : laws_FnExactIrregularOf.f 60 56 = some true := by kernel_rfl
set_option maxRecDepth 100000 in
theorem irr57 : laws_FnExactIrregularOf.f 60 57 = some true := by kernel_rfl
set_option maxRecDepth 100000 in
theorem irr58 : laws_FnExactIrregularOf.f 60 58 = some true := by kernel_rfl
set_option maxRecDepth 100000 in
theorem irr59 : laws_FnExactIrregularOf.f 9000 59 = some true := by kernel_rfl
set_option maxRecDepth 100000 in
theorem irr60 : laws_FnExactIrregularOf.f 60 60 = some true := by kernel_rfl
set_option maxRecDepth 100000 in
theorem irr61 : laws_FnExactIrregularOf.f 9000 61 = some true := by kernel_rfl

/-- Trial division comes to an end at p itself, at the latest: no number beyond 61 is told as a prime. -/
theorem isPrime_loop (p : Int) (hp : 61 < p) (hm : p ≤ 9223372036854775807) : ∀ (n : Nat) (d : Int), 2 ≤ d → d ≤ p → (p - d).toNat = n → ∃ k, impl_isPrime.l0 k p d = some false := by
  intro n
  induction n with
  | zero =>
    intro d h2 hd hn
    obtain rfl : d = p := by omega
    refine ⟨1, ?_⟩
    simp only [impl_isPrime.l0]
    by_cases c : wrap64 (d * d) ≤ d
    · rw [if_pos c, if_neg (by omega), if_pos (Int.tmod_self)]
    · rw [if_neg c]
      unfold impl_within.f
      rw [if_pos (by omega)]
      simp only [Option.bind_some]
      rw [decide_eq_false (by omega)]
  | succ n ih =>
    intro d h2 hd hn
    obtain ⟨k, hk⟩ := ih (d + 1) (by omega) (by omega) (by omega)
    have hw : wrap64 (d + 1) = d + 1 := by unfold wrap64; omega
    refine ⟨k + 1, ?_⟩
    simp only [impl_isPrime.l0]
    by_cases c : wrap64 (d * d) ≤ p
    · rw [if_pos c, if_neg (by omega)]
      by_cases c2 : Int.tmod p d = 0
      · rw [if_pos c2]
      · rw [if_neg c2, hw]
        exact hk
    · rw [if_neg c]
      unfold impl_within.f
      rw [if_pos (by omega)]
      simp only [Option.bind_some]
      rw [decide_eq_false (by omega)]

theorem isPrime_small (p : Int) (hp : p < 3) : ∃ k, impl_isPrime.f k p = some false := by
  refine ⟨1, ?_⟩
  unfold impl_isPrime.f
  simp only [impl_isPrime.l0]
  have hw : wrap64 (2 * 2) = 4 := by unfold wrap64; omega
  rw [hw, if_neg (by omega)]
  unfold impl_within.f
  by_cases c : 3 ≤ p
  · omega
  · rw [if_neg c]; rfl

theorem isPrime_great (p : Int) (hp : 61 < p) (hm : p ≤ 9223372036854775807) : ∃ k, impl_isPrime.f k p = some false := by
  obtain ⟨k, hk⟩ := isPrime_loop p hp hm _ 2 (by omega) (by omega) rfl
  exact ⟨k, hk⟩

theorem outside (p : Int) (hp : p < 3 ∨ 61 < p) (h : ∃ k, impl_isPrime.f k p = some false) : ∃ k, laws_FnExactIrregularOf.f k p = some true := by
  obtain ⟨k0, h0⟩ := h
  have h1 : impl_isPrime.f (k0 + 4) p = some false := at_rounds (g := fun k => impl_isPrime.f k p) (fun k => impl_isPrime.mono p k) (by omega) h0
  have h2 : spec_l06Prime.f (k0 + 4) p = some false := by
    unfold spec_l06Prime.f spec_l01In.f
    by_cases c : p ≥ 3
    · rw [if_pos c, decide_eq_false (by omega)]; rfl
    · rw [if_neg c]; rfl
  have h3 : spec_IrregularOf.f (k0 + 4) p = some ([], 2) := by
    unfold spec_IrregularOf.f
    rw [h2]; rfl
  have h5 : ∀ j, impl_isPrime.f (k0 + j) p = some false := fun j => at_rounds (g := fun k => impl_isPrime.f k p) (fun k => impl_isPrime.mono p k) (by omega) h0
  have h4 : ∀ j, impl_IrregularOf.f (k0 + j) p = some ([], 2) := by
    intro j
    unfold impl_IrregularOf.f
    rw [h5 j]; rfl
  refine ⟨k0 + 4, ?_⟩
  unfold laws_FnExactIrregularOf.f
  rw [h3, h4 4]
  have e1 : ∀ j, laws_eqInt64S.f (j + 1) [] [] = some true := fun j => rfl
  have e2 : ∀ j, laws_markInt64S.f (j + 1) [] 1 = some (1, []) := fun j => rfl
  have e3 : ∀ j, laws_heldInt64S.f (j + 1) [] 1 = some 1 := fun j => rfl
  simp only [Option.bind_some]
  rw [e1 (k0 + 3)]
  simp only [Option.bind_some, if_true]
  rw [show ((2 : Int) != 2) = false from rfl]
  show laws_FnExactIrregularOf.j0 ((k0 + 3) + 1) p [] 2 [] false = some true
  simp only [laws_FnExactIrregularOf.j0]
  rw [if_neg (by decide), e2 (k0 + 2)]
  simp only [Option.bind_some]
  rw [e3 (k0 + 2)]
  simp only [Option.bind_some]
  rw [if_neg (by decide), if_pos trivial, h4 3]
  simp only [Option.bind_some]
  rw [e1 (k0 + 2)]
  simp only [Option.bind_some, if_true]
  rw [show ((2 : Int) != 2) = false from rfl]
  show laws_FnExactIrregularOf.j1 ((k0 + 2) + 1) [] 1 false = some true
  simp only [laws_FnExactIrregularOf.j1]
  rw [if_neg (by decide), e3 (k0 + 1)]
  simp only [Option.bind_some]
  rw [if_neg (by decide)]
  rfl

theorem FnExactIrregularOf : laws_FnExactIrregularOf.Pure := by
  intro p hwf
  have hb : -9223372036854775808 ≤ p ∧ p ≤ 9223372036854775807 := by
    simpa [Lit.wf, IntKind.min, IntKind.max, IntKind.bits, IntKind.signed] using hwf
  by_cases h1 : p < 3
  · exact outside p (.inl h1) (isPrime_small p h1)
  by_cases h2 : 61 < p
  · exact outside p (.inr h2) (isPrime_great p h2 hb.2)
  have h3 : p = 3 ∨ p = 4 ∨ p = 5 ∨ p = 6 ∨ p = 7 ∨ p = 8 ∨ p = 9 ∨ p = 10 ∨ p = 11 ∨ p = 12 ∨ p = 13 ∨ p = 14 ∨ p = 15 ∨ p = 16 ∨ p = 17 ∨ p = 18 ∨ p = 19 ∨ p = 20 ∨ p = 21 ∨ p = 22 ∨ p = 23 ∨ p = 24 ∨ p = 25 ∨ p = 26 ∨ p = 27 ∨ p = 28 ∨ p = 29 ∨ p = 30 ∨ p = 31 ∨ p = 32 ∨ p = 33 ∨ p = 34 ∨ p = 35 ∨ p = 36 ∨ p = 37 ∨ p = 38 ∨ p = 39 ∨ p = 40 ∨ p = 41 ∨ p = 42 ∨ p = 43 ∨ p = 44 ∨ p = 45 ∨ p = 46 ∨ p = 47 ∨ p = 48 ∨ p = 49 ∨ p = 50 ∨ p = 51 ∨ p = 52 ∨ p = 53 ∨ p = 54 ∨ p = 55 ∨ p = 56 ∨ p = 57 ∨ p = 58 ∨ p = 59 ∨ p = 60 ∨ p = 61 := by omega
  rcases h3 with rfl | rfl | rfl | rfl | rfl | rfl | rfl | rfl | rfl | rfl | rfl | rfl | rfl | rfl | rfl | rfl | rfl | rfl | rfl | rfl | rfl | rfl | rfl | rfl | rfl | rfl | rfl | rfl | rfl | rfl | rfl | rfl | rfl | rfl | rfl | rfl | rfl | rfl | rfl | rfl | rfl | rfl | rfl | rfl | rfl | rfl | rfl | rfl | rfl | rfl | rfl | rfl | rfl | rfl | rfl | rfl | rfl | rfl | rfl
  · exact ⟨_, irr3⟩
  · exact ⟨_, irr4⟩
  · exact ⟨_, irr5⟩
  · exact ⟨_, irr6⟩
  · exact ⟨_, irr7⟩
  · exact ⟨_, irr8⟩
  · exact ⟨_, irr9⟩
  · exact ⟨_, irr10⟩
  · exact ⟨_, irr11⟩
  · exact ⟨_, irr12⟩
  · exact ⟨_, irr13⟩
  · exact ⟨_, irr14⟩
  · exact ⟨_, irr15⟩
  · exact ⟨_, irr16⟩
  · exact ⟨_, irr17⟩
  · exact ⟨_, irr18⟩
  · exact ⟨_, irr19⟩
  · exact ⟨_, irr20⟩
  · exact ⟨_, irr21⟩
  · exact ⟨_, irr22⟩
  · exact ⟨_, irr23⟩
  · exact ⟨_, irr24⟩
  · exact ⟨_, irr25⟩
  · exact ⟨_, irr26⟩
  · exact ⟨_, irr27⟩
  · exact ⟨_, irr28⟩
  · exact ⟨_, irr29⟩
  · exact ⟨_, irr30⟩
  · exact ⟨_, irr31⟩
  · exact ⟨_, irr32⟩
  · exact ⟨_, irr33⟩
  · exact ⟨_, irr34⟩
  · exact ⟨_, irr35⟩
  · exact ⟨_, irr36⟩
  · exact ⟨_, irr37⟩
  · exact ⟨_, irr38⟩
  · exact ⟨_, irr39⟩
  · exact ⟨_, irr40⟩
  · exact ⟨_, irr41⟩
  · exact ⟨_, irr42⟩
  · exact ⟨_, irr43⟩
  · exact ⟨_, irr44⟩
  · exact ⟨_, irr45⟩
  · exact ⟨_, irr46⟩
  · exact ⟨_, irr47⟩
  · exact ⟨_, irr48⟩
  · exact ⟨_, irr49⟩
  · exact ⟨_, irr50⟩
  · exact ⟨_, irr51⟩
  · exact ⟨_, irr52⟩
  · exact ⟨_, irr53⟩
  · exact ⟨_, irr54⟩
  · exact ⟨_, irr55⟩
  · exact ⟨_, irr56⟩
  · exact ⟨_, irr57⟩
  · exact ⟨_, irr58⟩
  · exact ⟨_, irr59⟩
  · exact ⟨_, irr60⟩
  · exact ⟨_, irr61⟩
end Go.Proofs.Ytgcggngleiggiaa.Pure
