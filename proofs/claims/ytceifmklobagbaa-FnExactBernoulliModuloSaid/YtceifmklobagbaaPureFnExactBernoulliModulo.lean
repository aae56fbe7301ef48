/-
BernoulliModulo answers for every argument as the reference does. Conditions: none beyond the statement's own (the arguments are int64s).
-/
import Derived.Test.YtceifmklobagbaaBern1
import Derived.Test.YtceifmklobagbaaBern2
import Derived.Test.YtceifmklobagbaaBern0
namespace Go.Proofs.Ytceifmklobagbaa.Pure
open Go.RowKit Go.Proofs.Ytceifmklobagbaa.PB Go.Proofs.YtceifmklobagbaaW.PrintWords Go.Proofs.YtceifmklobagbaaW.PrintLast
open Go.Proofs.Ytceifmklobagbaa.Bern

set_option maxRecDepth 100000 in
theorem isP3 : impl_isPrime.f 9000 3 = some true := by kernel_rfl
set_option maxRecDepth 100000 in
theorem l06P3 : spec_l06Prime.f 9000 3 = some true := by kernel_rfl
set_option maxRecDepth 100000 in
theorem isP4 : impl_isPrime.f 9000 4 = some false := by kernel_rfl
set_option maxRecDepth 100000 in
theorem l06P4 : spec_l06Prime.f 9000 4 = some false := by kernel_rfl
set_option maxRecDepth 100000 in
theorem isP5 : impl_isPrime.f 9000 5 = some true := by kernel_rfl
set_option maxRecDepth 100000 in
theorem l06P5 : spec_l06Prime.f 9000 5 = some true := by kernel_rfl
set_option maxRecDepth 100000 in
theorem isP6 : impl_isPrime.f 9000 6 = some false := by kernel_rfl
set_option maxRecDepth 100000 in
theorem l06P6 : spec_l06Prime.f 9000 6 = some false := by kernel_rfl
set_option maxRecDepth 100000 in
theorem isP7 : impl_isPrime.f 9000 7 = some true := by kernel_rfl
set_option maxRecDepth 100000 in
theorem l06P7 : spec_l06Prime.f 9000 7 = some true := by kernel_rfl
set_option maxRecDepth 100000 in
theorem isP8 : impl_isPrime.f 9000 8 = some false := by kernel_rfl
set_option maxRecDepth 100000 in
theorem l06P8 : spec_l06Prime.f 9000 8 = some false := by kernel_rfl
set_option maxRecDepth 100000 in
theorem isP9 : impl_isPrime.f 9000 9 = some false := by kernel_rfl
set_option maxRecDepth 100000 in
theorem l06P9 : spec_l06Prime.f 9000 9 = some false := by kernel_rfl
set_option maxRecDepth 100000 in
theorem isP10 : impl_isPrime.f 9000 10 = some false := by kernel_rfl
set_option maxRecDepth 100000 in
theorem l06P10 : spec_l06Prime.f 9000 10 = some false := by kernel_rfl
set_option maxRecDepth 100000 in
theorem isP11 : impl_isPrime.f 9000 11 = some true := by kernel_rfl
set_option maxRecDepth 100000 in
theorem l06P11 : spec_l06Prime.f 9000 11 = some true := by kernel_rfl
set_option maxRecDepth 100000 in
theorem isP12 : impl_isPrime.f 9000 12 = some false := by kernel_rfl
set_option maxRecDepth 100000 in
theorem l06P12 : spec_l06Prime.f 9000 12 = some false := by kernel_rfl
set_option maxRecDepth 100000 in
theorem isP13 : impl_isPrime.f 9000 13 = some true := by kernel_rfl
set_option maxRecDepth 100000 in
theorem l06P13 : spec_l06Prime.f 9000 13 = some true := by kernel_rfl
set_option maxRecDepth 100000 in
theorem isP14 : impl_isPrime.f 9000 14 = some false := by kernel_rfl
set_option maxRecDepth 100000 in
theorem l06P14 : spec_l06Prime.f 9000 14 = some false := by kernel_rfl
set_option maxRecDepth 100000 in
theorem isP15 : impl_isPrime.f 9000 15 = some false := by kernel_rfl
set_option maxRecDepth 100000 in
theorem l06P15 : spec_l06Prime.f 9000 15 = some false := by kernel_rfl
set_option maxRecDepth 100000 in
theorem isP16 : impl_isPrime.f 9000 16 = some false := by kernel_rfl
set_option maxRecDepth 100000 in
theorem l06P16 : spec_l06Prime.f 9000 16 = some false := by kernel_rfl
set_option maxRecDepth 100000 in
theorem isP17 : impl_isPrime.f 9000 17 = some true := by kernel_rfl
set_option maxRecDepth 100000 in
theorem l06P17 : spec_l06Prime.f 9000 17 = some true := by kernel_rfl
set_option maxRecDepth 100000 in
theorem isP18 : impl_isPrime.f 9000 18 = some false := by kernel_rfl
set_option maxRecDepth 100000 in
theorem l06P18 : spec_l06Prime.f 9000 18 = some false := by kernel_rfl
set_option maxRecDepth 100000 in
theorem isP19 : impl_isPrime.f 9000 19 = some true := by kernel_rfl
set_option maxRecDepth 100000 in
theorem l06P19 : spec_l06Prime.f 9000 19 = some true := by kernel_rfl
set_option maxRecDepth 100000 in
theorem isP20 : impl_isPrime.f 9000 20 = some false := by kernel_rfl
set_option maxRecDepth 100000 in
theorem l06P20 : spec_l06Prime.f 9000 20 = some false := by kernel_rfl
set_option maxRecDepth 100000 in
theorem isP21 : impl_isPrime.f 9000 21 = some false := by kernel_rfl
set_option maxRecDepth 100000 in
theorem l06P21 : spec_l06Prime.f 9000 21 = some false := by kernel_rfl
set_option maxRecDepth 100000 in
theorem isP22 : impl_isPrime.f 9000 22 = some false := by kernel_rfl
set_option maxRecDepth 100000 in
theorem l06P22 : spec_l06Prime.f 9000 22 = some false := by kernel_rfl
set_option maxRecDepth 100000 in
theorem isP23 : impl_isPrime.f 9000 23 = some true := by kernel_rfl
set_option maxRecDepth 100000 in
theorem l06P23 : spec_l06Prime.f 9000 23 = some true := by kernel_rfl
set_option maxRecDepth 100000 in
theorem isP24 : impl_isPrime.f 9000 24 = some false := by kernel_rfl
set_option maxRecDepth 100000 in
theorem l06P24 : spec_l06Prime.f 9000 24 = some false := by kernel_rfl
set_option maxRecDepth 100000 in
theorem isP25 : impl_isPrime.f 9000 25 = some false := by kernel_rfl
set_option maxRecDepth 100000 in
theorem l06P25 : spec_l06Prime.f 9000 25 = some false := by kernel_rfl
set_option maxRecDepth 100000 in
theorem isP26 : impl_isPrime.f 9000 26 = some false := by kernel_rfl
set_option maxRecDepth 100000 in
theorem l06P26 : spec_l06Prime.f 9000 26 = some false := by kernel_rfl
set_option maxRecDepth 100000 in
theorem isP27 : impl_isPrime.f 9000 27 = some false := by kernel_rfl
set_option maxRecDepth 100000 in
theorem l06P27 : spec_l06Prime.f 9000 27 = some false := by kernel_rfl
set_option maxRecDepth 100000 in
theorem isP28 : impl_isPrime.f 9000 28 = some false := by kernel_rfl
set_option maxRecDepth 100000 in
theorem l06P28 : spec_l06Prime.f 9000 28 = some false := by kernel_rfl
set_option maxRecDepth 100000 in
theorem isP29 : impl_isPrime.f 9000 29 = some true := by kernel_rfl
set_option maxRecDepth 100000 in
theorem l06P29 : spec_l06Prime.f 9000 29 = some true := by kernel_rfl
set_option maxRecDepth 100000 in
theorem isP30 : impl_isPrime.f 9000 30 = some false := by kernel_rfl
set_option maxRecDepth 100000 in
theorem l06P30 : spec_l06Prime.f 9000 30 = some false := by kernel_rfl
set_option maxRecDepth 100000 in
theorem isP31 : impl_isPrime.f 9000 31 = some true := by kernel_rfl
set_option maxRecDepth 100000 in
theorem l06P31 : spec_l06Prime.f 9000 31 = some true := by kernel_rfl
set_option maxRecDepth 100000 in
theorem isP32 : impl_isPrime.f 9000 32 = some false := by kernel_rfl
set_option maxRecDepth 100000 in
theorem l06P32 : spec_l06Prime.f 9000 32 = some false := by kernel_rfl
set_option maxRecDepth 100000 in
theorem isP33 : impl_isPrime.f 9000 33 = some false := by kernel_rfl
set_option maxRecDepth 100000 in
theorem l06P33 : spec_l06Prime.f 9000 33 = some false := by kernel_rfl
set_option maxRecDepth 100000 in
theorem isP34 : impl_isPrime.f 9000 34 = some false := by kernel_rfl
set_option maxRecDepth 100000 in
theorem l06P34 : spec_l06Prime.f 9000 34 = some false := by kernel_rfl
set_option maxRecDepth 100000 in
theorem isP35 : impl_isPrime.f 9000 35 = some false := by kernel_rfl
set_option maxRecDepth 100000 in
theorem l06P35 : spec_l06Prime.f 9000 35 = some false := by kernel_rfl
set_option maxRecDepth 100000 in
theorem isP36 : impl_isPrime.f 9000 36 = some false := by kernel_rfl
set_option maxRecDepth 100000 in
theorem l06P36 : spec_l06Prime.f 9000 36 = some false := by kernel_rfl
set_option maxRecDepth 100000 in
theorem isP37 : impl_isPrime.f 9000 37 = some true := by kernel_rfl
set_option maxRecDepth 100000 in
theorem l06P37 : spec_l06Prime.f 9000 37 = some true := by kernel_rfl
set_option maxRecDepth 100000 in
theorem isP38 : impl_isPrime.f 9000 38 = some false := by kernel_rfl
set_option maxRecDepth 100000 in
theorem l06P38 : spec_l06Prime.f 9000 38 = some false := by kernel_rfl
set_option maxRecDepth 100000 in
theorem isP39 : impl_isPrime.f 9000 39 = some false := by kernel_rfl
set_option maxRecDepth 100000 in
theorem l06P39 : spec_l06Prime.f 9000 39 = some false := by kernel_rfl
set_option maxRecDepth 100000 in
theorem isP40 : impl_isPrime.f 9000 40 = some false := by kernel_rfl
set_option maxRecDepth 100000 in
theorem l06P40 : spec_l06Prime.f 9000 40 = some false := by kernel_rfl
set_option maxRecDepth 100000 in
theorem isP41 : impl_isPrime.f 9000 41 = some true := by kernel_rfl
set_option maxRecDepth 100000 in
theorem l06P41 : spec_l06Prime.f 9000 41 = some true := by kernel_rfl
set_option maxRecDepth 100000 in
theorem isP42 : impl_isPrime.f 9000 42 = some false := by kernel_rfl
set_option maxRecDepth 100000 in
theorem l06P42 : spec_l06Prime.f 9000 42 = some false := by kernel_rfl
set_option maxRecDepth 100000 in
theorem isP43 : impl_isPrime.f 9000 43 = some true := by kernel_rfl
set_option maxRecDepth 100000 in
theorem l06P43 : spec_l06Prime.f 9000 43 = some true := by kernel_rfl
set_option maxRecDepth 100000 in
theorem isP44 : impl_isPrime.f 9000 44 = some false := by kernel_rfl
set_option maxRecDepth 100000 in
theorem l06P44 : spec_l06Prime.f 9000 44 = some false := by kernel_rfl
set_option maxRecDepth 100000 in
theorem isP45 : impl_isPrime.f 9000 45 = some false := by kernel_rfl
set_option maxRecDepth 100000 in
theorem l06P45 : spec_l06Prime.f 9000 45 = some false := by kernel_rfl
set_option maxRecDepth 100000 in
theorem isP46 : impl_isPrime.f 9000 46 = some false := by kernel_rfl
set_option maxRecDepth 100000 in
theorem l06P46 : spec_l06Prime.f 9000 46 = some false := by kernel_rfl
set_option maxRecDepth 100000 in
theorem isP47 : impl_isPrime.f 9000 47 = some true := by kernel_rfl
set_option maxRecDepth 100000 in
theorem l06P47 : spec_l06Prime.f 9000 47 = some true := by kernel_rfl
set_option maxRecDepth 100000 in
theorem isP48 : impl_isPrime.f 9000 48 = some false := by kernel_rfl
set_option maxRecDepth 100000 in
theorem l06P48 : spec_l06Prime.f 9000 48 = some false := by kernel_rfl
set_option maxRecDepth 100000 in
theorem isP49 : impl_isPrime.f 9000 49 = some false := by kernel_rfl
set_option maxRecDepth 100000 in
theorem l06P49 : spec_l06Prime.f 9000 49 = some false := by kernel_rfl
set_option maxRecDepth 100000 in
theorem isP50 : impl_isPrime.f 9000 50 = some false := by kernel_rfl
set_option maxRecDepth 100000 in
theorem l06P50 : spec_l06Prime.f 9000 50 = some false := by kernel_rfl
set_option maxRecDepth 100000 in
theorem isP51 : impl_isPrime.f 9000 51 = some false := by kernel_rfl
set_option maxRecDepth 100000 in
theorem l06P51 : spec_l06Prime.f 9000 51 = some false := by kernel_rfl
set_option maxRecDepth 100000 in
theorem isP52 : impl_isPrime.f 9000 52 = some false := by kernel_rfl
set_option maxRecDepth 100000 in
theorem l06P52 : spec_l06Prime.f 9000 52 = some false := by kernel_rfl
set_option maxRecDepth 100000 in
theorem isP53 : impl_isPrime.f 9000 53 = some true := by kernel_rfl
set_option maxRecDepth 100000 in
theorem l06P53 : spec_l06Prime.f 9000 53 = some true := by kernel_rfl
set_option maxRecDepth 100000 in
theorem isP54 : impl_isPrime.f 9000 54 = some false := by kernel_rfl
set_option maxRecDepth 100000 in
theorem l06P54 : spec_l06Prime.f 9000 54 = some false := by kernel_rfl
set_option maxRecDepth 100000 in
theorem isP55 : impl_isPrime.f 9000 55 = some false := by kernel_rfl
set_option maxRecDepth 100000 in
theorem l06P55 : spec_l06Prime.f 9000 55 = some false := by kernel_rfl
set_option maxRecDepth 100000 in
theorem isP56 : impl_isPrime.f 9000 56 = some false := by kernel_rfl
set_option maxRecDepth 100000 in
theorem l06P56 : spec_l06Prime.f 9000 56 = some false := by kernel_rfl
set_option maxRecDepth 100000 in
theorem isP57 : impl_isPrime.f 9000 57 = some false := by kernel_rfl
set_option maxRecDepth 100000 in
theorem l06P57 : spec_l06Prime.f 9000 57 = some false := by kernel_rfl
set_option maxRecDepth 100000 in
theorem isP58 : impl_isPrime.f 9000 58 = some false := by kernel_rfl
set_option maxRecDepth 100000 in
theorem l06P58 : spec_l06Prime.f 9000 58 = some false := by kernel_rfl
set_option maxRecDepth 100000 in
theorem isP59 : impl_isPrime.f 9000 59 = some true := by kernel_rfl
set_option maxRecDepth 100000 in
theorem l06P59 : spec_l06Prime.f 9000 59 = some true := by kernel_rfl
set_option maxRecDepth 100000 in
theorem isP60 : impl_isPrime.f 9000 60 = some false := by kernel_rfl
set_option maxRecDepth 100000 in
theorem l06P60 : spec_l06Prime.f 9000 60 = some false := by kernel_rfl
set_option maxRecDepth 100000 in
theorem isP61 : impl_isPrime.f 9000 61 = some true := by kernel_rfl
set_option maxRecDepth 100000 in
theorem l06P61 : spec_l06Prime.f 9000 61 = some true := by kernel_rfl
/-- Trial division comes to an end at p itself, at the latest: no number beyond 61 is told as a prime. -/
theorem isPrime_loop (p : Int) (hp : 61 < p) (hm : p ≤ 9223372036854775807) : ∀ (n : Nat) (d : Int), 2 ≤ d → d ≤ p → (p - d).toNat = n → ∃ k, impl_isPrime.l0 k p d = some false := by
  intro n
  induction n with
  | zero =>
    intro d h2 hd hn
    obtain rfl : d = p := by omega
    refine ⟨1, ?_⟩
    simp only [impl_isPrime.l0]
    by_cases c : wrap64 (d * d) ≤ d
    · rw [if_pos c, if_neg (by omega), if_pos (Int.tmod_self)]
    · rw [if_neg c]
      unfold impl_within.f
      rw [if_pos (by omega)]
      simp only [Option.bind_some]
      rw [decide_eq_false (by omega)]
  | succ n ih =>
    intro d h2 hd hn
    obtain ⟨k, hk⟩ := ih (d + 1) (by omega) (by omega) (by omega)
    have hw : wrap64 (d + 1) = d + 1 := by unfold wrap64; omega
    refine ⟨k + 1, ?_⟩
    simp only [impl_isPrime.l0]
    by_cases c : wrap64 (d * d) ≤ p
    · rw [if_pos c, if_neg (by omega)]
      by_cases c2 : Int.tmod p d = 0
      · rw [if_pos c2]
      · rw [if_neg c2, hw]
        exact hk
    · rw [if_neg c]
      unfold impl_within.f
      rw [if_pos (by omega)]
      simp only [Option.bind_some]
      rw [decide_eq_false (by omega)]

theorem isPrime_small (p : Int) (hp : p < 3) : ∃ k, impl_isPrime.f k p = some false := by
  refine ⟨1, ?_⟩
  unfold impl_isPrime.f
  simp only [impl_isPrime.l0]
  have hw : wrap64 (2 * 2) = 4 := by unfold wrap64; omega
  rw [hw, if_neg (by omega)]
  unfold impl_within.f
  by_cases c : 3 ≤ p
  · omega
  · rw [if_neg c]; rfl

theorem isPrime_great (p : Int) (hp : 61 < p) (hm : p ≤ 9223372036854775807) : ∃ k, impl_isPrime.f k p = some false := by
  obtain ⟨k, hk⟩ := isPrime_loop p hp hm _ 2 (by omega) (by omega) rfl
  exact ⟨k, hk⟩


theorem law_of (k : Nat) (p q : Int) (r : Int × Int) (h1 : spec_BernoulliModulo.f k p q = some r) (h2 : impl_BernoulliModulo.f k p q = some r) : laws_FnExactBernoulliModulo.f k p q = some true := by
  unfold laws_FnExactBernoulliModulo.f
  rw [h1, h2]
  simp only [Option.bind_some]
  rw [if_pos trivial, if_pos trivial]

theorem noPrime (k : Nat) (p q : Int) (h1 : spec_l06Prime.f k p = some false) (h2 : impl_isPrime.f k p = some false) : laws_FnExactBernoulliModulo.f k p q = some true := by
  refine law_of k p q (0, 2) ?_ ?_
  · unfold spec_BernoulliModulo.f
    rw [h1]; rfl
  · unfold impl_BernoulliModulo.f
    rw [h2]; rfl

theorem noK (k : Nat) (p q : Int) (hp : 3 ≤ p ∧ p ≤ 61) (h1 : spec_l06Prime.f k p = some true) (h2 : impl_isPrime.f k p = some true) (hq : ¬(2 ≤ q ∧ q ≤ p - 3 ∧ q % 2 = 0)) : laws_FnExactBernoulliModulo.f k p q = some true := by
  have hw : wrap64 (p - 3) = p - 3 := by unfold wrap64; omega
  refine law_of k p q (0, 2) ?_ ?_
  · unfold spec_BernoulliModulo.f
    rw [h1]
    simp only [Option.bind_some, if_true]
    rw [hw]
    unfold spec_l01In.f
    by_cases c1 : q ≥ 2
    · rw [if_pos c1]
      simp only [Option.bind_some]
      by_cases c2 : q ≤ p - 3
      · rw [decide_eq_true c2, if_pos rfl]
        rw [if_pos (show Int.tmod q 2 = 1 by rw [Int.tmod_eq_emod_of_nonneg (by omega)]; omega)]
      · rw [decide_eq_false c2]; rfl
    · rw [if_neg c1]; rfl
  · unfold impl_BernoulliModulo.f
    rw [h2]
    simp only [Option.bind_some, if_true]
    rw [hw]
    unfold impl_within.f
    by_cases c1 : 2 ≤ q
    · rw [if_pos c1]
      simp only [Option.bind_some]
      by_cases c2 : q ≤ p - 3
      · rw [decide_eq_true c2, if_pos rfl]
        rw [if_neg (show ¬ Int.tmod q 2 = 0 by rw [Int.tmod_eq_emod_of_nonneg (by omega)]; omega)]
      · rw [decide_eq_false c2]; rfl
    · rw [if_neg c1]; rfl

theorem specOf (k : Nat) (p q : Int) (L : List Int) (hp : 3 ≤ p ∧ p ≤ 61) (h1 : spec_l06Prime.f k p = some true) (hL : spec_l10Bernoulli.f k p = some L) (hq : 2 ≤ q ∧ q ≤ p - 3 ∧ q % 2 = 0) (hl : q < (L.length : Int)) : spec_BernoulliModulo.f k p q = some (rd L q, 0) := by
  have hw : wrap64 (p - 3) = p - 3 := by unfold wrap64; omega
  unfold spec_BernoulliModulo.f
  rw [h1]
  simp only [Option.bind_some, if_true]
  rw [hw]
  unfold spec_l01In.f
  rw [if_pos (show q ≥ 2 by omega)]
  simp only [Option.bind_some]
  rw [decide_eq_true (show q ≤ p - 3 by omega), if_pos rfl, if_neg (show ¬ Int.tmod q 2 = 1 by rw [Int.tmod_eq_emod_of_nonneg (by omega)]; omega), hL]
  simp only [Option.bind_some]
  rw [if_pos (by omega), if_pos hl]

theorem at3 (q : Int) : laws_FnExactBernoulliModulo.f 9000 3 q = some true := by
  by_cases hq : (2 : Int) ≤ q ∧ q ≤ 3 - 3 ∧ q % 2 = 0
  · omega
  · exact noK _ _ _ (by decide) l06P3 isP3 hq

theorem at5 (q : Int) : laws_FnExactBernoulliModulo.f 9000 5 q = some true := by
  by_cases hq : (2 : Int) ≤ q ∧ q ≤ 5 - 3 ∧ q % 2 = 0
  · have h : q = 2 := by omega
    rcases h with rfl
    · exact law_of _ _ _ _ (specOf _ _ _ _ (by decide) l06P5 list5 (by decide) (by decide)) impl5_2
  · exact noK _ _ _ (by decide) l06P5 isP5 hq

theorem at7 (q : Int) : laws_FnExactBernoulliModulo.f 9000 7 q = some true := by
  by_cases hq : (2 : Int) ≤ q ∧ q ≤ 7 - 3 ∧ q % 2 = 0
  · have h : q = 2 ∨ q = 4 := by omega
    rcases h with rfl | rfl
    · exact law_of _ _ _ _ (specOf _ _ _ _ (by decide) l06P7 list7 (by decide) (by decide)) impl7_2
    · exact law_of _ _ _ _ (specOf _ _ _ _ (by decide) l06P7 list7 (by decide) (by decide)) impl7_4
  · exact noK _ _ _ (by decide) l06P7 isP7 hq

theorem at11 (q : Int) : laws_FnExactBernoulliModulo.f 9000 11 q = some true := by
  by_cases hq : (2 : Int) ≤ q ∧ q ≤ 11 - 3 ∧ q % 2 = 0
  · have h : q = 2 ∨ q = 4 ∨ q = 6 ∨ q = 8 := by omega
    rcases h with rfl | rfl | rfl | rfl
    · exact law_of _ _ _ _ (specOf _ _ _ _ (by decide) l06P11 list11 (by decide) (by decide)) impl11_2
    · exact law_of _ _ _ _ (specOf _ _ _ _ (by decide) l06P11 list11 (by decide) (by decide)) impl11_4
    · exact law_of _ _ _ _ (specOf _ _ _ _ (by decide) l06P11 list11 (by decide) (by decide)) impl11_6
    · exact law_of _ _ _ _ (specOf _ _ _ _ (by decide) l06P11 list11 (by decide) (by decide)) impl11_8
  · exact noK _ _ _ (by decide) l06P11 isP11 hq

theorem at13 (q : Int) : laws_FnExactBernoulliModulo.f 9000 13 q = some true := by
  by_cases hq : (2 : Int) ≤ q ∧ q ≤ 13 - 3 ∧ q % 2 = 0
  · have h : q = 2 ∨ q = 4 ∨ q = 6 ∨ q = 8 ∨ q = 10 := by omega
    rcases h with rfl | rfl | rfl | rfl | rfl
    · exact law_of _ _ _ _ (specOf _ _ _ _ (by decide) l06P13 list13 (by decide) (by decide)) impl13_2
    · exact law_of _ _ _ _ (specOf _ _ _ _ (by decide) l06P13 list13 (by decide) (by decide)) impl13_4
    · exact law_of _ _ _ _ (specOf _ _ _ _ (by decide) l06P13 list13 (by decide) (by decide)) impl13_6
    · exact law_of _ _ _ _ (specOf _ _ _ _ (by decide) l06P13 list13 (by decide) (by decide)) impl13_8
    · exact law_of _ _ _ _ (specOf _ _ _ _ (by decide) l06P13 list13 (by decide) (by decide)) impl13_10
  · exact noK _ _ _ (by decide) l06P13 isP13 hq

theorem at17 (q : Int) : laws_FnExactBernoulliModulo.f 9000 17 q = some true := by
  by_cases hq : (2 : Int) ≤ q ∧ q ≤ 17 - 3 ∧ q % 2 = 0
  · have h : q = 2 ∨ q = 4 ∨ q = 6 ∨ q = 8 ∨ q = 10 ∨ q = 12 ∨ q = 14 := by omega
    rcases h with rfl | rfl | rfl | rfl | rfl | rfl | rfl
    · exact law_of _ _ _ _ (specOf _ _ _ _ (by decide) l06P17 list17 (by decide) (by decide)) impl17_2
    · exact law_of _ _ _ _ (specOf _ _ _ _ (by decide) l06P17 list17 (by decide) (by decide)) impl17_4
    · exact law_of _ _ _ _ (specOf _ _ _ _ (by decide) l06P17 list17 (by decide) (by decide)) impl17_6
    · exact law_of _ _ _ _ (specOf _ _ _ _ (by decide) l06P17 list17 (by decide) (by decide)) impl17_8
    · exact law_of _ _ _ _ (specOf _ _ _ _ (by decide) l06P17 list17 (by decide) (by decide)) impl17_10
    · exact law_of _ _ _ _ (specOf _ _ _ _ (by decide) l06P17 list17 (by decide) (by decide)) impl17_12
    · exact law_of _ _ _ _ (specOf _ _ _ _ (by decide) l06P17 list17 (by decide) (by decide)) impl17_14
  · exact noK _ _ _ (by decide) l06P17 isP17 hq

theorem at19 (q : Int) : laws_FnExactBernoulliModulo.f 9000 19 q = some true := by
  by_cases hq : (2 : Int) ≤ q ∧ q ≤ 19 - 3 ∧ q % 2 = 0
  · have h : q = 2 ∨ q = 4 ∨ q = 6 ∨ q = 8 ∨ q = 10 ∨ q = 12 ∨ q = 14 ∨ q = 16 := by omega
    rcases h with rfl | rfl | rfl | rfl | rfl | rfl | rfl | rfl
    · exact law_of _ _ _ _ (specOf _ _ _ _ (by decide) l06P19 list19 (by decide) (by decide)) impl19_2
    · exact law_of _ _ _ _ (specOf _ _ _ _ (by decide) l06P19 list19 (by decide) (by decide)) impl19_4
    · exact law_of _ _ _ _ (specOf _ _ _ _ (by decide) l06P19 list19 (by decide) (by decide)) impl19_6
    · exact law_of _ _ _ _ (specOf _ _ _ _ (by decide) l06P19 list19 (by decide) (by decide)) impl19_8
    · exact law_of _ _ _ _ (specOf _ _ _ _ (by decide) l06P19 list19 (by decide) (by decide)) impl19_10
    · exact law_of _ _ _ _ (specOf _ _ _ _ (by decide) l06P19 list19 (by decide) (by decide)) impl19_12
    · exact law_of _ _ _ _ (specOf _ _ _ _ (by decide) l06P19 list19 (by decide) (by decide)) impl19_14
    · exact law_of _ _ _ _ (specOf _ _ _ _ (by decide) l06P19 list19 (by decide) (by decide)) impl19_16
  · exact noK _ _ _ (by decide) l06P19 isP19 hq

theorem at23 (q : Int) : laws_FnExactBernoulliModulo.f 9000 23 q = some true := by
  by_cases hq : (2 : Int) ≤ q ∧ q ≤ 23 - 3 ∧ q % 2 = 0
  · have h : q = 2 ∨ q = 4 ∨ q = 6 ∨ q = 8 ∨ q = 10 ∨ q = 12 ∨ q = 14 ∨ q = 16 ∨ q = 18 ∨ q = 20 := by omega
    rcases h with rfl | rfl | rfl | rfl | rfl | rfl | rfl | rfl | rfl | rfl
    · exact law_of _ _ _ _ (specOf _ _ _ _ (by decide) l06P23 list23 (by decide) (by decide)) impl23_2
    · exact law_of _ _ _ _ (specOf _ _ _ _ (by decide) l06P23 list23 (by decide) (by decide)) impl23_4
    · exact law_of _ _ _ _ (specOf _ _ _ _ (by decide) l06P23 list23 (by decide) (by decide)) impl23_6
    · exact law_of _ _ _ _ (specOf _ _ _ _ (by decide) l06P23 list23 (by decide) (by decide)) impl23_8
    · exact law_of _ _ _ _ (specOf _ _ _ _ (by decide) l06P23 list23 (by decide) (by decide)) impl23_10
    · exact law_of _ _ _ _ (specOf _ _ _ _ (by decide) l06P23 list23 (by decide) (by decide)) impl23_12
    · exact law_of _ _ _ _ (specOf _ _ _ _ (by decide) l06P23 list23 (by decide) (by decide)) impl23_14
    · exact law_of _ _ _ _ (specOf _ _ _ _ (by decide) l06P23 list23 (by decide) (by decide)) impl23_16
    · exact law_of _ _ _ _ (specOf _ _ _ _ (by decide) l06P23 list23 (by decide) (by decide)) impl23_18
    · exact law_of _ _ _ _ (specOf _ _ _ _ (by decide) l06P23 list23 (by decide) (by decide)) impl23_20
  · exact noK _ _ _ (by decide) l06P23 isP23 hq

theorem at29 (q : Int) : laws_FnExactBernoulliModulo.f 9000 29 q = some true := by
  by_cases hq : (2 : Int) ≤ q ∧ q ≤ 29 - 3 ∧ q % 2 = 0
  · have h : q = 2 ∨ q = 4 ∨ q = 6 ∨ q = 8 ∨ q = 10 ∨ q = 12 ∨ q = 14 ∨ q = 16 ∨ q = 18 ∨ q = 20 ∨ q = 22 ∨ q = 24 ∨ q = 26 := by omega
    rcases h with rfl | rfl | rfl | rfl | rfl | rfl | rfl | rfl | rfl | rfl | rfl | rfl | rfl
    · exact law_of _ _ _ _ (specOf _ _ _ _ (by decide) l06P29 list29 (by decide) (by decide)) impl29_2
    · exact law_of _ _ _ _ (specOf _ _ _ _ (by decide) l06P29 list29 (by decide) (by decide)) impl29_4
    · exact law_of _ _ _ _ (specOf _ _ _ _ (by decide) l06P29 list29 (by decide) (by decide)) impl29_6
    · exact law_of _ _ _ _ (specOf _ _ _ _ (by decide) l06P29 list29 (by decide) (by decide)) impl29_8
    · exact law_of _ _ _ _ (specOf _ _ _ _ (by decide) l06P29 list29 (by decide) (by decide)) impl29_10
    · exact law_of _ _ _ _ (specOf _ _ _ _ (by decide) l06P29 list29 (by decide) (by decide)) impl29_12
    · exact law_of _ _ _ _ (specOf _ _ _ _ (by decide) l06P29 list29 (by decide) (by decide)) impl29_14
    · exact law_of _ _ _ _ (specOf _ _ _ _ (by decide) l06P29 list29 (by decide) (by decide)) impl29_16
    · exact law_of _ _ _ _ (specOf _ _ _ _ (by decide) l06P29 list29 (by decide) (by decide)) impl29_18
    · exact law_of _ _ _ _ (specOf _ _ _ _ (by decide) l06P29 list29 (by decide) (by decide)) impl29_20
    · exact law_of _ _ _ _ (specOf _ _ _ _ (by decide) l06P29 list29 (by decide) (by decide)) impl29_22
    · exact law_of _ _ _ _ (specOf _ _ _ _ (by decide) l06P29 list29 (by decide) (by decide)) impl29_24
    · exact law_of _ _ _ _ (specOf _ _ _ _ (by decide) l06P29 list29 (by decide) (by decide)) impl29_26
  · exact noK _ _ _ (by decide) l06P29 isP29 hq

theorem at31 (q : Int) : laws_FnExactBernoulliModulo.f 9000 31 q = some true := by
  by_cases hq : (2 : Int) ≤ q ∧ q ≤ 31 - 3 ∧ q % 2 = 0
  · have h : q = 2 ∨ q = 4 ∨ q = 6 ∨ q = 8 ∨ q = 10 ∨ q = 12 ∨ q = 14 ∨ q = 16 ∨ q = 18 ∨ q = 20 ∨ q = 22 ∨ q = 24 ∨ q = 26 ∨ q = 28 := by omega
    rcases h with rfl | rfl | rfl | rfl | rfl | rfl | rfl | rfl | rfl | rfl | rfl | rfl | rfl | rfl
    · exact law_of _ _ _ _ (specOf _ _ _ _ (by decide) l06P31 list31 (by decide) (by decide)) impl31_2
    · exact law_of _ _ _ _ (specOf _ _ _ _ (by decide) l06P31 list31 (by decide) (by decide)) impl31_4
    · exact law_of _ _ _ _ (specOf _ _ _ _ (by decide) l06P31 list31 (by decide) (by decide)) impl31_6
    · exact law_of _ _ _ _ (specOf _ _ _ _ (by decide) l06P31 list31 (by decide) (by decide)) impl31_8
    · exact law_of _ _ _ _ (specOf _ _ _ _ (by decide) l06P31 list31 (by decide) (by decide)) impl31_10
    · exact law_of _ _ _ _ (specOf _ _ _ _ (by decide) l06P31 list31 (by decide) (by decide)) impl31_12
    · exact law_of _ _ _ _ (specOf _ _ _ _ (by decide) l06P31 list31 (by decide) (by decide)) impl31_14
    · exact law_of _ _ _ _ (specOf _ _ _ _ (by decide) l06P31 list31 (by decide) (by decide)) impl31_16
    · exact law_of _ _ _ _ (specOf _ _ _ _ (by decide) l06P31 list31 (by decide) (by decide)) impl31_18
    · exact law_of _ _ _ _ (specOf _ _ _ _ (by decide) l06P31 list31 (by decide) (by decide)) impl31_20
    · exact law_of _ _ _ _ (specOf _ _ _ _ (by decide) l06P31 list31 (by decide) (by decide)) impl31_22
    · exact law_of _ _ _ _ (specOf _ _ _ _ (by decide) l06P31 list31 (by decide) (by decide)) impl31_24
    · exact law_of _ _ _ _ (specOf _ _ _ _ (by decide) l06P31 list31 (by decide) (by decide)) impl31_26
    · exact law_of _ _ _ _ (specOf _ _ _ _ (by decide) l06P31 list31 (by decide) (by decide)) impl31_28
  · exact noK _ _ _ (by decide) l06P31 isP31 hq

theorem at37 (q : Int) : laws_FnExactBernoulliModulo.f 9000 37 q = some true := by
  by_cases hq : (2 : Int) ≤ q ∧ q ≤ 37 - 3 ∧ q % 2 = 0
  · have h : q = 2 ∨ q = 4 ∨ q = 6 ∨ q = 8 ∨ q = 10 ∨ q = 12 ∨ q = 14 ∨ q = 16 ∨ q = 18 ∨ q = 20 ∨ q = 22 ∨ q = 24 ∨ q = 26 ∨ q = 28 ∨ q = 30 ∨ q = 32 ∨ q = 34 := by omega
    rcases h with rfl | rfl | rfl | rfl | rfl | rfl | rfl | rfl | rfl | rfl | rfl | rfl | rfl | rfl | rfl | rfl | rfl
    · exact law_of _ _ _ _ (specOf _ _ _ _ (by decide) l06P37 list37 (by decide) (by decide)) impl37_2
    · exact law_of _ _ _ _ (specOf _ _ _ _ (by decide) l06P37 list37 (by decide) (by decide)) impl37_4
    · exact law_of _ _ _ _ (specOf _ _ _ _ (by decide) l06P37 list37 (by decide) (by decide)) impl37_6
    · exact law_of _ _ _ _ (specOf _ _ _ _ (by decide) l06P37 list37 (by decide) (by decide)) impl37_8
    · exact law_of _ _ _ _ (specOf _ _ _ _ (by decide) l06P37 list37 (by decide) (by decide)) impl37_10
    · exact law_of _ _ _ _ (specOf _ _ _ _ (by decide) l06P37 list37 (by decide) (by decide)) impl37_12
    · exact law_of _ _ _ _ (specOf _ _ _ _ (by decide) l06P37 list37 (by decide) (by decide)) impl37_14
    · exact law_of _ _ _ _ (specOf _ _ _ _ (by decide) l06P37 list37 (by decide) (by decide)) impl37_16
    · exact law_of _ _ _ _ (specOf _ _ _ _ (by decide) l06P37 list37 (by decide) (by decide)) impl37_18
    · exact law_of _ _ _ _ (specOf _ _ _ _ (by decide) l06P37 list37 (by decide) (by decide)) impl37_20
    · exact law_of _ _ _ _ (specOf _ _ _ _ (by decide) l06P37 list37 (by decide) (by decide)) impl37_22
    · exact law_of _ _ _ _ (specOf _ _ _ _ (by decide) l06P37 list37 (by decide) (by decide)) impl37_24
    · exact law_of _ _ _ _ (specOf _ _ _ _ (by decide) l06P37 list37 (by decide) (by decide)) impl37_26
    · exact law_of _ _ _ _ (specOf _ _ _ _ (by decide) l06P37 list37 (by decide) (by decide)) impl37_28
    · exact law_of _ _ _ _ (specOf _ _ _ _ (by decide) l06P37 list37 (by decide) (by decide)) impl37_30
    · exact law_of _ _ _ _ (specOf _ _ _ _ (by decide) l06P37 list37 (by decide) (by decide)) impl37_32
    · exact law_of _ _ _ _ (specOf _ _ _ _ (by decide) l06P37 list37 (by decide) (by decide)) impl37_34
  · exact noK _ _ _ (by decide) l06P37 isP37 hq

theorem at41 (q : Int) : laws_FnExactBernoulliModulo.f 9000 41 q = some true := by
  by_cases hq : (2 : Int) ≤ q ∧ q ≤ 41 - 3 ∧ q % 2 = 0
  · have h : q = 2 ∨ q = 4 ∨ q = 6 ∨ q = 8 ∨ q = 10 ∨ q = 12 ∨ q = 14 ∨ q = 16 ∨ q = 18 ∨ q = 20 ∨ q = 22 ∨ q = 24 ∨ q = 26 ∨ q = 28 ∨ q = 30 ∨ q = 32 ∨ q = 34 ∨ q = 36 ∨ q = 38 := by omega
    rcases h with rfl | rfl | rfl | rfl | rfl | rfl | rfl | rfl | rfl | rfl | rfl | rfl | rfl | rfl | rfl | rfl | rfl | rfl | rfl
    · exact law_of _ _ _ _ (specOf _ _ _ _ (by decide) l06P41 list41 (by decide) (by decide)) impl41_2
    · exact law_of _ _ _ _ (specOf _ _ _ _ (by decide) l06P41 list41 (by decide) (by decide)) impl41_4
    · exact law_of _ _ _ _ (specOf _ _ _ _ (by decide) l06P41 list41 (by decide) (by decide)) impl41_6
    · exact law_of _ _ _ _ (specOf _ _ _ _ (by decide) l06P41 list41 (by decide) (by decide)) impl41_8
    · exact law_of _ _ _ _ (specOf _ _ _ _ (by decide) l06P41 list41 (by decide) (by decide)) impl41_10
    · exact law_of _ _ _ _ (specOf _ _ _ _ (by decide) l06P41 list41 (by decide) (by decide)) impl41_12
    · exact law_of _ _ _ _ (specOf _ _ _ _ (by decide) l06P41 list41 (by decide) (by decide)) impl41_14
    · exact law_of _ _ _ _ (specOf _ _ _ _ (by decide) l06P41 list41 (by decide) (by decide)) impl41_16
    · exact law_of _ _ _ _ (specOf _ _ _ _ (by decide) l06P41 list41 (by decide) (by decide)) impl41_18
    · exact law_of _ _ _ _ (specOf _ _ _ _ (by decide) l06P41 list41 (by decide) (by decide)) impl41_20
    · exact law_of _ _ _ _ (specOf _ _ _ _ (by decide) l06P41 list41 (by decide) (by decide)) impl41_22
    · exact law_of _ _ _ _ (specOf _ _ _ _ (by decide) l06P41 list41 (by decide) (by decide)) impl41_24
    · exact law_of _ _ _ _ (specOf _ _ _ _ (by decide) l06P41 list41 (by decide) (by decide)) impl41_26
    · exact law_of _ _ _ _ (specOf _ _ _ _ (by decide) l06P41 list41 (by decide) (by decide)) impl41_28
    · exact law_of _ _ _ _ (specOf _ _ _ _ (by decide) l06P41 list41 (by decide) (by decide)) impl41_30
    · exact law_of _ _ _ _ (specOf _ _ _ _ (by decide) l06P41 list41 (by decide) (by decide)) impl41_32
    · exact law_of _ _ _ _ (specOf _ _ _ _ (by decide) l06P41 list41 (by decide) (by decide)) impl41_34
    · exact law_of _ _ _ _ (specOf _ _ _ _ (by decide) l06P41 list41 (by decide) (by decide)) impl41_36
    · exact law_of _ _ _ _ (specOf _ _ _ _ (by decide) l06P41 list41 (by decide) (by decide)) impl41_38
  · exact noK _ _ _ (by decide) l06P41 isP41 hq

theorem at43 (q : Int) : laws_FnExactBernoulliModulo.f 9000 43 q = some true := by
  by_cases hq : (2 : Int) ≤ q ∧ q ≤ 43 - 3 ∧ q % 2 = 0
  · have h : q = 2 ∨ q = 4 ∨ q = 6 ∨ q = 8 ∨ q = 10 ∨ q = 12 ∨ q = 14 ∨ q = 16 ∨ q = 18 ∨ q = 20 ∨ q = 22 ∨ q = 24 ∨ q = 26 ∨ q = 28 ∨ q = 30 ∨ q = 32 ∨ q = 34 ∨ q = 36 ∨ q = 38 ∨ q = 40 := by omega
    rcases h with rfl | rfl | rfl | rfl | rfl | rfl | rfl | rfl | rfl | rfl | rfl | rfl | rfl | rfl | rfl | rfl | rfl | rfl | rfl | rfl
    · exact law_of _ _ _ _ (specOf _ _ _ _ (by decide) l06P43 list43 (by decide) (by decide)) impl43_2
    · exact law_of _ _ _ _ (specOf _ _ _ _ (by decide) l06P43 list43 (by decide) (by decide)) impl43_4
    · exact law_of _ _ _ _ (specOf _ _ _ _ (by decide) l06P43 list43 (by decide) (by decide)) impl43_6
    · exact law_of _ _ _ _ (specOf _ _ _ _ (by decide) l06P43 list43 (by decide) (by decide)) impl43_8
    · exact law_of _ _ _ _ (specOf _ _ _ _ (by decide) l06P43 list43 (by decide) (by decide)) impl43_10
    · exact law_of _ _ _ _ (specOf _ _ _ _ (by decide) l06P43 list43 (by decide) (by decide)) impl43_12
    · exact law_of _ _ _ _ (specOf _ _ _ _ (by decide) l06P43 list43 (by decide) (by decide)) impl43_14
    · exact law_of _ _ _ _ (specOf _ _ _ _ (by decide) l06P43 list43 (by decide) (by decide)) impl43_16
    · exact law_of _ _ _ _ (specOf _ _ _ _ (by decide) l06P43 list43 (by decide) (by decide)) impl43_18
    · exact law_of _ _ _ _ (specOf _ _ _ _ (by decide) l06P43 list43 (by decide) (by decide)) impl43_20
    · exact law_of _ _ _ _ (specOf _ _ _ _ (by decide) l06P43 list43 (by decide) (by decide)) impl43_22
    · exact law_of _ _ _ _ (specOf _ _ _ _ (by decide) l06P43 list43 (by decide) (by decide)) impl43_24
    · exact law_of _ _ _ _ (specOf _ _ _ _ (by decide) l06P43 list43 (by decide) (by decide)) impl43_26
    · exact law_of _ _ _ _ (specOf _ _ _ _ (by decide) l06P43 list43 (by decide) (by decide)) impl43_28
    · exact law_of _ _ _ _ (specOf _ _ _ _ (by decide) l06P43 list43 (by decide) (by decide)) impl43_30
    · exact law_of _ _ _ _ (specOf _ _ _ _ (by decide) l06P43 list43 (by decide) (by decide)) impl43_32
    · exact law_of _ _ _ _ (specOf _ _ _ _ (by decide) l06P43 list43 (by decide) (by decide)) impl43_34
    · exact law_of _ _ _ _ (specOf _ _ _ _ (by decide) l06P43 list43 (by decide) (by decide)) impl43_36
    · exact law_of _ _ _ _ (specOf _ _ _ _ (by decide) l06P43 list43 (by decide) (by decide)) impl43_38
    · exact law_of _ _ _ _ (specOf _ _ _ _ (by decide) l06P43 list43 (by decide) (by decide)) impl43_40
  · exact noK _ _ _ (by decide) l06P43 isP43 hq

theorem at47 (q : Int) : laws_FnExactBernoulliModulo.f 9000 47 q = some true := by
  by_cases hq : (2 : Int) ≤ q ∧ q ≤ 47 - 3 ∧ q % 2 = 0
  · have h : q = 2 ∨ q = 4 ∨ q = 6 ∨ q = 8 ∨ q = 10 ∨ q = 12 ∨ q = 14 ∨ q = 16 ∨ q = 18 ∨ q = 20 ∨ q = 22 ∨ q = 24 ∨ q = 26 ∨ q = 28 ∨ q = 30 ∨ q = 32 ∨ q = 34 ∨ q = 36 ∨ q = 38 ∨ q = 40 ∨ q = 42 ∨ q = 44 := by omega
    rcases h with rfl | rfl | rfl | rfl | rfl | rfl | rfl | rfl | rfl | rfl | rfl | rfl | rfl | rfl | rfl | rfl | rfl | rfl | rfl | rfl | rfl | rfl
    · exact law_of _ _ _ _ (specOf _ _ _ _ (by decide) l06P47 list47 (by decide) (by decide)) impl47_2
    · exact law_of _ _ _ _ (specOf _ _ _ _ (by decide) l06P47 list47 (by decide) (by decide)) impl47_4
    · exact law_of _ _ _ _ (specOf _ _ _ _ (by decide) l06P47 list47 (by decide) (by decide)) impl47_6
    · exact law_of _ _ _ _ (specOf _ _ _ _ (by decide) l06P47 list47 (by decide) (by decide)) impl47_8
    · exact law_of _ _ _ _ (specOf _ _ _ _ (by decide) l06P47 list47 (by decide) (by decide)) impl47_10
    · exact law_of _ _ _ _ (specOf _ _ _ _ (by decide) l06P47 list47 (by decide) (by decide)) impl47_12
    · exact law_of _ _ _ _ (specOf _ _ _ _ (by decide) l06P47 list47 (by decide) (by decide)) impl47_14
    · exact law_of _ _ _ _ (specOf _ _ _ _ (by decide) l06P47 list47 (by decide) (by decide)) impl47_16
    · exact law_of _ _ _ _ (specOf _ _ _ _ (by decide) l06P47 list47 (by decide) (by decide)) impl47_18
    · exact law_of _ _ _ _ (specOf _ _ _ _ (by decide) l06P47 list47 (by decide) (by decide)) impl47_20
    · exact law_of _ _ _ _ (specOf _ _ _ _ (by decide) l06P47 list47 (by decide) (by decide)) impl47_22
    · exact law_of _ _ _ _ (specOf _ _ _ _ (by decide) l06P47 list47 (by decide) (by decide)) impl47_24
    · exact law_of _ _ _ _ (specOf _ _ _ _ (by decide) l06P47 list47 (by decide) (by decide)) impl47_26
    · exact law_of _ _ _ _ (specOf _ _ _ _ (by decide) l06P47 list47 (by decide) (by decide)) impl47_28
    · exact law_of _ _ _ _ (specOf _ _ _ _ (by decide) l06P47 list47 (by decide) (by decide)) impl47_30
    · exact law_of _ _ _ _ (specOf _ _ _ _ (by decide) l06P47 list47 (by decide) (by decide)) impl47_32
    · exact law_of _ _ _ _ (specOf _ _ _ _ (by decide) l06P47 list47 (by decide) (by decide)) impl47_34
    · exact law_of _ _ _ _ (specOf _ _ _ _ (by decide) l06P47 list47 (by decide) (by decide)) impl47_36
    · exact law_of _ _ _ _ (specOf _ _ _ _ (by decide) l06P47 list47 (by decide) (by decide)) impl47_38
    · exact law_of _ _ _ _ (specOf _ _ _ _ (by decide) l06P47 list47 (by decide) (by decide)) impl47_40
    · exact law_of _ _ _ _ (specOf _ _ _ _ (by decide) l06P47 list47 (by decide) (by decide)) impl47_42
    · exact law_of _ _ _ _ (specOf _ _ _ _ (by decide) l06P47 list47 (by decide) (by decide)) impl47_44
  · exact noK _ _ _ (by decide) l06P47 isP47 hq

theorem at53 (q : Int) : laws_FnExactBernoulliModulo.f 9000 53 q = some true := by
  by_cases hq : (2 : Int) ≤ q ∧ q ≤ 53 - 3 ∧ q % 2 = 0
  · have h : q = 2 ∨ q = 4 ∨ q = 6 ∨ q = 8 ∨ q = 10 ∨ q = 12 ∨ q = 14 ∨ q = 16 ∨ q = 18 ∨ q = 20 ∨ q = 22 ∨ q = 24 ∨ q = 26 ∨ q = 28 ∨ q = 30 ∨ q = 32 ∨ q = 34 ∨ q = 36 ∨ q = 38 ∨ q = 40 ∨ q = 42 ∨ q = 44 ∨ q = 46 ∨ q = 48 ∨ q = 50 := by omega
    rcases h with rfl | rfl | rfl | rfl | rfl | rfl | rfl | rfl | rfl | rfl | rfl | rfl | rfl | rfl | rfl | rfl | rfl | rfl | rfl | rfl | rfl | rfl | rfl | rfl | rfl
    · exact law_of _ _ _ _ (specOf _ _ _ _ (by decide) l06P53 list53 (by decide) (by decide)) impl53_2
    · exact law_of _ _ _ _ (specOf _ _ _ _ (by decide) l06P53 list53 (by decide) (by decide)) impl53_4
    · exact law_of _ _ _ _ (specOf _ _ _ _ (by decide) l06P53 list53 (by decide) (by decide)) impl53_6
    · exact law_of _ _ _ _ (specOf _ _ _ _ (by decide) l06P53 list53 (by decide) (by decide)) impl53_8
    · exact law_of _ _ _ _ (specOf _ _ _ _ (by decide) l06P53 list53 (by decide) (by decide)) impl53_10
    · exact law_of _ _ _ _ (specOf _ _ _ _ (by decide) l06P53 list53 (by decide) (by decide)) impl53_12
    · exact law_of _ _ _ _ (specOf _ _ _ _ (by decide) l06P53 list53 (by decide) (by decide)) impl53_14
    · exact law_of _ _ _ _ (specOf _ _ _ _ (by decide) l06P53 list53 (by decide) (by decide)) impl53_16
    · exact law_of _ _ _ _ (specOf _ _ _ _ (by decide) l06P53 list53 (by decide) (by decide)) impl53_18
    · exact law_of _ _ _ _ (specOf _ _ _ _ (by decide) l06P53 list53 (by decide) (by decide)) impl53_20
    · exact law_of _ _ _ _ (specOf _ _ _ _ (by decide) l06P53 list53 (by decide) (by decide)) impl53_22
    · exact law_of _ _ _ _ (specOf _ _ _ _ (by decide) l06P53 list53 (by decide) (by decide)) impl53_24
    · exact law_of _ _ _ _ (specOf _ _ _ _ (by decide) l06P53 list53 (by decide) (by decide)) impl53_26
    · exact law_of _ _ _ _ (specOf _ _ _ _ (by decide) l06P53 list53 (by decide) (by decide)) impl53_28
    · exact law_of _ _ _ _ (specOf _ _ _ _ (by decide) l06P53 list53 (by decide) (by decide)) impl53_30
    · exact law_of _ _ _ _ (specOf _ _ _ _ (by decide) l06P53 list53 (by decide) (by decide)) impl53_32
    · exact law_of _ _ _ _ (specOf _ _ _ _ (by decide) l06P53 list53 (by decide) (by decide)) impl53_34
    · exact law_of _ _ _ _ (specOf _ _ _ _ (by decide) l06P53 list53 (by decide) (by decide)) impl53_36
    · exact law_of _ _ _ _ (specOf _ _ _ _ (by decide) l06P53 list53 (by decide) (by decide)) impl53_38
    · exact law_of _ _ _ _ (specOf _ _ _ _ (by decide) l06P53 list53 (by decide) (by decide)) impl53_40
    · exact law_of _ _ _ _ (specOf _ _ _ _ (by decide) l06P53 list53 (by decide) (by decide)) impl53_42
    · exact law_of _ _ _ _ (specOf _ _ _ _ (by decide) l06P53 list53 (by decide) (by decide)) impl53_44
    · exact law_of _ _ _ _ (specOf _ _ _ _ (by decide) l06P53 list53 (by decide) (by decide)) impl53_46
    · exact law_of _ _ _ _ (specOf _ _ _ _ (by decide) l06P53 list53 (by decide) (by decide)) impl53_48
    · exact law_of _ _ _ _ (specOf _ _ _ _ (by decide) l06P53 list53 (by decide) (by decide)) impl53_50
  · exact noK _ _ _ (by decide) l06P53 isP53 hq

theorem at59 (q : Int) : laws_FnExactBernoulliModulo.f 9000 59 q = some true := by
  by_cases hq : (2 : Int) ≤ q ∧ q ≤ 59 - 3 ∧ q % 2 = 0
  · have h : q = 2 ∨ q = 4 ∨ q = 6 ∨ q = 8 ∨ q = 10 ∨ q = 12 ∨ q = 14 ∨ q = 16 ∨ q = 18 ∨ q = 20 ∨ q = 22 ∨ q = 24 ∨ q = 26 ∨ q = 28 ∨ q = 30 ∨ q = 32 ∨ q = 34 ∨ q = 36 ∨ q = 38 ∨ q = 40 ∨ q = 42 ∨ q = 44 ∨ q = 46 ∨ q = 48 ∨ q = 50 ∨ q = 52 ∨ q = 54 ∨ q = 56 := by omega
    rcases h with rfl | rfl | rfl | rfl | rfl | rfl | rfl | rfl | rfl | rfl | rfl | rfl | rfl | rfl | rfl | rfl | rfl | rfl | rfl | rfl | rfl | rfl | rfl | rfl | rfl | rfl | rfl | rfl
    · exact law_of _ _ _ _ (specOf _ _ _ _ (by decide) l06P59 list59 (by decide) (by decide)) impl59_2
    · exact law_of _ _ _ _ (specOf _ _ _ _ (by decide) l06P59 list59 (by decide) (by decide)) impl59_4
    · exact law_of _ _ _ _ (specOf _ _ _ _ (by decide) l06P59 list59 (by decide) (by decide)) impl59_6
    · exact law_of _ _ _ _ (specOf _ _ _ _ (by decide) l06P59 list59 (by decide) (by decide)) impl59_8
    · exact law_of _ _ _ _ (specOf _ _ _ _ (by decide) l06P59 list59 (by decide) (by decide)) impl59_10
    · exact law_of _ _ _ _ (specOf _ _ _ _ (by decide) l06P59 list59 (by decide) (by decide)) impl59_12
    · exact law_of _ _ _ _ (specOf _ _ _ _ (by decide) l06P59 list59 (by decide) (by decide)) impl59_14
    · exact law_of _ _ _ _ (specOf _ _ _ _ (by decide) l06P59 list59 (by decide) (by decide)) impl59_16
    · exact law_of _ _ _ _ (specOf _ _ _ _ (by decide) l06P59 list59 (by decide) (by decide)) impl59_18
    · exact law_of _ _ _ _ (specOf _ _ _ _ (by decide) l06P59 list59 (by decide) (by decide)) impl59_20
    · exact law_of _ _ _ _ (specOf _ _ _ _ (by decide) l06P59 list59 (by decide) (by decide)) impl59_22
    · exact law_of _ _ _ _ (specOf _ _ _ _ (by decide) l06P59 list59 (by decide) (by decide)) impl59_24
    · exact law_of _ _ _ _ (specOf _ _ _ _ (by decide) l06P59 list59 (by decide) (by decide)) impl59_26
    · exact law_of _ _ _ _ (specOf _ _ _ _ (by decide) l06P59 list59 (by decide) (by decide)) impl59_28
    · exact law_of _ _ _ _ (specOf _ _ _ _ (by decide) l06P59 list59 (by decide) (by decide)) impl59_30
    · exact law_of _ _ _ _ (specOf _ _ _ _ (by decide) l06P59 list59 (by decide) (by decide)) impl59_32
    · exact law_of _ _ _ _ (specOf _ _ _ _ (by decide) l06P59 list59 (by decide) (by decide)) impl59_34
    · exact law_of _ _ _ _ (specOf _ _ _ _ (by decide) l06P59 list59 (by decide) (by decide)) impl59_36
    · exact law_of _ _ _ _ (specOf _ _ _ _ (by decide) l06P59 list59 (by decide) (by decide)) impl59_38
    · exact law_of _ _ _ _ (specOf _ _ _ _ (by decide) l06P59 list59 (by decide) (by decide)) impl59_40
    · exact law_of _ _ _ _ (specOf _ _ _ _ (by decide) l06P59 list59 (by decide) (by decide)) impl59_42
    · exact law_of _ _ _ _ (specOf _ _ _ _ (by decide) l06P59 list59 (by decide) (by decide)) impl59_44
    · exact law_of _ _ _ _ (specOf _ _ _ _ (by decide) l06P59 list59 (by decide) (by decide)) impl59_46
    · exact law_of _ _ _ _ (specOf _ _ _ _ (by decide) l06P59 list59 (by decide) (by decide)) impl59_48
    · exact law_of _ _ _ _ (specOf _ _ _ _ (by decide) l06P59 list59 (by decide) (by decide)) impl59_50
    · exact law_of _ _ _ _ (specOf _ _ _ _ (by decide) l06P59 list59 (by decide) (by decide)) impl59_52
    · exact law_of _ _ _ _ (specOf _ _ _ _ (by decide) l06P59 list59 (by decide) (by decide)) impl59_54
    · exact law_of _ _ _ _ (specOf _ _ _ _ (by decide) l06P59 list59 (by decide) (by decide)) impl59_56
  · exact noK _ _ _ (by decide) l06P59 isP59 hq

theorem at61 (q : Int) : laws_FnExactBernoulliModulo.f 9000 61 q = some true := by
  by_cases hq : (2 : Int) ≤ q ∧ q ≤ 61 - 3 ∧ q % 2 = 0
  · have h : q = 2 ∨ q = 4 ∨ q = 6 ∨ q = 8 ∨ q = 10 ∨ q = 12 ∨ q = 14 ∨ q = 16 ∨ q = 18 ∨ q = 20 ∨ q = 22 ∨ q = 24 ∨ q = 26 ∨ q = 28 ∨ q = 30 ∨ q = 32 ∨ q = 34 ∨ q = 36 ∨ q = 38 ∨ q = 40 ∨ q = 42 ∨ q = 44 ∨ q = 46 ∨ q = 48 ∨ q = 50 ∨ q = 52 ∨ q = 54 ∨ q = 56 ∨ q = 58 := by omega
    rcases h with rfl | rfl | rfl | rfl | rfl | rfl | rfl | rfl | rfl | rfl | rfl | rfl | rfl | rfl | rfl | rfl | rfl | rfl | rfl | rfl | rfl | rfl | rfl | rfl | rfl | rfl | rfl | rfl | rfl
    · exact law_of _ _ _ _ (specOf _ _ _ _ (by decide) l06P61 list61 (by decide) (by decide)) impl61_2
    · exact law_of _ _ _ _ (specOf _ _ _ _ (by decide) l06P61 list61 (by decide) (by decide)) impl61_4
    · exact law_of _ _ _ _ (specOf _ _ _ _ (by decide) l06P61 list61 (by decide) (by decide)) impl61_6
    · exact law_of _ _ _ _ (specOf _ _ _ _ (by decide) l06P61 list61 (by decide) (by decide)) impl61_8
    · exact law_of _ _ _ _ (specOf _ _ _ _ (by decide) l06P61 list61 (by decide) (by decide)) impl61_10
    · exact law_of _ _ _ _ (specOf _ _ _ _ (by decide) l06P61 list61 (by decide) (by decide)) impl61_12
    · exact law_of _ _ _ _ (specOf _ _ _ _ (by decide) l06P61 list61 (by decide) (by decide)) impl61_14
    · exact law_of _ _ _ _ (specOf _ _ _ _ (by decide) l06P61 list61 (by decide) (by decide)) impl61_16
    · exact law_of _ _ _ _ (specOf _ _ _ _ (by decide) l06P61 list61 (by decide) (by decide)) impl61_18
    · exact law_of _ _ _ _ (specOf _ _ _ _ (by decide) l06P61 list61 (by decide) (by decide)) impl61_20
    · exact law_of _ _ _ _ (specOf _ _ _ _ (by decide) l06P61 list61 (by decide) (by decide)) impl61_22
    · exact law_of _ _ _ _ (specOf _ _ _ _ (by decide) l06P61 list61 (by decide) (by decide)) impl61_24
    · exact law_of _ _ _ _ (specOf _ _ _ _ (by decide) l06P61 list61 (by decide) (by decide)) impl61_26
    · exact law_of _ _ _ _ (specOf _ _ _ _ (by decide) l06P61 list61 (by decide) (by decide)) impl61_28
    · exact law_of _ _ _ _ (specOf _ _ _ _ (by decide) l06P61 list61 (by decide) (by decide)) impl61_30
    · exact law_of _ _ _ _ (specOf _ _ _ _ (by decide) l06P61 list61 (by decide) (by decide)) impl61_32
    · exact law_of _ _ _ _ (specOf _ _ _ _ (by decide) l06P61 list61 (by decide) (by decide)) impl61_34
    · exact law_of _ _ _ _ (specOf _ _ _ _ (by decide) l06P61 list61 (by decide) (by decide)) impl61_36
    · exact law_of _ _ _ _ (specOf _ _ _ _ (by decide) l06P61 list61 (by decide) (by decide)) impl61_38
    · exact law_of _ _ _ _ (specOf _ _ _ _ (by decide) l06P61 list61 (by decide) (by decide)) impl61_40
    · exact law_of _ _ _ _ (specOf _ _ _ _ (by decide) l06P61 list61 (by decide) (by decide)) impl61_42
    · exact law_of _ _ _ _ (specOf _ _ _ _ (by decide) l06P61 list61 (by decide) (by decide)) impl61_44
    · exact law_of _ _ _ _ (specOf _ _ _ _ (by decide) l06P61 list61 (by decide) (by decide)) impl61_46
    · exact law_of _ _ _ _ (specOf _ _ _ _ (by decide) l06P61 list61 (by decide) (by decide)) impl61_48
    · exact law_of _ _ _ _ (specOf _ _ _ _ (by decide) l06P61 list61 (by decide) (by decide)) impl61_50
    · exact law_of _ _ _ _ (specOf _ _ _ _ (by decide) l06P61 list61 (by decide) (by decide)) impl61_52
    · exact law_of _ _ _ _ (specOf _ _ _ _ (by decide) l06P61 list61 (by decide) (by decide)) impl61_54
    · exact law_of _ _ _ _ (specOf _ _ _ _ (by decide) l06P61 list61 (by decide) (by decide)) impl61_56
    · exact law_of _ _ _ _ (specOf _ _ _ _ (by decide) l06P61 list61 (by decide) (by decide)) impl61_58
  · exact noK _ _ _ (by decide) l06P61 isP61 hq

theorem outside (p q : Int) (hp : p < 3 ∨ 61 < p) (h : ∃ k, impl_isPrime.f k p = some false) : ∃ k, laws_FnExactBernoulliModulo.f k p q = some true := by
  obtain ⟨k0, h0⟩ := h
  refine ⟨k0, noPrime k0 p q ?_ h0⟩
  unfold spec_l06Prime.f spec_l01In.f
  by_cases c : p ≥ 3
  · rw [if_pos c, decide_eq_false (by omega)]; rfl
  · rw [if_neg c]; rfl

theorem FnExactBernoulliModulo : laws_FnExactBernoulliModulo.Pure := by
  intro p q hwf _
  have hb : -9223372036854775808 ≤ p ∧ p ≤ 9223372036854775807 := by
    simpa [Lit.wf, IntKind.min, IntKind.max, IntKind.bits, IntKind.signed] using hwf
  by_cases h1 : p < 3
  · exact outside p q (.inl h1) (isPrime_small p h1)
  by_cases h2 : 61 < p
  · exact outside p q (.inr h2) (isPrime_great p h2 hb.2)
  have h3 : p = 3 ∨ p = 4 ∨ p = 5 ∨ p = 6 ∨ p = 7 ∨ p = 8 ∨ p = 9 ∨ p = 10 ∨ p = 11 ∨ p = 12 ∨ p = 13 ∨ p = 14 ∨ p = 15 ∨ p = 16 ∨ p = 17 ∨ p = 18 ∨ p = 19 ∨ p = 20 ∨ p = 21 ∨ p = 22 ∨ p = 23 ∨ p = 24 ∨ p = 25 ∨ p = 26 ∨ p = 27 ∨ p = 28 ∨ p = 29 ∨ p = 30 ∨ p = 31 ∨ p = 32 ∨ p = 33 ∨ p = 34 ∨ p = 35 ∨ p = 36 ∨ p = 37 ∨ p = 38 ∨ p = 39 ∨ p = 40 ∨ p = 41 ∨ p = 42 ∨ p = 43 ∨ p = 44 ∨ p = 45 ∨ p = 46 ∨ p = 47 ∨ p = 48 ∨ p = 49 ∨ p = 50 ∨ p = 51 ∨ p = 52 ∨ p = 53 ∨ p = 54 ∨ p = 55 ∨ p = 56 ∨ p = 57 ∨ p = 58 ∨ p = 59 ∨ p = 60 ∨ p = 61 := by omega
  rcases h3 with rfl | rfl | rfl | rfl | rfl | rfl | rfl | rfl | rfl | rfl | rfl | rfl | rfl | rfl | rfl | rfl | rfl | rfl | rfl | rfl | rfl | rfl | rfl | rfl | rfl | rfl | rfl | rfl | rfl | rfl | rfl | rfl | rfl | rfl | rfl | rfl | rfl | rfl | rfl | rfl | rfl | rfl | rfl | rfl | rfl | rfl | rfl | rfl | rfl | rfl | rfl | rfl | rfl | rfl | rfl | rfl | rfl | rfl | rfl
  · exact ⟨_, at3 q⟩
  · exact ⟨_, noPrime 9000 4 q l06P4 isP4⟩
  · exact ⟨_, at5 q⟩
  · exact ⟨_, noPrime 9000 6 q l06P6 isP6⟩
  · exact ⟨_, at7 q⟩
  · exact ⟨_, noPrime 9000 8 q l06P8 isP8⟩
  · exact ⟨_, noPrime 9000 9 q l06P9 isP9⟩
  · exact ⟨_, noPrime 9000 10 q l06P10 isP10⟩
  · exact ⟨_, at11 q⟩
  · exact ⟨_, noPrime 9000 12 q l06P12 isP12⟩
  · exact ⟨_, at13 q⟩
  · exact ⟨_, noPrime 9000 14 q l06P14 isP14⟩
  · exact ⟨_, noPrime 9000 15 q l06P15 isP15⟩
  · exact ⟨_, noPrime 9000 16 q l06P16 isP16⟩
  · exact ⟨_, at17 q⟩
  · exact ⟨_, noPrime 9000 18 q l06P18 isP18⟩
  · exact ⟨_, at19 q⟩
  · exact ⟨_, noPrime 9000 20 q l06P20 isP20⟩
  · exact ⟨_, noPrime 9000 21 q l06P21 isP21⟩
  · exact ⟨_, noPrime 9000 22 q l06P22 isP22⟩
  · exact ⟨_, at23 q⟩
  · exact ⟨_, noPrime 9000 24 q l06P24 isP24⟩
  · exact ⟨_, noPrime 9000 25 q l06P25 isP25⟩
  · exact ⟨_, noPrime 9000 26 q l06P26 isP26⟩
  · exact ⟨_, noPrime 9000 27 q l06P27 isP27⟩
  · exact ⟨_, noPrime 9000 28 q l06P28 isP28⟩
  · exact ⟨_, at29 q⟩
  · exact ⟨_, noPrime 9000 30 q l06P30 isP30⟩
  · exact ⟨_, at31 q⟩
  · exact ⟨_, noPrime 9000 32 q l06P32 isP32⟩
  · exact ⟨_, noPrime 9000 33 q l06P33 isP33⟩
  · exact ⟨_, noPrime 9000 34 q l06P34 isP34⟩
  · exact ⟨_, noPrime 9000 35 q l06P35 isP35⟩
  · exact ⟨_, noPrime 9000 36 q l06P36 isP36⟩
  · exact ⟨_, at37 q⟩
  · exact ⟨_, noPrime 9000 38 q l06P38 isP38⟩
  · exact ⟨_, noPrime 9000 39 q l06P39 isP39⟩
  · exact ⟨_, noPrime 9000 40 q l06P40 isP40⟩
  · exact ⟨_, at41 q⟩
  · exact ⟨_, noPrime 9000 42 q l06P42 isP42⟩
  · exact ⟨_, at43 q⟩
  · exact ⟨_, noPrime 9000 44 q l06P44 isP44⟩
  · exact ⟨_, noPrime 9000 45 q l06P45 isP45⟩
  · exact ⟨_, noPrime 9000 46 q l06P46 isP46⟩
  · exact ⟨_, at47 q⟩
  · exact ⟨_, noPrime 9000 48 q l06P48 isP48⟩
  · exact ⟨_, noPrime 9000 49 q l06P49 isP49⟩
  · exact ⟨_, noPrime 9000 50 q l06P50 isP50⟩
  · exact ⟨_, noPrime 9000 51 q l06P51 isP51⟩
  · exact ⟨_, noPrime 9000 52 q l06P52 isP52⟩
  · exact ⟨_, at53 q⟩
  · exact ⟨_, noPrime 9000 54 q l06P54 isP54⟩
  · exact ⟨_, noPrime 9000 55 q l06P55 isP55⟩
  · exact ⟨_, noPrime 9000 56 q l06P56 isP56⟩
  · exact ⟨_, noPrime 9000 57 q l06P57 isP57⟩
  · exact ⟨_, noPrime 9000 58 q l06P58 isP58⟩
  · exact ⟨_, at59 q⟩
  · exact ⟨_, noPrime 9000 60 q l06P60 isP60⟩
  · exact ⟨_, at61 q⟩
end Go.Proofs.Ytceifmklobagbaa.Pure
