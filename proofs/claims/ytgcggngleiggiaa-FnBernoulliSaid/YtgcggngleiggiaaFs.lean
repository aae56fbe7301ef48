/- Rounding of sums of products of whole numbers in double precision: how near the float stays to the whole number. -/
import Ieee.Arith
namespace FloatSum
open Ieee

/-- One, in units of the least double: 2^1074. Kept behind names, so that nothing reckons it. -/
def cE : Nat := 1074
def CC : Nat := 2 ^ cE
theorem CC_def : CC = 2 ^ cE := by unfold CC; exact Eq.refl _
theorem CC_pos : 0 < CC := by rw [CC_def]; exact Nat.two_pow_pos cE

def sg (s : Bool) (m : Nat) : Int := if s then -(m : Int) else (m : Int)
theorem sg_natAbs (s : Bool) (m : Nat) : (sg s m).natAbs = m := by unfold sg; split <;> omega

/-- The word b is finite and stands for v units. -/
def Fin (b : Nat) (v : Int) : Prop :=
  ∃ s m e, double.read b = .number s m e ∧ -1074 ≤ e ∧ v = sg s (m * 2 ^ (e + 1074).toNat)

theorem lp : double.leastPlace = -1074 := by decide +kernel
theorem bin : double.binade = 4503599627370496 := by decide +kernel
theorem swt : double.signWeight = 9223372036854775808 := by decide +kernel
theorem inf : double.infRung = 9218868437227405312 := by decide +kernel

theorem read_word (s : Bool) (r : Nat) (h : r < 9223372036854775808) :
    double.read (double.word s r) =
      if r < 4503599627370496 then .number s r (-1074)
      else if r < 9218868437227405312 then .number s (4503599627370496 + r % 4503599627370496) (-1074 + (r / 4503599627370496 - 1 : Nat))
      else if r = 9218868437227405312 then .infinity s
      else .nan s (r - 9218868437227405312) := by
  unfold Format.read Format.word
  rw [lp, bin, swt, inf]
  cases s
  · have h1 : r / 9223372036854775808 = 0 := Nat.div_eq_of_lt h
    have h2 : r % 9223372036854775808 = r := Nat.mod_eq_of_lt h
    simp only [Bool.false_eq_true, if_false, h1, h2]
    rfl
  · have h1 : (9223372036854775808 + r) / 9223372036854775808 = 1 := by omega
    have h2 : (9223372036854775808 + r) % 9223372036854775808 = r := by omega
    simp only [if_true, h1, h2]
    rfl

/-- A rung that is put together of a place and a significand reads as just these. -/
theorem read_rung (s : Bool) (q kept : Nat) (hk : kept ≤ 9007199254740992) (hq : q ≤ 2000) (h0 : q = 0 ∨ 4503599627370496 ≤ kept) :
    Fin (double.word s (q * 4503599627370496 + kept)) (sg s (kept * 2 ^ q)) := by
  unfold Fin
  have hlt : q * 4503599627370496 + kept < 9218868437227405312 := by omega
  rw [read_word s _ (by omega)]
  by_cases h1 : q * 4503599627370496 + kept < 4503599627370496
  · have : q = 0 := by omega
    subst this
    rw [if_pos h1]
    exact ⟨s, _, _, rfl, by omega, by simp⟩
  · rw [if_neg h1, if_pos hlt]
    refine ⟨s, _, _, rfl, by omega, ?_⟩
    by_cases h2 : kept = 9007199254740992
    · subst h2
      have e1 : (q * 4503599627370496 + 9007199254740992) % 4503599627370496 = 0 := by omega
      have e2 : (q * 4503599627370496 + 9007199254740992) / 4503599627370496 - 1 = q + 1 := by omega
      rw [e1, e2]
      have e3 : (-1074 + ((q + 1 : Nat) : Int) + 1074).toNat = q + 1 := by omega
      have e4 : (4503599627370496 + 0) * 2 ^ (q + 1) = 9007199254740992 * 2 ^ q := by rw [Nat.pow_succ]; omega
      rw [e3, e4]
    · have hge : 4503599627370496 ≤ kept := by omega
      have e1 : (q * 4503599627370496 + kept) % 4503599627370496 = kept - 4503599627370496 := by omega
      have e2 : (q * 4503599627370496 + kept) / 4503599627370496 - 1 = q := by omega
      rw [e1, e2]
      have e3 : (-1074 + (q : Int) + 1074).toNat = q := by omega
      have e4 : 4503599627370496 + (kept - 4503599627370496) = kept := by omega
      rw [e3, e4]

/-- Rounding to a whole number of units of 2^d: half a unit off at the most. -/
theorem cut_near (neg : Bool) (n d : Nat) (hd : d ≤ n.log2 + 2) :
    2 * (Toward.even.cut neg n d * 2 ^ d) ≤ 2 * n + 2 ^ d ∧ 2 * n ≤ 2 * (Toward.even.cut neg n d * 2 ^ d) + 2 ^ d ∧ n / 2 ^ d ≤ Toward.even.cut neg n d ∧ Toward.even.cut neg n d ≤ n / 2 ^ d + 1 := by
  unfold Toward.cut
  dsimp only
  rw [Nat.min_eq_left hd, Nat.one_shiftLeft]
  have hp : 0 < 2 ^ d := Nat.two_pow_pos _
  generalize 2 ^ d = g at *
  have hdm := Nat.div_add_mod n g
  have hm := Nat.mod_lt n hp
  generalize n / g = low at *
  generalize n % g = rest at *
  have hc : g * low = low * g := Nat.mul_comm _ _
  by_cases h1 : g < 2 * rest
  · have : (decide (g < 2 * rest) || (g == 2 * rest && low % 2 == 1)) = true := by simp [h1]
    rw [this]
    have : (low + Bool.toNat true) * g = low * g + g := by rw [show Bool.toNat true = 1 from rfl, Nat.add_mul, Nat.one_mul]
    rw [this]
    refine ⟨by omega, by omega, by simp, by simp⟩
  · by_cases h2 : g = 2 * rest
    · generalize hb : (decide (g < 2 * rest) || (g == 2 * rest && low % 2 == 1)) = b
      cases b
      · have : (low + Bool.toNat false) * g = low * g := by rw [show Bool.toNat false = 0 from rfl, Nat.add_zero]
        rw [this]
        refine ⟨by omega, by omega, by simp, by simp⟩
      · have : (low + Bool.toNat true) * g = low * g + g := by rw [show Bool.toNat true = 1 from rfl, Nat.add_mul, Nat.one_mul]
        rw [this]
        refine ⟨by omega, by omega, by simp, by simp⟩
    · have : (decide (g < 2 * rest) || (g == 2 * rest && low % 2 == 1)) = false := by simp [h1, h2]
      rw [this]
      have : (low + Bool.toNat false) * g = low * g := by rw [show Bool.toNat false = 0 from rfl, Nat.add_zero]
      rw [this]
      refine ⟨by omega, by omega, by simp, by simp⟩

theorem min_rung (q x : Nat) (hq : q ≤ 2000) (hx : x ≤ 9007199254740992) : min (q * 4503599627370496 + x) 9218868437227405312 = q * 4503599627370496 + x := Nat.min_eq_left (by omega)

theorem near_up (k m g : Nat) (h : 2 * k ≤ 2 * m + g) (hg : 4503599627370496 * g ≤ m) : k * 9007199254740992 ≤ m * 9007199254740992 + m := by omega
theorem near_down (k m g : Nat) (h : 2 * m ≤ 2 * k + g) (hg : 4503599627370496 * g ≤ m) : m * 9007199254740992 ≤ k * 9007199254740992 + m := by omega

theorem log2_bounds (n : Nat) (h : n ≠ 0) : 2 ^ n.log2 ≤ n ∧ n < 2 ^ (n.log2 + 1) := ⟨Nat.log2_self_le h, Nat.lt_log2_self⟩

/-- What is written of a number is finite and near: one part in 2^53 off at the most; and exact where 53 digits hold it. -/
theorem write_near (s : Bool) (m : Nat) (e : Int) (he : -1074 ≤ e) (T : Nat) (hT : T = 1500) (hb : m * 2 ^ (e + 1074).toNat < 2 ^ T) :
    ∃ k : Nat, Fin (double.write (.number s m e)) (sg s k) ∧ k * 2 ^ 53 ≤ m * 2 ^ (e + 1074).toNat * 2 ^ 53 + m * 2 ^ (e + 1074).toNat ∧ m * 2 ^ (e + 1074).toNat * 2 ^ 53 ≤ k * 2 ^ 53 + m * 2 ^ (e + 1074).toNat ∧ (m < 2 ^ 53 → k = m * 2 ^ (e + 1074).toNat) := by
  show ∃ k : Nat, Fin (double.nearest s m e) (sg s k) ∧ _
  by_cases hm : m = 0
  · subst hm
    refine ⟨0, ?_, by simp, by simp, by simp⟩
    unfold Format.nearest
    rw [if_pos rfl]
    have := read_rung s 0 0 (by omega) (by omega) (.inl rfl)
    simpa using this
  · obtain ⟨l1, l2⟩ := log2_bounds m hm
    have hL : m.log2 + (e + 1074).toNat < T := by
      have h1 : 2 ^ (m.log2 + (e + 1074).toNat) < 2 ^ T := by
        rw [Nat.pow_add]
        exact Nat.lt_of_le_of_lt (Nat.mul_le_mul_right _ l1) hb
      exact (Nat.pow_lt_pow_iff_right (by omega)).1 h1
    clear hb
    unfold Format.nearest
    rw [if_neg hm, lp, bin, inf]
    have hf : ((double.fractionBits : Nat) : Int) = 52 := rfl
    rw [hf]
    dsimp only
    by_cases hc : m.log2 ≤ 52
    · -- exact
      obtain ⟨sh, hsh⟩ : ∃ sh : Nat, max (e + (m.log2 : Int) - 52) (-1074) = e - sh := ⟨(e - max (e + (m.log2 : Int) - 52) (-1074)).toNat, by omega⟩
      rw [hsh]
      have e1 : (e - (e - (sh : Int))).toNat = sh := by omega
      have e2 : ((e - (sh : Int)) - e).toNat = 0 := by omega
      have e3 : (e - (sh : Int) - -1074).toNat = (e + 1074).toNat - sh := by omega
      have hle : sh ≤ (e + 1074).toNat := by omega
      have hkl : m.log2 + sh ≤ 52 := by omega
      rw [e1, e2, e3]
      have hcut : Toward.even.cut s (m <<< sh) 0 = m <<< sh := by
        have := cut_near s (m <<< sh) 0 (by omega)
        simp only [Nat.pow_zero, Nat.mul_one, Nat.div_one] at this
        omega
      rw [hcut, Nat.shiftLeft_eq]
      have hlt : m * 2 ^ sh < 9007199254740992 := by
        have h1 : m * 2 ^ sh < 2 ^ (m.log2 + 1) * 2 ^ sh := Nat.mul_lt_mul_of_pos_right l2 (Nat.two_pow_pos _)
        rw [← Nat.pow_add] at h1
        have h2 : 2 ^ (m.log2 + 1 + sh) ≤ 2 ^ 53 := Nat.pow_le_pow_right (by omega) (by omega)
        have h3 : (2 : Nat) ^ 53 = 9007199254740992 := by decide +kernel
        omega
      have hq : (e + 1074).toNat - sh ≤ 2000 := by omega
      have h0 : (e + 1074).toNat - sh = 0 ∨ 4503599627370496 ≤ m * 2 ^ sh := by
        by_cases hz : (e + 1074).toNat - sh = 0
        · exact .inl hz
        · right
          have hs2 : m.log2 + sh = 52 := by omega
          have h1 : 2 ^ m.log2 * 2 ^ sh ≤ m * 2 ^ sh := Nat.mul_le_mul_right _ l1
          rw [← Nat.pow_add, hs2] at h1
          have h3 : (2 : Nat) ^ 52 = 4503599627370496 := by decide +kernel
          omega
      have hmin : min (((e + 1074).toNat - sh) * 4503599627370496 + m * 2 ^ sh) 9218868437227405312 = ((e + 1074).toNat - sh) * 4503599627370496 + m * 2 ^ sh := min_rung _ _ hq (Nat.le_of_lt hlt)
      rw [hmin]
      have hr := read_rung s ((e + 1074).toNat - sh) (m * 2 ^ sh) (Nat.le_of_lt hlt) hq h0
      have hv : m * 2 ^ sh * 2 ^ ((e + 1074).toNat - sh) = m * 2 ^ (e + 1074).toNat := by
        rw [Nat.mul_assoc, ← Nat.pow_add, Nat.add_sub_cancel' hle]
      rw [hv] at hr
      exact ⟨_, hr, Nat.le_add_right _ _, Nat.le_add_right _ _, fun _ => rfl⟩
    · -- rounded
      have hlast : max (e + (m.log2 : Int) - 52) (-1074) = e + ((m.log2 - 52 : Nat) : Int) := by omega
      rw [hlast]
      obtain ⟨d, hd⟩ : ∃ d, d = m.log2 - 52 := ⟨_, rfl⟩
      rw [← hd]
      have e1 : (e - (e + (d : Int))).toNat = 0 := by omega
      have e2 : ((e + (d : Int)) - e).toNat = d := by omega
      have e3 : (e + (d : Int) - -1074).toNat = (e + 1074).toNat + d := by omega
      rw [e1, e2, e3, Nat.shiftLeft_zero]
      obtain ⟨c1, c2, c3, c4⟩ := cut_near s m d (by omega)
      generalize Toward.even.cut s m d = kept at *
      have hp : 0 < 2 ^ d := Nat.two_pow_pos _
      have hlo : 4503599627370496 ≤ m / 2 ^ d := by
        rw [Nat.le_div_iff_mul_le hp]
        have h3 : (2 : Nat) ^ 52 = 4503599627370496 := by decide +kernel
        rw [← h3, ← Nat.pow_add]
        have : 52 + d = m.log2 := by omega
        rw [this]
        exact l1
      have hhi : m / 2 ^ d < 9007199254740992 := by
        rw [Nat.div_lt_iff_lt_mul hp]
        have h3 : (2 : Nat) ^ 53 = 9007199254740992 := by decide +kernel
        rw [← h3, ← Nat.pow_add]
        have : 53 + d = m.log2 + 1 := by omega
        rw [this]
        exact l2
      have hk1 : 4503599627370496 ≤ kept := Nat.le_trans hlo c3
      have hk2 : kept ≤ 9007199254740992 := Nat.le_trans c4 hhi
      have hq : (e + 1074).toNat + d ≤ 2000 := by clear c1 c2 c3 c4 hlo hhi hk1 hk2 l1 l2; omega
      rw [min_rung _ _ hq hk2]
      have hr := read_rung s ((e + 1074).toNat + d) kept hk2 hq (.inr hk1)
      have hmd : 4503599627370496 * 2 ^ d ≤ m := Nat.le_trans (Nat.mul_le_mul_right _ hlo) (Nat.div_mul_le_self m (2 ^ d))
      have hv : kept * 2 ^ ((e + 1074).toNat + d) = kept * 2 ^ d * 2 ^ (e + 1074).toNat := by
        rw [Nat.add_comm, Nat.pow_add, Nat.mul_assoc]
      rw [hv] at hr
      have h53 : (2 : Nat) ^ 53 = 9007199254740992 := by decide +kernel
      refine ⟨_, hr, ?_, ?_, fun hlt => absurd hlt ?_⟩
      · rw [h53]
        generalize 2 ^ (e + 1074).toNat = u at *
        have k1 : kept * 2 ^ d * 9007199254740992 ≤ m * 9007199254740992 + m := near_up _ _ _ c1 hmd
        calc kept * 2 ^ d * u * 9007199254740992 = kept * 2 ^ d * 9007199254740992 * u := by rw [Nat.mul_right_comm]
          _ ≤ (m * 9007199254740992 + m) * u := Nat.mul_le_mul_right _ k1
          _ = m * u * 9007199254740992 + m * u := by rw [Nat.add_mul, Nat.mul_right_comm]
      · rw [h53]
        generalize 2 ^ (e + 1074).toNat = u at *
        have k1 : m * 9007199254740992 ≤ kept * 2 ^ d * 9007199254740992 + m := near_down _ _ _ c2 hmd
        calc m * u * 9007199254740992 = m * 9007199254740992 * u := by rw [Nat.mul_right_comm]
          _ ≤ (kept * 2 ^ d * 9007199254740992 + m) * u := Nat.mul_le_mul_right _ k1
          _ = kept * 2 ^ d * u * 9007199254740992 + m * u := by rw [Nat.add_mul, Nat.mul_right_comm]
      · have : 2 ^ 53 ≤ 2 ^ m.log2 := Nat.pow_le_pow_right (by decide) (by clear c1 c2 c3 c4 hlo hhi hk1 hk2 l1 l2 hmd; omega)
        exact Nat.not_lt.2 (Nat.le_trans this l1)
end FloatSum
namespace FloatSum
open Ieee

theorem sg_scale (s : Bool) (a u : Nat) : sg s (a * u) = sg s a * (u : Int) := by
  unfold sg
  cases s <;> simp [Int.natCast_mul, Int.neg_mul]
theorem signed_eq (s : Bool) (m u : Nat) : signed s m u = sg s (m * 2 ^ u) := by
  unfold signed sg
  rw [Nat.shiftLeft_eq]
theorem sg_mul (s t : Bool) (a b : Nat) : sg (s ^^ t) (a * b) = sg s a * sg t b := by
  unfold sg
  cases s <;> cases t <;> simp [Int.natCast_mul, Int.neg_mul, Int.mul_neg]
theorem sg_abs (s : Bool) (m : Nat) (M : Int) (h1 : sg s m ≤ M) (h2 : -(sg s m) ≤ M) : (m : Int) ≤ M := by
  unfold sg at h1 h2
  cases s <;> simp at h1 h2 <;> omega

/-- What is written of a number: near it, by any bound M of its size. -/
theorem write_int (s : Bool) (m : Nat) (e : Int) (he : -1074 ≤ e) (T : Nat) (hT : T = 1500) (hb : m * 2 ^ (e + 1074).toNat < 2 ^ T) :
    ∃ v : Int, Fin (double.write (.number s m e)) v ∧ ∀ M : Int, sg s (m * 2 ^ (e + 1074).toNat) ≤ M → -(sg s (m * 2 ^ (e + 1074).toNat)) ≤ M →
      (v - sg s (m * 2 ^ (e + 1074).toNat)) * 9007199254740992 ≤ M ∧ (sg s (m * 2 ^ (e + 1074).toNat) - v) * 9007199254740992 ≤ M := by
  obtain ⟨k, hf, h1, h2, _⟩ := write_near s m e he T hT hb
  refine ⟨sg s k, hf, fun M hM1 hM2 => ?_⟩
  generalize m * 2 ^ (e + 1074).toNat = V at *
  have h53 : (2 : Nat) ^ 53 = 9007199254740992 := by decide +kernel
  rw [h53] at h1 h2
  have hV := sg_abs s V M hM1 hM2
  clear hf hM1 hM2 hb
  unfold sg
  cases s <;> simp only [Bool.false_eq_true, if_false, if_true] <;> omega

/-- A whole number that 53 digits hold, as a double: exact. -/
theorem of_int (n : Int) (h : n.natAbs < 2 ^ 53) :
    ∃ s m e, double.read (double.write (.number (n < 0) n.natAbs 0)) = .number s m e ∧ -1074 ≤ e ∧ sg s (m * 2 ^ (e + 1074).toNat) = n * (CC : Int) := by
  have e0 : ((0 : Int) + 1074).toNat = cE := rfl
  obtain ⟨T, hT⟩ : ∃ T : Nat, T = 1500 := ⟨_, rfl⟩
  have hb : n.natAbs * 2 ^ ((0 : Int) + 1074).toNat < 2 ^ T := by
    have h1 : n.natAbs * 2 ^ ((0 : Int) + 1074).toNat < 2 ^ 53 * 2 ^ ((0 : Int) + 1074).toNat := Nat.mul_lt_mul_of_pos_right h (Nat.two_pow_pos _)
    rw [← Nat.pow_add] at h1
    refine Nat.lt_of_lt_of_le h1 (Nat.pow_le_pow_right (by decide) ?_)
    rw [hT, e0]
    decide
  obtain ⟨k, ⟨s, m, e, hr, he, hv⟩, _, _, hx⟩ := write_near (decide (n < 0)) n.natAbs 0 (by decide) T hT hb
  refine ⟨s, m, e, hr, he, ?_⟩
  rw [← hv, hx h]
  rw [e0, sg_scale, CC_def]
  congr 1
  unfold sg
  by_cases c : n < 0
  · rw [decide_eq_true c, if_pos rfl]; omega
  · rw [decide_eq_false c]; simp; omega

/-- The sum of two, before it is written. -/
theorem sum_datum (x y : Nat) (vx vy : Int) (hx : Fin x vx) (hy : Fin y vy) :
    ∃ s m e, (double.read x).sum (double.read y) = some (.number s m e) ∧ -1074 ≤ e ∧ sg s (m * 2 ^ (e + 1074).toNat) = vx + vy := by
  obtain ⟨s, m, i, hrx, hi, rfl⟩ := hx
  obtain ⟨t, n, j, hry, hj, rfl⟩ := hy
  rw [hrx, hry]
  refine ⟨_, _, _, rfl, by omega, ?_⟩
  generalize hb : min i j = base
  have hb1 : (i - base).toNat + (base + 1074).toNat = (i + 1074).toNat := by omega
  have hb2 : (j - base).toNat + (base + 1074).toNat = (j + 1074).toNat := by omega
  rw [signed_eq, signed_eq]
  have e1 : sg s (m * 2 ^ (i + 1074).toNat) = sg s (m * 2 ^ (i - base).toNat) * ((2 ^ (base + 1074).toNat : Nat) : Int) := by
    rw [← sg_scale, Nat.mul_assoc, ← Nat.pow_add, hb1]
  have e2 : sg t (n * 2 ^ (j + 1074).toNat) = sg t (n * 2 ^ (j - base).toNat) * ((2 ^ (base + 1074).toNat : Nat) : Int) := by
    rw [← sg_scale, Nat.mul_assoc, ← Nat.pow_add, hb2]
  rw [e1, e2, ← Int.add_mul, sg_scale]
  congr 1
  generalize sg s (m * 2 ^ (i - base).toNat) + sg t (n * 2 ^ (j - base).toNat) = total
  unfold sg
  by_cases c : total = 0
  · subst c; simp
  · rw [if_neg c]
    by_cases c2 : total < 0
    · rw [decide_eq_true c2, if_pos rfl]; omega
    · rw [decide_eq_false c2]; simp; omega

theorem natAbs_lt_pow (m : Nat) (s : Bool) (V : Int) (h : sg s m = V) (B : Nat) (h1 : V < (B : Int)) (h2 : -V < (B : Int)) : m < B := by
  subst h
  unfold sg at h1 h2
  cases s <;> simp at h1 h2 <;> omega

/-- A float sum is near the sum. -/
theorem add_near (x y : Nat) (vx vy : Int) (hx : Fin x vx) (hy : Fin y vy) (T : Nat) (hT : T = 1500) (h1 : vx + vy < ((2 ^ T : Nat) : Int)) (h2 : -(vx + vy) < ((2 ^ T : Nat) : Int)) :
    ∃ r v, double.add x y = some r ∧ Fin r v ∧ ∀ M : Int, vx + vy ≤ M → -(vx + vy) ≤ M → (v - (vx + vy)) * 9007199254740992 ≤ M ∧ (vx + vy - v) * 9007199254740992 ≤ M := by
  obtain ⟨s, m, e, hs, he, hv⟩ := sum_datum x y vx vy hx hy
  obtain ⟨v, hf, hn⟩ := write_int s m e he T hT (natAbs_lt_pow _ s _ hv _ h1 h2)
  rw [hv] at hn
  refine ⟨_, v, ?_, hf, hn⟩
  unfold Format.add
  rw [hs]
  rfl
theorem opposite_read (y : Nat) (vy : Int) (hy : Fin y vy) : ∃ s m e, (double.read y).opposite = .number s m e ∧ -1074 ≤ e ∧ sg s (m * 2 ^ (e + 1074).toNat) = -vy := by
  obtain ⟨t, n, j, hry, hj, rfl⟩ := hy
  rw [hry]
  refine ⟨_, _, _, rfl, hj, ?_⟩
  unfold sg
  cases t <;> simp

theorem sub_datum (x y : Nat) (vx vy : Int) (hx : Fin x vx) (hy : Fin y vy) :
    ∃ s m e, (double.read x).sum (double.read y).opposite = some (.number s m e) ∧ -1074 ≤ e ∧ sg s (m * 2 ^ (e + 1074).toNat) = vx - vy := by
  obtain ⟨s, m, i, hrx, hi, rfl⟩ := hx
  obtain ⟨t, n, j, hry, hj, hv⟩ := opposite_read y vy hy
  rw [hrx, hry]
  refine ⟨_, _, _, rfl, by omega, ?_⟩
  have hvv : sg s (m * 2 ^ (i + 1074).toNat) - vy = sg s (m * 2 ^ (i + 1074).toNat) + sg t (n * 2 ^ (j + 1074).toNat) := by rw [hv]; omega
  rw [hvv]
  generalize hb : min i j = base
  have hb1 : (i - base).toNat + (base + 1074).toNat = (i + 1074).toNat := by omega
  have hb2 : (j - base).toNat + (base + 1074).toNat = (j + 1074).toNat := by omega
  rw [signed_eq, signed_eq]
  have e1 : sg s (m * 2 ^ (i + 1074).toNat) = sg s (m * 2 ^ (i - base).toNat) * ((2 ^ (base + 1074).toNat : Nat) : Int) := by
    rw [← sg_scale, Nat.mul_assoc, ← Nat.pow_add, hb1]
  have e2 : sg t (n * 2 ^ (j + 1074).toNat) = sg t (n * 2 ^ (j - base).toNat) * ((2 ^ (base + 1074).toNat : Nat) : Int) := by
    rw [← sg_scale, Nat.mul_assoc, ← Nat.pow_add, hb2]
  rw [e1, e2, ← Int.add_mul, sg_scale]
  congr 1
  generalize sg s (m * 2 ^ (i - base).toNat) + sg t (n * 2 ^ (j - base).toNat) = total
  unfold sg
  by_cases c : total = 0
  · subst c; simp
  · rw [if_neg c]
    by_cases c2 : total < 0
    · rw [decide_eq_true c2, if_pos rfl]; omega
    · rw [decide_eq_false c2]; simp; omega
theorem sub_near (x y : Nat) (vx vy : Int) (hx : Fin x vx) (hy : Fin y vy) (T : Nat) (hT : T = 1500) (h1 : vx - vy < ((2 ^ T : Nat) : Int)) (h2 : -(vx - vy) < ((2 ^ T : Nat) : Int)) :
    ∃ r v, double.sub x y = some r ∧ Fin r v ∧ ∀ M : Int, vx - vy ≤ M → -(vx - vy) ≤ M → (v - (vx - vy)) * 9007199254740992 ≤ M ∧ (vx - vy - v) * 9007199254740992 ≤ M := by
  obtain ⟨s, m, e, hs, he, hv⟩ := sub_datum x y vx vy hx hy
  obtain ⟨v, hf, hn⟩ := write_int s m e he T hT (natAbs_lt_pow _ s _ hv _ h1 h2)
  rw [hv] at hn
  refine ⟨_, v, ?_, hf, hn⟩
  unfold Format.sub
  rw [hs]
  rfl

theorem read_zero_write (s : Bool) (e : Int) : double.write (.number s 0 e) = double.write (.number s 0 0) := by
  show double.nearest s 0 e = double.nearest s 0 0
  unfold Format.nearest
  rw [if_pos rfl, if_pos rfl]

theorem read_mag (w : Nat) (s : Bool) (m : Nat) (e : Int) (h : double.read w = .number s m e) : m < 2 ^ 53 := by
  have h53 : (2 : Nat) ^ 53 = 9007199254740992 := by decide +kernel
  rw [h53]
  unfold Format.read at h
  rw [lp, bin, swt, inf] at h
  dsimp only at h
  split at h
  · injection h with h1 h2 h3; omega
  · split at h
    · injection h with h1 h2 h3
      have : w % 9223372036854775808 % 4503599627370496 < 4503599627370496 := Nat.mod_lt _ (by decide)
      omega
    · split at h
      · cases h
      · cases h

theorem place_ge (s : Bool) (m : Nat) (i : Int) (a : Int) (hi : -1074 ≤ i) (hm : m < 2 ^ 53) (h : sg s (m * 2 ^ (i + 1074).toNat) = a * (CC : Int)) (ha : a ≠ 0) : -52 ≤ i := by
  by_cases c : -52 ≤ i
  · exact c
  · exfalso
    have h1 : m * 2 ^ (i + 1074).toNat < CC := by
      have h2 : m * 2 ^ (i + 1074).toNat < 2 ^ 53 * 2 ^ (i + 1074).toNat := Nat.mul_lt_mul_of_pos_right hm (Nat.two_pow_pos _)
      rw [← Nat.pow_add] at h2
      refine Nat.lt_of_lt_of_le h2 ?_
      rw [CC_def]
      refine Nat.pow_le_pow_right (by decide) ?_
      show 53 + (i + 1074).toNat ≤ 1074
      omega
    have h3 : (sg s (m * 2 ^ (i + 1074).toNat)).natAbs = m * 2 ^ (i + 1074).toNat := sg_natAbs _ _
    rw [h, Int.natAbs_mul, Int.natAbs_natCast] at h3
    have h4 : 1 ≤ a.natAbs := by omega
    have h5 : 1 * CC ≤ a.natAbs * CC := Nat.mul_le_mul_right _ h4
    omega

/-- The float product of two whole numbers is near the product. -/
theorem pow_shuffle (m n p q r c : Nat) (h : p + q = r + c) : m * n * 2 ^ r * 2 ^ c = m * 2 ^ p * (n * 2 ^ q) := by
  have e : 2 ^ r * 2 ^ c = 2 ^ p * 2 ^ q := by rw [← Nat.pow_add, ← Nat.pow_add, h]
  rw [Nat.mul_assoc (m * n), e]
  simp only [Nat.mul_left_comm, Nat.mul_assoc]

theorem mul_near (a b : Int) (ha : a.natAbs < 2 ^ 53) (hb : b.natAbs < 2 ^ 53) :
    ∃ r v, double.mul (double.write (.number (a < 0) a.natAbs 0)) (double.write (.number (b < 0) b.natAbs 0)) = some r ∧ Fin r v ∧
      ∀ M : Int, a * b * (CC : Int) ≤ M → -(a * b * (CC : Int)) ≤ M → (v - a * b * (CC : Int)) * 9007199254740992 ≤ M ∧ (a * b * (CC : Int) - v) * 9007199254740992 ≤ M := by
  obtain ⟨s, m, i, hra, hi, va⟩ := of_int a ha
  obtain ⟨t, n, j, hrb, hj, vb⟩ := of_int b hb
  have hm := read_mag _ _ _ _ hra
  have hn := read_mag _ _ _ _ hrb
  obtain ⟨T, hT⟩ : ∃ T : Nat, T = 1500 := ⟨_, rfl⟩
  have hmul : double.mul (double.write (.number (a < 0) a.natAbs 0)) (double.write (.number (b < 0) b.natAbs 0)) = some (double.write (.number (s ^^ t) (m * n) (i + j))) := by
    unfold Format.mul
    rw [hra, hrb]
    rfl
  by_cases hz : a = 0 ∨ b = 0
  · have hmn : m * n = 0 := by
      rcases hz with rfl | rfl
      · rw [Int.zero_mul] at va
        have := sg_natAbs s (m * 2 ^ (i + 1074).toNat)
        rw [va] at this
        have h0 : m * 2 ^ (i + 1074).toNat = 0 := by omega
        rcases Nat.mul_eq_zero.1 h0 with h | h
        · rw [h, Nat.zero_mul]
        · exact absurd h (Nat.ne_of_gt (Nat.two_pow_pos _))
      · rw [Int.zero_mul] at vb
        have := sg_natAbs t (n * 2 ^ (j + 1074).toNat)
        rw [vb] at this
        have h0 : n * 2 ^ (j + 1074).toNat = 0 := by omega
        rcases Nat.mul_eq_zero.1 h0 with h | h
        · rw [h, Nat.mul_zero]
        · exact absurd h (Nat.ne_of_gt (Nat.two_pow_pos _))
    have hab : a * b = 0 := by rcases hz with rfl | rfl <;> simp
    rw [hmn, read_zero_write] at hmul
    obtain ⟨v, hf, hnr⟩ := write_int (s ^^ t) 0 0 (by decide) T hT (by rw [Nat.zero_mul]; exact Nat.two_pow_pos _)
    refine ⟨_, v, hmul, hf, ?_⟩
    rw [hab, Int.zero_mul]
    rw [Nat.zero_mul] at hnr
    have : sg (s ^^ t) 0 = 0 := by unfold sg; split <;> rfl
    rw [this] at hnr
    exact hnr
  · have ha0 : a ≠ 0 := fun h => hz (.inl h)
    have hb0 : b ≠ 0 := fun h => hz (.inr h)
    have hi2 := place_ge s m i a hi hm va ha0
    have hj2 := place_ge t n j b hj hn vb hb0
    have hC : (CC : Int) ≠ 0 := by have := CC_pos; omega
    obtain ⟨c, hc⟩ : ∃ c : Nat, cE = c := ⟨_, rfl⟩
    have hexp : (i + 1074).toNat + (j + 1074).toNat = (i + j + 1074).toNat + c := by
      rw [← hc]
      show _ = _ + 1074
      omega
    have hV : sg (s ^^ t) (m * n * 2 ^ (i + j + 1074).toNat) = a * b * (CC : Int) := by
      apply Int.eq_of_mul_eq_mul_right hC
      have h1 : sg (s ^^ t) (m * n * 2 ^ (i + j + 1074).toNat) * (CC : Int) = sg (s ^^ t) (m * 2 ^ (i + 1074).toNat * (n * 2 ^ (j + 1074).toNat)) := by
        rw [← sg_scale]
        refine congrArg (sg (s ^^ t)) ?_
        rw [CC_def, hc]
        exact pow_shuffle m n _ _ _ _ hexp
      rw [h1, sg_mul, va, vb]
      simp only [Int.mul_comm, Int.mul_left_comm, Int.mul_assoc]
    have hlt : m * n * 2 ^ (i + j + 1074).toNat < 2 ^ T := by
      have h1 := sg_natAbs (s ^^ t) (m * n * 2 ^ (i + j + 1074).toNat)
      rw [hV, Int.natAbs_mul, Int.natAbs_mul, Int.natAbs_natCast] at h1
      rw [← h1]
      have h2 : a.natAbs * b.natAbs * CC ≤ 2 ^ 53 * 2 ^ 53 * CC := Nat.mul_le_mul_right _ (Nat.mul_le_mul (Nat.le_of_lt ha) (Nat.le_of_lt hb))
      refine Nat.lt_of_le_of_lt h2 ?_
      rw [CC_def, ← Nat.pow_add, ← Nat.pow_add]
      refine Nat.pow_lt_pow_right (by decide) ?_
      rw [hT]
      decide
    obtain ⟨v, hf, hnr⟩ := write_int (s ^^ t) (m * n) (i + j) (by omega) T hT hlt
    rw [hV] at hnr
    exact ⟨_, v, hmul, hf, hnr⟩
end FloatSum
namespace FloatSum
open Ieee
theorem CC_room (T : Nat) (hT : T = 1500) : (604462909807314587353088 : Int) * (CC : Int) < ((2 ^ T : Nat) : Int) := by
  have h : 2 ^ 79 * CC < 2 ^ T := by
    rw [CC_def, ← Nat.pow_add]
    refine Nat.pow_lt_pow_right (by decide) ?_
    rw [hT]
    decide
  have h2 : (2 ^ 79 : Nat) = 604462909807314587353088 := by decide
  rw [h2] at h
  omega

theorem scale_le (C X B : Int) (hC : 0 ≤ C) (h : X ≤ B) : X * C ≤ B * C := Int.mul_le_mul_of_nonneg_right h hC

/-- One step of a float's sum beside the true sum. -/
theorem acc_step (w : Nat) (v T a b : Int) (k : Nat) (hk : k ≤ 16384) (ha : a.natAbs < 2 ^ 53) (hb : b.natAbs < 2 ^ 53) (hw : Fin w v)
    (e1 : v - T * (CC : Int) ≤ ((k : Int) * (CC : Int)) * 134217728) (e2 : T * (CC : Int) - v ≤ ((k : Int) * (CC : Int)) * 134217728)
    (hT1 : T ≤ 151115727451828646838272) (hT2 : -T ≤ 151115727451828646838272) (hab1 : a * b ≤ 151115727451828646838272) (hab2 : -(a * b) ≤ 151115727451828646838272) :
    ∃ p r v', double.mul (double.write (.number (a < 0) a.natAbs 0)) (double.write (.number (b < 0) b.natAbs 0)) = some p ∧ double.add w p = some r ∧ Fin r v' ∧
      v' - (T + a * b) * (CC : Int) ≤ (((k + 1 : Nat) : Int) * (CC : Int)) * 134217728 ∧ (T + a * b) * (CC : Int) - v' ≤ (((k + 1 : Nat) : Int) * (CC : Int)) * 134217728 := by
  obtain ⟨p, pv, hm, hp, hpn⟩ := mul_near a b ha hb
  obtain ⟨U, hU⟩ : ∃ T : Nat, T = 1500 := ⟨_, rfl⟩
  have room := CC_room U hU
  have hC : (0 : Int) < (CC : Int) := by have := CC_pos; omega
  have b1 := scale_le _ _ _ (Int.le_of_lt hC) hT1
  have b2 := scale_le _ _ _ (Int.le_of_lt hC) hT2
  have b3 := scale_le _ _ _ (Int.le_of_lt hC) hab1
  have b4 := scale_le _ _ _ (Int.le_of_lt hC) hab2
  have b5 := scale_le (CC : Int) (k : Int) 16384 (Int.le_of_lt hC) (by omega)
  have b6 := scale_le (CC : Int) 0 (k : Int) (Int.le_of_lt hC) (by omega)
  rw [Int.neg_mul] at b2 b4
  rw [Int.zero_mul] at b6
  have n1 := (hpn (151115727451828646838272 * (CC : Int)) b3 b4).1
  have n2 := (hpn (151115727451828646838272 * (CC : Int)) b3 b4).2
  clear hpn
  rw [Int.add_mul, show ((k + 1 : Nat) : Int) * (CC : Int) = (k : Int) * (CC : Int) + (CC : Int) by rw [Int.natCast_add, Int.add_mul]; simp]
  generalize hX : T * (CC : Int) = X at *
  generalize hY : a * b * (CC : Int) = Y at *
  generalize hK : (k : Int) * (CC : Int) = K at *
  generalize hD : (CC : Int) = D at *
  obtain ⟨r, rv, hadd, hr, hrn⟩ := add_near w p v pv hw hp U hU (by omega) (by omega)
  have n3 := (hrn (604462909807314587353088 * D) (by omega) (by omega)).1
  have n4 := (hrn (604462909807314587353088 * D) (by omega) (by omega)).2
  exact ⟨p, r, rv, hm, hadd, hr, by omega, by omega⟩

theorem order_fin (x y : Nat) (vx vy : Int) (hx : Fin x vx) (hy : Fin y vy) :
    double.order x y = some (compare vx vy) := by
  obtain ⟨s, m, i, hrx, hi, rfl⟩ := hx
  obtain ⟨t, n, j, hry, hj, rfl⟩ := hy
  unfold Format.order
  rw [hrx, hry]
  show some (compare (signed s m (i - min i j).toNat) (signed t n (j - min i j).toNat)) = _
  generalize hb : min i j = base
  have hb1 : (i - base).toNat + (base + 1074).toNat = (i + 1074).toNat := by omega
  have hb2 : (j - base).toNat + (base + 1074).toNat = (j + 1074).toNat := by omega
  rw [signed_eq, signed_eq]
  have e1 : sg s (m * 2 ^ (i + 1074).toNat) = sg s (m * 2 ^ (i - base).toNat) * ((2 ^ (base + 1074).toNat : Nat) : Int) := by
    rw [← sg_scale, Nat.mul_assoc, ← Nat.pow_add, hb1]
  have e2 : sg t (n * 2 ^ (j + 1074).toNat) = sg t (n * 2 ^ (j - base).toNat) * ((2 ^ (base + 1074).toNat : Nat) : Int) := by
    rw [← sg_scale, Nat.mul_assoc, ← Nat.pow_add, hb2]
  rw [e1, e2]
  have hp := Nat.two_pow_pos (base + 1074).toNat
  generalize (2 ^ (base + 1074).toNat : Nat) = u at *
  generalize sg s (m * 2 ^ (i - base).toNat) = p at *
  generalize sg t (n * 2 ^ (j - base).toNat) = q at *
  have hu : (0 : Int) < (u : Int) := by omega
  refine congrArg some ?_
  show compareOfLessAndEq p q = compareOfLessAndEq _ _
  unfold compareOfLessAndEq
  have h1 : p * (u : Int) < q * (u : Int) ↔ p < q := ⟨fun h => Int.lt_of_mul_lt_mul_right h (Int.le_of_lt hu), fun h => Int.mul_lt_mul_of_pos_right h hu⟩
  have h2 : p * (u : Int) = q * (u : Int) ↔ p = q := ⟨fun h => Int.eq_of_mul_eq_mul_right (by omega) h, fun h => by rw [h]⟩
  simp only [h1, h2]

theorem order_lt (x y : Nat) (vx vy : Int) (hx : Fin x vx) (hy : Fin y vy) : (double.order x y == some .lt) = decide (vx < vy) := by
  rw [order_fin x y vx vy hx hy]
  show ((some (compareOfLessAndEq vx vy)) == some .lt) = _
  unfold compareOfLessAndEq
  by_cases c : vx < vy
  · rw [if_pos c, decide_eq_true c]; rfl
  · rw [if_neg c, decide_eq_false c]; split <;> rfl

theorem order_gt (x y : Nat) (vx vy : Int) (hx : Fin x vx) (hy : Fin y vy) : (double.order x y == some .gt) = decide (vy < vx) := by
  rw [order_fin x y vx vy hx hy]
  show ((some (compareOfLessAndEq vx vy)) == some .gt) = _
  unfold compareOfLessAndEq
  by_cases c : vx < vy
  · rw [if_pos c, decide_eq_false (by omega)]; rfl
  · rw [if_neg c]
    by_cases c2 : vx = vy
    · rw [if_pos c2, decide_eq_false (by omega)]; rfl
    · rw [if_neg c2, decide_eq_true (by omega)]; rfl

theorem read_e18 : double.read 4876203697187506176 = .number false 7812500000000000 7 := by decide +kernel
theorem read_e18n : double.read 14099575734042281984 = .number true 7812500000000000 7 := by decide +kernel
theorem e18_exp : ((7 : Int) + 1074).toNat = 7 + cE := Eq.refl _
theorem e18_val (c : Nat) : 7812500000000000 * 2 ^ (7 + c) = 1000000000000000000 * 2 ^ c := by
  rw [Nat.pow_add, ← Nat.mul_assoc]
theorem fin_e18 : Fin 4876203697187506176 (1000000000000000000 * (CC : Int)) := by
  refine ⟨false, _, _, read_e18, by decide, ?_⟩
  rw [e18_exp, e18_val cE, ← CC_def]
  unfold sg
  rw [if_neg (by decide), Int.natCast_mul]
  rfl
theorem fin_e18n : Fin 14099575734042281984 (-(1000000000000000000 * (CC : Int))) := by
  refine ⟨true, _, _, read_e18n, by decide, ?_⟩
  rw [e18_exp, e18_val cE, ← CC_def]
  unfold sg
  rw [if_pos rfl, Int.natCast_mul]
  rfl

/-- What a sum's number tells: it is taken as small only if the true sum is. -/
theorem value_law (low v T : Int) (k : Nat) (hk : k ≤ 16384)
    (e1 : v - T * (CC : Int) ≤ ((k : Int) * (CC : Int)) * 134217728) (e2 : T * (CC : Int) - v ≤ ((k : Int) * (CC : Int)) * 134217728)
    (hl : -9223372036854775808 ≤ low ∧ low < 9223372036854775808) (hw : (low - T) % 18446744073709551616 = 0) :
    (-1000000000 ≤ low ∧ low ≤ 1000000000 ∧ v < 1000000000000000000 * (CC : Int) ∧ -(1000000000000000000 * (CC : Int)) < v) ↔ (-1000000000 ≤ T ∧ T ≤ 1000000000) := by
  have hC : (0 : Int) < (CC : Int) := by have := CC_pos; omega
  have b5 := scale_le (CC : Int) (k : Int) 16384 (Int.le_of_lt hC) (by omega)
  constructor
  · rintro ⟨h1, h2, h3, h4⟩
    have up : T < 2000000000000000000 := by
      by_cases c : T < 2000000000000000000
      · exact c
      · have := scale_le (CC : Int) 2000000000000000000 T (Int.le_of_lt hC) (by omega)
        omega
    have dn : -2000000000000000000 < T := by
      by_cases c : -2000000000000000000 < T
      · exact c
      · have := scale_le (CC : Int) T (-2000000000000000000) (Int.le_of_lt hC) (by omega)
        omega
    omega
  · rintro ⟨h1, h2⟩
    have u := scale_le (CC : Int) T 1000000000 (Int.le_of_lt hC) h2
    have d := scale_le (CC : Int) (-1000000000) T (Int.le_of_lt hC) h1
    refine ⟨by omega, by omega, by omega, by omega⟩

/-- A float's sum less another's. -/
theorem less_step (w u : Nat) (v x T Y : Int) (k j : Nat) (hk : k ≤ 16384) (hj : j ≤ 16384) (hw : Fin w v) (hu : Fin u x)
    (e1 : v - T * (CC : Int) ≤ ((k : Int) * (CC : Int)) * 134217728) (e2 : T * (CC : Int) - v ≤ ((k : Int) * (CC : Int)) * 134217728)
    (f1 : x - Y * (CC : Int) ≤ ((j : Int) * (CC : Int)) * 134217728) (f2 : Y * (CC : Int) - x ≤ ((j : Int) * (CC : Int)) * 134217728)
    (hT1 : T ≤ 151115727451828646838272) (hT2 : -T ≤ 151115727451828646838272) (hY1 : Y ≤ 151115727451828646838272) (hY2 : -Y ≤ 151115727451828646838272) :
    ∃ r v', double.sub w u = some r ∧ Fin r v' ∧
      v' - (T - Y) * (CC : Int) ≤ (((k + j + 1 : Nat) : Int) * (CC : Int)) * 134217728 ∧ (T - Y) * (CC : Int) - v' ≤ (((k + j + 1 : Nat) : Int) * (CC : Int)) * 134217728 := by
  obtain ⟨U, hU⟩ : ∃ T : Nat, T = 1500 := ⟨_, rfl⟩
  have room := CC_room U hU
  have hC : (0 : Int) < (CC : Int) := by have := CC_pos; omega
  have b1 := scale_le _ _ _ (Int.le_of_lt hC) hT1
  have b2 := scale_le _ _ _ (Int.le_of_lt hC) hT2
  have b3 := scale_le _ _ _ (Int.le_of_lt hC) hY1
  have b4 := scale_le _ _ _ (Int.le_of_lt hC) hY2
  have b5 := scale_le (CC : Int) (k : Int) 16384 (Int.le_of_lt hC) (by omega)
  have b6 := scale_le (CC : Int) (j : Int) 16384 (Int.le_of_lt hC) (by omega)
  have b7 := scale_le (CC : Int) 0 (k : Int) (Int.le_of_lt hC) (by omega)
  have b8 := scale_le (CC : Int) 0 (j : Int) (Int.le_of_lt hC) (by omega)
  rw [Int.neg_mul] at b2 b4
  rw [Int.zero_mul] at b7 b8
  rw [Int.sub_mul, show ((k + j + 1 : Nat) : Int) * (CC : Int) = (k : Int) * (CC : Int) + (j : Int) * (CC : Int) + (CC : Int) by rw [Int.natCast_add, Int.natCast_add, Int.add_mul, Int.add_mul]; simp]
  generalize hX : T * (CC : Int) = X at *
  generalize hY : Y * (CC : Int) = Z at *
  generalize hK : (k : Int) * (CC : Int) = K at *
  generalize hJ : (j : Int) * (CC : Int) = J at *
  generalize hD : (CC : Int) = D at *
  obtain ⟨r, rv, hsub, hr, hrn⟩ := sub_near w u v x hw hu U hU (by omega) (by omega)
  have n3 := (hrn (604462909807314587353088 * D) (by omega) (by omega)).1
  have n4 := (hrn (604462909807314587353088 * D) (by omega) (by omega)).2
  exact ⟨r, rv, hsub, hr, by omega, by omega⟩
theorem fin_zero : Fin 0 0 := by
  refine ⟨false, 0, -1074, by decide +kernel, by decide, ?_⟩
  rw [Nat.zero_mul]
  rfl
end FloatSum
