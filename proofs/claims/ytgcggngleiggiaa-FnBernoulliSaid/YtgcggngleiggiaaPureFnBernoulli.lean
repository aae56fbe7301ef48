/-
The law FnBernoulli, of plain numbers and lists: the draws lead into finite ranges, there all is reckoned. Conditions: none beyond those of the statement.
-/
import Derived.Test.YtgcggngleiggiaaFbA
import Derived.Test.YtgcggngleiggiaaFbB0
import Derived.Test.YtgcggngleiggiaaFbB1
import Derived.Test.YtgcggngleiggiaaFbB2
import Derived.Test.YtgcggngleiggiaaFbC
import Derived.Test.YtgcggngleiggiaaFbD0
import Derived.Test.YtgcggngleiggiaaFbD1
import Derived.Test.YtgcggngleiggiaaFbD2
namespace Go.Proofs.Ytgcggngleiggiaa.Pure
open Go.RowKit Go.Proofs.Ytgcggngleiggiaa.Pr Go.Proofs.YtgcggngleiggiaaW.PrintWords Go.Proofs.YtgcggngleiggiaaW.PrintLast
set_option maxRecDepth 100000
/-- What the draws go on from: the code's bytes, the place in it, the hash. -/
def DrawOk (l : List Int) (at_ h : Int) : Prop := (0 ≤ at_ ∧ at_ ≤ (l.length : Int)) ∧ (0 ≤ h ∧ h < 18446744073709551616) ∧ l.length ≤ 4096 ∧ ∀ x ∈ l, 0 ≤ x ∧ x < 256
theorem mask30 (h : Int) (h0 : 0 ≤ h) (h1 : h < 18446744073709551616) : 0 ≤ Go.bits .and .u64 (h / 2147483648) 1073741823 ∧ Go.bits .and .u64 (h / 2147483648) 1073741823 < 1073741824 := by
  have := Go.bits_mask .u64 64 (by decide) (fun n a b => by simp [IntKind.wrap, IntKind.bits, IntKind.signed]; omega) 30 (by decide) (h / 2147483648) (by omega) (by omega)
  have e : ((2 : Int) ^ 30 - 1) = 1073741823 := by decide
  rw [e] at this
  rw [this]
  omega
theorem u64_range (x : Int) : 0 ≤ IntKind.u64.wrap x ∧ IntKind.u64.wrap x < 18446744073709551616 := by
  simp [IntKind.wrap, IntKind.bits, IntKind.signed]
  omega
theorem tmod_range (x n : Int) (hx : 0 ≤ x) (hn : 1 ≤ n) : 0 ≤ Int.tmod x n ∧ Int.tmod x n < n := ⟨Int.tmod_nonneg _ hx, Int.tmod_lt_of_pos _ (by omega)⟩
theorem next_ok {l : List Int} {at_ h : Int} (hd : DrawOk l at_ h) (n : Int) (hn : 1 ≤ n) : ∃ v a2 h2, spec_l01Next.f l at_ h n = some (v, a2, h2) ∧ DrawOk l a2 h2 ∧ 0 ≤ v ∧ v < n := by
  obtain ⟨⟨a0, a1⟩, hh, hl, hb⟩ := hd
  unfold spec_l01Next.f
  rw [if_neg (by omega)]
  have hr := u64_range (IntKind.u64.wrap (h * 6364136223846793005) + 1442695040888963407)
  generalize IntKind.u64.wrap (IntKind.u64.wrap (h * 6364136223846793005) + 1442695040888963407) = h2 at *
  have hm := mask30 h2 hr.1 hr.2
  generalize Go.bits .and .u64 (h2 / 2147483648) 1073741823 = m at *
  by_cases c : at_ < (l.length : Int)
  · rw [if_pos c, if_pos a0, if_neg (by omega)]
    have hb2 : 0 ≤ rd l at_ ∧ rd l at_ < 256 := by
      have hlt : at_.toNat < l.length := by omega
      have : rd l at_ = l[at_.toNat] := by
        unfold rd
        simp [List.getD_eq_getElem?_getD, List.getElem?_eq_getElem hlt]
      rw [this]
      exact hb _ (List.getElem_mem hlt)
    have w1 : wrap64 (wrap64 m + wrap64 (rd l at_)) = m + rd l at_ := by unfold wrap64; omega
    have w2 : wrap64 (at_ + 1) = at_ + 1 := by unfold wrap64; omega
    rw [w1, w2]
    exact ⟨_, _, _, rfl, ⟨by omega, hr, hl, hb⟩, tmod_range _ _ (by omega) hn⟩
  · rw [if_neg c, if_neg (by omega)]
    have w1 : wrap64 m = m := by unfold wrap64; omega
    rw [w1]
    exact ⟨_, _, _, rfl, ⟨⟨a0, a1⟩, hr, hl, hb⟩, tmod_range _ _ (by omega) hn⟩
theorem pick_ok {l : List Int} {at_ h : Int} (hd : DrawOk l at_ h) (xs : List Int) (hx : 1 ≤ xs.length) : ∃ v a2 h2, spec_l01Pick.f l at_ h xs = some (v, a2, h2) ∧ DrawOk l a2 h2 ∧ v ∈ xs := by
  obtain ⟨i, a2, h2, e, hd2, i0, i1⟩ := next_ok hd (xs.length : Int) (by omega)
  refine ⟨rd xs i, a2, h2, ?_, hd2, ?_⟩
  · unfold spec_l01Pick.f
    rw [e]
    simp only [Option.bind_some]
    rw [if_pos i0, if_pos i1]
  · have hlt : i.toNat < xs.length := by omega
    have : rd xs i = xs[i.toNat] := by
      unfold rd
      simp [List.getD_eq_getElem?_getD, List.getElem?_eq_getElem hlt]
    rw [this]
    exact List.getElem_mem hlt
theorem from_loop (l : List Int) (hl : l.length ≤ 4096) (d : Nat) : ∀ (k : Nat) (i h : Int), 0 ≤ i → i ≤ (l.length : Int) → (l.length : Int) - i = d → d < k → 0 ≤ h → h < 18446744073709551616 → ∃ h2, spec_l01From.l0 k l i l 0 h = some (l, 0, h2) ∧ 0 ≤ h2 ∧ h2 < 18446744073709551616 := by
  induction d with
  | zero =>
    intro k i h i0 i1 hd hk h0 h1
    obtain ⟨k, rfl⟩ : ∃ m, k = m + 1 := ⟨k - 1, by omega⟩
    refine ⟨h, ?_, h0, h1⟩
    simp only [spec_l01From.l0]
    rw [if_neg (by omega)]
  | succ d ih =>
    intro k i h i0 i1 hd hk h0 h1
    obtain ⟨k, rfl⟩ : ∃ m, k = m + 1 := ⟨k - 1, by omega⟩
    simp only [spec_l01From.l0]
    rw [if_pos (by omega), if_pos (by omega), if_pos (by omega)]
    have w : wrap64 (i + 1) = i + 1 := by unfold wrap64; omega
    rw [w]
    have hr := u64_range (IntKind.u64.wrap (IntKind.u64.wrap (h * 1099511628211) + IntKind.u64.wrap (rd l i)) + 131)
    exact ih k (i + 1) _ (by omega) (by omega) (by omega) (by omega) hr.1 hr.2
theorem from_ok (l : List Int) (hl : l.length ≤ 4096) (hb : ∀ x ∈ l, 0 ≤ x ∧ x < 256) (k : Nat) (hk : 4096 < k) : ∃ h, spec_l01From.f k l = some (l, 0, h) ∧ DrawOk l 0 h := by
  have hr := u64_range (13131 + IntKind.u64.wrap (l.length : Int))
  obtain ⟨h2, e, h0, h1⟩ := from_loop l hl l.length k 0 _ (by omega) (by omega) (by omega) (by omega) hr.1 hr.2
  exact ⟨h2, e, ⟨⟨by omega, by omega⟩, ⟨h0, h1⟩, hl, hb⟩⟩

def primesL : List Int := [2, 15, 67, 3, 5, 7, 11, 13, 17, 19, 23, 29, 31, 37, 41, 43, 47, 53, 59, 61]
def ordersL : List Int := [1, 2, 3, 4, 5, 6, 7, 8, 9, 10, 11, 12, 13, 14, 15, 16, 21, 22, 23, 24, 25, 26, 27, 28, 29, 30, 31, 32, 33, 34, 35, 36]
theorem prime_ok {l : List Int} {at_ h : Int} (hd : DrawOk l at_ h) : ∃ p a2 h2, spec_l08Prime.f l at_ h = some (p, a2, h2) ∧ DrawOk l a2 h2 ∧ p ∈ primesL := by
  obtain ⟨v, a1, h1, e1, d1, v0, v1⟩ := next_ok hd 30 (by decide)
  unfold spec_l08Prime.f spec_l06Primes.f
  simp only [Option.bind_some, e1]
  by_cases c : v = 0
  · rw [if_pos c]
    obtain ⟨p, a2, h2, e2, d2, hp⟩ := pick_ok d1 [2, 15, 67] (by decide)
    simp only [e2, Option.bind_some]
    refine ⟨_, _, _, rfl, d2, ?_⟩
    have : ∀ x ∈ ([2, 15, 67] : List Int), x ∈ primesL := by decide
    exact this _ hp
  · rw [if_neg c]
    obtain ⟨p, a2, h2, e2, d2, hp⟩ := pick_ok d1 [6, 17] (by decide)
    simp only [e2, Option.bind_some]
    have hp2 : 1 ≤ p ∧ p ≤ 17 := by
      simp only [List.mem_cons, List.not_mem_nil, or_false] at hp
      omega
    obtain ⟨i, a3, h3, e3, d3, i0, i1⟩ := next_ok d2 p hp2.1
    simp only [e3, Option.bind_some]
    have hl : (([3, 5, 7, 11, 13, 17, 19, 23, 29, 31, 37, 41, 43, 47, 53, 59, 61] : List Int).length : Int) = 17 := rfl
    rw [if_pos i0, hl, if_pos (by omega)]
    refine ⟨_, _, _, rfl, d3, ?_⟩
    have hlt : i.toNat < 17 := by omega
    have key : ∀ j : Nat, j < 17 → ([3, 5, 7, 11, 13, 17, 19, 23, 29, 31, 37, 41, 43, 47, 53, 59, 61] : List Int).getD j 0 ∈ primesL := by decide
    exact key _ hlt
theorem drawA (l : List Int) (hl : l.length ≤ 4096) (hb : ∀ x ∈ l, 0 ≤ x ∧ x < 256) : ∃ t : Nat, spec_DrawBernoulliOf.f 5000 l = some (t : Int) ∧ t < 22 := by
  obtain ⟨h, e0, d0⟩ := from_ok l hl hb 5000 (by decide)
  obtain ⟨v, a1, h1, e1, d1, v0, v1⟩ := next_ok d0 22 (by decide)
  refine ⟨v.toNat, ?_, by omega⟩
  unfold spec_DrawBernoulliOf.f
  simp only [e0, e1, Option.bind_some]
  rw [Int.toNat_of_nonneg v0]
theorem primes_span : ∀ p ∈ primesL, 2 ≤ p ∧ p ≤ 67 := by decide
theorem mx_int (a b : Int) : mx a b = if a < b then b else a := rfl
theorem drawB (l : List Int) (hl : l.length ≤ 4096) (hb : ∀ x ∈ l, 0 ≤ x ∧ x < 256) : ∃ (p : Int) (m : Nat), spec_DrawBernoulliModulo.f 5000 l = some (p, (m : Int)) ∧ p ∈ primesL ∧ m < 70 := by
  obtain ⟨h, e0, d0⟩ := from_ok l hl hb 5000 (by decide)
  obtain ⟨p, a1, h1, e1, d1, hp⟩ := prime_ok d0
  have hs := primes_span p hp
  have ht : Int.tdiv p 2 = p / 2 := Int.tdiv_eq_ediv_of_nonneg (by omega)
  have hm : 1 ≤ mx (wrap64 (Int.tdiv p 2)) 1 ∧ mx (wrap64 (Int.tdiv p 2)) 1 ≤ 33 := by
    rw [ht, mx_int]
    unfold wrap64
    split <;> omega
  obtain ⟨x, a2, h2, e2, d2, x0, x1⟩ := next_ok d1 _ hm.1
  obtain ⟨y, a3, h3, e3, d3, y0, y1⟩ := next_ok d2 12 (by decide)
  unfold spec_DrawBernoulliModulo.f
  simp only [e0, e1, e2, e3, Option.bind_some]
  have hy : Int.tdiv y 11 = y / 11 := Int.tdiv_eq_ediv_of_nonneg y0
  have hw : wrap64 (wrap64 (2 * x) + wrap64 (Int.tdiv y 11)) = 2 * x + y / 11 := by rw [hy]; unfold wrap64; omega
  rw [hw]
  refine ⟨p, (2 * x + y / 11).toNat, ?_, hp, by omega⟩
  rw [Int.toNat_of_nonneg (by omega)]
theorem drawC (l : List Int) (hl : l.length ≤ 4096) (hb : ∀ x ∈ l, 0 ≤ x ∧ x < 256) : ∃ q : Int, spec_DrawIrregularOf.f 5000 l = some q ∧ q ∈ primesL := by
  obtain ⟨h, e0, d0⟩ := from_ok l hl hb 5000 (by decide)
  obtain ⟨p, a1, h1, e1, d1, hp⟩ := prime_ok d0
  obtain ⟨p2, a2, h2, e2, d2, hp2⟩ := prime_ok d1
  obtain ⟨q, a3, h3, e3, d3, hq⟩ := pick_ok d2 [37, 59, p, p2] (by simp)
  unfold spec_DrawIrregularOf.f
  simp only [e0, e1, e2, e3, Option.bind_some]
  refine ⟨q, rfl, ?_⟩
  simp only [List.mem_cons, List.not_mem_nil, or_false] at hq
  rcases hq with rfl | rfl | rfl | rfl
  · decide
  · decide
  · exact hp
  · exact hp2
theorem order_ok {l : List Int} {at_ h : Int} (hd : DrawOk l at_ h) : ∃ p a2 h2, spec_l01DrawOrder.f l at_ h = some (p, a2, h2) ∧ DrawOk l a2 h2 ∧ 1 ≤ p ∧ p ≤ 16 := by
  obtain ⟨v, a1, h1, e1, d1, v0, v1⟩ := next_ok hd 16 (by decide)
  have hw : wrap64 (1 + v) = 1 + v := by unfold wrap64; omega
  obtain ⟨p, a2, h2, e2, d2, hp⟩ := pick_ok d1 [1, 2, 3, 3, 4, 4, 5, 5, 6, 7, 8, 9, 10, 12, wrap64 (1 + v)] (by simp)
  unfold spec_l01DrawOrder.f
  simp only [e1, e2, Option.bind_some]
  refine ⟨_, _, _, rfl, d2, ?_⟩
  rw [hw] at hp
  simp only [List.mem_cons, List.not_mem_nil, or_false] at hp
  omega
theorem orders_span : ∀ n : Nat, n < 37 → (1 ≤ n ∧ n ≤ 16 ∨ 21 ≤ n ∧ n ≤ 36) → (n : Int) ∈ ordersL := by decide
theorem drawD (l : List Int) (hl : l.length ≤ 4096) (hb : ∀ x ∈ l, 0 ≤ x ∧ x < 256) : ∃ (n : Int) (a : Nat), spec_DrawCyclotomicUnit.f 5000 l = some (n, (a : Int)) ∧ n ∈ ordersL ∧ (a : Int) < n + 2 := by
  obtain ⟨h, e0, d0⟩ := from_ok l hl hb 5000 (by decide)
  obtain ⟨p, a1, h1, e1, d1, p0, p1⟩ := order_ok d0
  obtain ⟨x, a2, h2, e2, d2, x0, x1⟩ := next_ok d1 40 (by decide)
  have hy : Int.tdiv x 39 = x / 39 := Int.tdiv_eq_ediv_of_nonneg x0
  have hw : wrap64 (p + wrap64 (wrap64 (Int.tdiv x 39) * 20)) = p + x / 39 * 20 := by rw [hy]; unfold wrap64; omega
  have hw2 : wrap64 (p + x / 39 * 20 + 2) = p + x / 39 * 20 + 2 := by unfold wrap64; omega
  obtain ⟨a, a3, h3, e3, d3, a0, a1'⟩ := next_ok d2 (p + x / 39 * 20 + 2) (by omega)
  unfold spec_DrawCyclotomicUnit.f
  simp only [e0, e1, e2, hw, hw2, e3, Option.bind_some]
  refine ⟨_, a.toNat, by rw [Int.toNat_of_nonneg a0], ?_, by omega⟩
  have := orders_span (p + x / 39 * 20).toNat (by omega) (by omega)
  rwa [Int.toNat_of_nonneg (by omega)] at this

theorem isP2 : impl_isPrime.f 5000 2 = some false := by kernel_rfl
theorem l06P2 : spec_l06Prime.f 5000 2 = some false := by kernel_rfl
theorem isP15 : impl_isPrime.f 5000 15 = some false := by kernel_rfl
theorem l06P15 : spec_l06Prime.f 5000 15 = some false := by kernel_rfl
theorem isP67 : impl_isPrime.f 5000 67 = some false := by kernel_rfl
theorem l06P67 : spec_l06Prime.f 5000 67 = some false := by kernel_rfl
theorem isP3 : impl_isPrime.f 5000 3 = some true := by kernel_rfl
theorem l06P3 : spec_l06Prime.f 5000 3 = some true := by kernel_rfl
theorem isP5 : impl_isPrime.f 5000 5 = some true := by kernel_rfl
theorem l06P5 : spec_l06Prime.f 5000 5 = some true := by kernel_rfl
theorem isP7 : impl_isPrime.f 5000 7 = some true := by kernel_rfl
theorem l06P7 : spec_l06Prime.f 5000 7 = some true := by kernel_rfl
theorem isP11 : impl_isPrime.f 5000 11 = some true := by kernel_rfl
theorem l06P11 : spec_l06Prime.f 5000 11 = some true := by kernel_rfl
theorem isP13 : impl_isPrime.f 5000 13 = some true := by kernel_rfl
theorem l06P13 : spec_l06Prime.f 5000 13 = some true := by kernel_rfl
theorem isP17 : impl_isPrime.f 5000 17 = some true := by kernel_rfl
theorem l06P17 : spec_l06Prime.f 5000 17 = some true := by kernel_rfl
theorem isP19 : impl_isPrime.f 5000 19 = some true := by kernel_rfl
theorem l06P19 : spec_l06Prime.f 5000 19 = some true := by kernel_rfl
theorem isP23 : impl_isPrime.f 5000 23 = some true := by kernel_rfl
theorem l06P23 : spec_l06Prime.f 5000 23 = some true := by kernel_rfl
theorem isP29 : impl_isPrime.f 5000 29 = some true := by kernel_rfl
theorem l06P29 : spec_l06Prime.f 5000 29 = some true := by kernel_rfl
theorem isP31 : impl_isPrime.f 5000 31 = some true := by kernel_rfl
theorem l06P31 : spec_l06Prime.f 5000 31 = some true := by kernel_rfl
theorem isP37 : impl_isPrime.f 5000 37 = some true := by kernel_rfl
theorem l06P37 : spec_l06Prime.f 5000 37 = some true := by kernel_rfl
theorem isP41 : impl_isPrime.f 5000 41 = some true := by kernel_rfl
theorem l06P41 : spec_l06Prime.f 5000 41 = some true := by kernel_rfl
theorem isP43 : impl_isPrime.f 5000 43 = some true := by kernel_rfl
theorem l06P43 : spec_l06Prime.f 5000 43 = some true := by kernel_rfl
theorem isP47 : impl_isPrime.f 5000 47 = some true := by kernel_rfl
theorem l06P47 : spec_l06Prime.f 5000 47 = some true := by kernel_rfl
theorem isP53 : impl_isPrime.f 5000 53 = some true := by kernel_rfl
theorem l06P53 : spec_l06Prime.f 5000 53 = some true := by kernel_rfl
theorem isP59 : impl_isPrime.f 5000 59 = some true := by kernel_rfl
theorem l06P59 : spec_l06Prime.f 5000 59 = some true := by kernel_rfl
theorem isP61 : impl_isPrime.f 5000 61 = some true := by kernel_rfl
theorem l06P61 : spec_l06Prime.f 5000 61 = some true := by kernel_rfl
def tst (p res f s : Int) : Bool := decide (p ≠ 0) && decide (Int.tmod s p ≠ 0) && decide (Int.tmod (wrap64 ((Int.tmod (wrap64 ((wrap64 (res * s)) - f)) p) + p)) p = 0)
/-- What the law asks of a Bernoulli residue, where the number itself is told. -/
def J3 (p m res : Int) : Prop := ∀ k, k = 4995 ∨ k = 4996 ∨ k = 4997 → ∃ f s, impl_BernoulliOf.f k m = some (f, s, 0) ∧ tst p res f s = true
def BM (p m : Int) : Prop := ∃ r : Int × Int, impl_BernoulliModulo.f 5000 p m = some r ∧ spec_BernoulliModulo.f 5000 p m = some r ∧ (r.2 = 0 → m ≤ 20 → J3 p m r.1)
theorem noPrime (p q : Int) (h1 : spec_l06Prime.f 5000 p = some false) (h2 : impl_isPrime.f 5000 p = some false) : BM p q := by
  refine ⟨(0, 2), ?_, ?_, fun h => absurd h (by decide)⟩
  · unfold impl_BernoulliModulo.f
    rw [h2]; rfl
  · unfold spec_BernoulliModulo.f
    rw [h1]; rfl
theorem noK (p q : Int) (hp : 3 ≤ p ∧ p ≤ 61) (h1 : spec_l06Prime.f 5000 p = some true) (h2 : impl_isPrime.f 5000 p = some true) (hq : ¬(2 ≤ q ∧ q ≤ p - 3 ∧ q % 2 = 0)) : BM p q := by
  have hw : wrap64 (p - 3) = p - 3 := by unfold wrap64; omega
  refine ⟨(0, 2), ?_, ?_, fun h => absurd h (by decide)⟩
  · unfold impl_BernoulliModulo.f
    rw [h2]
    simp only [Option.bind_some, if_true]
    rw [hw]
    unfold impl_within.f
    by_cases c1 : 2 ≤ q
    · rw [if_pos c1]
      simp only [Option.bind_some]
      by_cases c2 : q ≤ p - 3
      · rw [decide_eq_true c2, if_pos rfl]
        rw [if_neg (show ¬ Int.tmod q 2 = 0 by rw [Int.tmod_eq_emod_of_nonneg (by omega)]; omega)]
      · rw [decide_eq_false c2]; rfl
    · rw [if_neg c1]; rfl
  · unfold spec_BernoulliModulo.f
    rw [h1]
    simp only [Option.bind_some, if_true]
    rw [hw]
    unfold spec_l01In.f
    by_cases c1 : q ≥ 2
    · rw [if_pos c1]
      simp only [Option.bind_some]
      by_cases c2 : q ≤ p - 3
      · rw [decide_eq_true c2, if_pos rfl]
        rw [if_pos (show Int.tmod q 2 = 1 by rw [Int.tmod_eq_emod_of_nonneg (by omega)]; omega)]
      · rw [decide_eq_false c2]; rfl
    · rw [if_neg c1]; rfl
theorem yes (p q v : Int) (L : List Int) (hp : 3 ≤ p ∧ p ≤ 61) (h1 : spec_l06Prime.f 5000 p = some true) (hL : spec_l10Bernoulli.f 5000 p = some L) (hq : 2 ≤ q ∧ q ≤ p - 3 ∧ q % 2 = 0) (hl : q < (L.length : Int)) (hv : rd L q = v) (hi : impl_BernoulliModulo.f 5000 p q = some (v, 0)) (hj : q ≤ 20 → J3 p q v) : BM p q := by
  have hw : wrap64 (p - 3) = p - 3 := by unfold wrap64; omega
  refine ⟨(v, 0), hi, ?_, fun _ h => hj h⟩
  unfold spec_BernoulliModulo.f
  rw [h1]
  simp only [Option.bind_some, if_true]
  rw [hw]
  unfold spec_l01In.f
  rw [if_pos (show q ≥ 2 by omega)]
  simp only [Option.bind_some]
  rw [decide_eq_true (show q ≤ p - 3 by omega), if_pos rfl, if_neg (show ¬ Int.tmod q 2 = 1 by rw [Int.tmod_eq_emod_of_nonneg (by omega)]; omega), hL]
  simp only [Option.bind_some]
  rw [if_pos (by omega), if_pos hl, hv]
theorem j3_2 (p v : Int) (h : tst p v (1) 6 = true) : J3 p 2 v := by
  rintro k (rfl | rfl | rfl)
  · exact ⟨_, _, bof4995_2, h⟩
  · exact ⟨_, _, bof4996_2, h⟩
  · exact ⟨_, _, bof4997_2, h⟩
theorem j3_4 (p v : Int) (h : tst p v (-1) 30 = true) : J3 p 4 v := by
  rintro k (rfl | rfl | rfl)
  · exact ⟨_, _, bof4995_4, h⟩
  · exact ⟨_, _, bof4996_4, h⟩
  · exact ⟨_, _, bof4997_4, h⟩
theorem j3_6 (p v : Int) (h : tst p v (1) 42 = true) : J3 p 6 v := by
  rintro k (rfl | rfl | rfl)
  · exact ⟨_, _, bof4995_6, h⟩
  · exact ⟨_, _, bof4996_6, h⟩
  · exact ⟨_, _, bof4997_6, h⟩
theorem j3_8 (p v : Int) (h : tst p v (-1) 30 = true) : J3 p 8 v := by
  rintro k (rfl | rfl | rfl)
  · exact ⟨_, _, bof4995_8, h⟩
  · exact ⟨_, _, bof4996_8, h⟩
  · exact ⟨_, _, bof4997_8, h⟩
theorem j3_10 (p v : Int) (h : tst p v (5) 66 = true) : J3 p 10 v := by
  rintro k (rfl | rfl | rfl)
  · exact ⟨_, _, bof4995_10, h⟩
  · exact ⟨_, _, bof4996_10, h⟩
  · exact ⟨_, _, bof4997_10, h⟩
theorem j3_12 (p v : Int) (h : tst p v (-691) 2730 = true) : J3 p 12 v := by
  rintro k (rfl | rfl | rfl)
  · exact ⟨_, _, bof4995_12, h⟩
  · exact ⟨_, _, bof4996_12, h⟩
  · exact ⟨_, _, bof4997_12, h⟩
theorem j3_14 (p v : Int) (h : tst p v (7) 6 = true) : J3 p 14 v := by
  rintro k (rfl | rfl | rfl)
  · exact ⟨_, _, bof4995_14, h⟩
  · exact ⟨_, _, bof4996_14, h⟩
  · exact ⟨_, _, bof4997_14, h⟩
theorem j3_16 (p v : Int) (h : tst p v (-3617) 510 = true) : J3 p 16 v := by
  rintro k (rfl | rfl | rfl)
  · exact ⟨_, _, bof4995_16, h⟩
  · exact ⟨_, _, bof4996_16, h⟩
  · exact ⟨_, _, bof4997_16, h⟩
theorem j3_18 (p v : Int) (h : tst p v (43867) 798 = true) : J3 p 18 v := by
  rintro k (rfl | rfl | rfl)
  · exact ⟨_, _, bof4995_18, h⟩
  · exact ⟨_, _, bof4996_18, h⟩
  · exact ⟨_, _, bof4997_18, h⟩
theorem j3_20 (p v : Int) (h : tst p v (-174611) 330 = true) : J3 p 20 v := by
  rintro k (rfl | rfl | rfl)
  · exact ⟨_, _, bof4995_20, h⟩
  · exact ⟨_, _, bof4996_20, h⟩
  · exact ⟨_, _, bof4997_20, h⟩
theorem at3 (q : Int) : BM 3 q := by
  by_cases hq : (2 : Int) ≤ q ∧ q ≤ 3 - 3 ∧ q % 2 = 0
  · omega
  · exact noK _ _ (by decide) l06P3 isP3 hq
theorem at5 (q : Int) : BM 5 q := by
  by_cases hq : (2 : Int) ≤ q ∧ q ≤ 5 - 3 ∧ q % 2 = 0
  · have h : q = 2 := by omega
    rcases h with rfl
    · exact yes _ _ _ _ (by decide) l06P5 list5 (by decide) (by decide) rfl impl5_2 (fun _ => j3_2 _ _ (by decide +kernel))
  · exact noK _ _ (by decide) l06P5 isP5 hq
theorem at7 (q : Int) : BM 7 q := by
  by_cases hq : (2 : Int) ≤ q ∧ q ≤ 7 - 3 ∧ q % 2 = 0
  · have h : q = 2 ∨ q = 4 := by omega
    rcases h with rfl | rfl
    · exact yes _ _ _ _ (by decide) l06P7 list7 (by decide) (by decide) rfl impl7_2 (fun _ => j3_2 _ _ (by decide +kernel))
    · exact yes _ _ _ _ (by decide) l06P7 list7 (by decide) (by decide) rfl impl7_4 (fun _ => j3_4 _ _ (by decide +kernel))
  · exact noK _ _ (by decide) l06P7 isP7 hq
theorem at11 (q : Int) : BM 11 q := by
  by_cases hq : (2 : Int) ≤ q ∧ q ≤ 11 - 3 ∧ q % 2 = 0
  · have h : q = 2 ∨ q = 4 ∨ q = 6 ∨ q = 8 := by omega
    rcases h with rfl | rfl | rfl | rfl
    · exact yes _ _ _ _ (by decide) l06P11 list11 (by decide) (by decide) rfl impl11_2 (fun _ => j3_2 _ _ (by decide +kernel))
    · exact yes _ _ _ _ (by decide) l06P11 list11 (by decide) (by decide) rfl impl11_4 (fun _ => j3_4 _ _ (by decide +kernel))
    · exact yes _ _ _ _ (by decide) l06P11 list11 (by decide) (by decide) rfl impl11_6 (fun _ => j3_6 _ _ (by decide +kernel))
    · exact yes _ _ _ _ (by decide) l06P11 list11 (by decide) (by decide) rfl impl11_8 (fun _ => j3_8 _ _ (by decide +kernel))
  · exact noK _ _ (by decide) l06P11 isP11 hq
theorem at13 (q : Int) : BM 13 q := by
  by_cases hq : (2 : Int) ≤ q ∧ q ≤ 13 - 3 ∧ q % 2 = 0
  · have h : q = 2 ∨ q = 4 ∨ q = 6 ∨ q = 8 ∨ q = 10 := by omega
    rcases h with rfl | rfl | rfl | rfl | rfl
    · exact yes _ _ _ _ (by decide) l06P13 list13 (by decide) (by decide) rfl impl13_2 (fun _ => j3_2 _ _ (by decide +kernel))
    · exact yes _ _ _ _ (by decide) l06P13 list13 (by decide) (by decide) rfl impl13_4 (fun _ => j3_4 _ _ (by decide +kernel))
    · exact yes _ _ _ _ (by decide) l06P13 list13 (by decide) (by decide) rfl impl13_6 (fun _ => j3_6 _ _ (by decide +kernel))
    · exact yes _ _ _ _ (by decide) l06P13 list13 (by decide) (by decide) rfl impl13_8 (fun _ => j3_8 _ _ (by decide +kernel))
    · exact yes _ _ _ _ (by decide) l06P13 list13 (by decide) (by decide) rfl impl13_10 (fun _ => j3_10 _ _ (by decide +kernel))
  · exact noK _ _ (by decide) l06P13 isP13 hq
theorem at17 (q : Int) : BM 17 q := by
  by_cases hq : (2 : Int) ≤ q ∧ q ≤ 17 - 3 ∧ q % 2 = 0
  · have h : q = 2 ∨ q = 4 ∨ q = 6 ∨ q = 8 ∨ q = 10 ∨ q = 12 ∨ q = 14 := by omega
    rcases h with rfl | rfl | rfl | rfl | rfl | rfl | rfl
    · exact yes _ _ _ _ (by decide) l06P17 list17 (by decide) (by decide) rfl impl17_2 (fun _ => j3_2 _ _ (by decide +kernel))
    · exact yes _ _ _ _ (by decide) l06P17 list17 (by decide) (by decide) rfl impl17_4 (fun _ => j3_4 _ _ (by decide +kernel))
    · exact yes _ _ _ _ (by decide) l06P17 list17 (by decide) (by decide) rfl impl17_6 (fun _ => j3_6 _ _ (by decide +kernel))
    · exact yes _ _ _ _ (by decide) l06P17 list17 (by decide) (by decide) rfl impl17_8 (fun _ => j3_8 _ _ (by decide +kernel))
    · exact yes _ _ _ _ (by decide) l06P17 list17 (by decide) (by decide) rfl impl17_10 (fun _ => j3_10 _ _ (by decide +kernel))
    · exact yes _ _ _ _ (by decide) l06P17 list17 (by decide) (by decide) rfl impl17_12 (fun _ => j3_12 _ _ (by decide +kernel))
    · exact yes _ _ _ _ (by decide) l06P17 list17 (by decide) (by decide) rfl impl17_14 (fun _ => j3_14 _ _ (by decide +kernel))
  · exact noK _ _ (by decide) l06P17 isP17 hq
theorem at19 (q : Int) : BM 19 q := by
  by_cases hq : (2 : Int) ≤ q ∧ q ≤ 19 - 3 ∧ q % 2 = 0
  · have h : q = 2 ∨ q = 4 ∨ q = 6 ∨ q = 8 ∨ q = 10 ∨ q = 12 ∨ q = 14 ∨ q = 16 := by omega
    rcases h with rfl | rfl | rfl | rfl | rfl | rfl | rfl | rfl
    · exact yes _ _ _ _ (by decide) l06P19 list19 (by decide) (by decide) rfl impl19_2 (fun _ => j3_2 _ _ (by decide +kernel))
    · exact yes _ _ _ _ (by decide) l06P19 list19 (by decide) (by decide) rfl impl19_4 (fun _ => j3_4 _ _ (by decide +kernel))
    · exact yes _ _ _ _ (by decide) l06P19 list19 (by decide) (by decide) rfl impl19_6 (fun _ => j3_6 _ _ (by decide +kernel))
    · exact yes _ _ _ _ (by decide) l06P19 list19 (by decide) (by decide) rfl impl19_8 (fun _ => j3_8 _ _ (by decide +kernel))
    · exact yes _ _ _ _ (by decide) l06P19 list19 (by decide) (by decide) rfl impl19_10 (fun _ => j3_10 _ _ (by decide +kernel))
    · exact yes _ _ _ _ (by decide) l06P19 list19 (by decide) (by decide) rfl impl19_12 (fun _ => j3_12 _ _ (by decide +kernel))
    · exact yes _ _ _ _ (by decide) l06P19 list19 (by decide) (by decide) rfl impl19_14 (fun _ => j3_14 _ _ (by decide +kernel))
    · exact yes _ _ _ _ (by decide) l06P19 list19 (by decide) (by decide) rfl impl19_16 (fun _ => j3_16 _ _ (by decide +kernel))
  · exact noK _ _ (by decide) l06P19 isP19 hq
theorem at23 (q : Int) : BM 23 q := by
  by_cases hq : (2 : Int) ≤ q ∧ q ≤ 23 - 3 ∧ q % 2 = 0
  · have h : q = 2 ∨ q = 4 ∨ q = 6 ∨ q = 8 ∨ q = 10 ∨ q = 12 ∨ q = 14 ∨ q = 16 ∨ q = 18 ∨ q = 20 := by omega
    rcases h with rfl | rfl | rfl | rfl | rfl | rfl | rfl | rfl | rfl | rfl
    · exact yes _ _ _ _ (by decide) l06P23 list23 (by decide) (by decide) rfl impl23_2 (fun _ => j3_2 _ _ (by decide +kernel))
    · exact yes _ _ _ _ (by decide) l06P23 list23 (by decide) (by decide) rfl impl23_4 (fun _ => j3_4 _ _ (by decide +kernel))
    · exact yes _ _ _ _ (by decide) l06P23 list23 (by decide) (by decide) rfl impl23_6 (fun _ => j3_6 _ _ (by decide +kernel))
    · exact yes _ _ _ _ (by decide) l06P23 list23 (by decide) (by decide) rfl impl23_8 (fun _ => j3_8 _ _ (by decide +kernel))
    · exact yes _ _ _ _ (by decide) l06P23 list23 (by decide) (by decide) rfl impl23_10 (fun _ => j3_10 _ _ (by decide +kernel))
    · exact yes _ _ _ _ (by decide) l06P23 list23 (by decide) (by decide) rfl impl23_12 (fun _ => j3_12 _ _ (by decide +kernel))
    · exact yes _ _ _ _ (by decide) l06P23 list23 (by decide) (by decide) rfl impl23_14 (fun _ => j3_14 _ _ (by decide +kernel))
    · exact yes _ _ _ _ (by decide) l06P23 list23 (by decide) (by decide) rfl impl23_16 (fun _ => j3_16 _ _ (by decide +kernel))
    · exact yes _ _ _ _ (by decide) l06P23 list23 (by decide) (by decide) rfl impl23_18 (fun _ => j3_18 _ _ (by decide +kernel))
    · exact yes _ _ _ _ (by decide) l06P23 list23 (by decide) (by decide) rfl impl23_20 (fun _ => j3_20 _ _ (by decide +kernel))
  · exact noK _ _ (by decide) l06P23 isP23 hq
theorem at29 (q : Int) : BM 29 q := by
  by_cases hq : (2 : Int) ≤ q ∧ q ≤ 29 - 3 ∧ q % 2 = 0
  · have h : q = 2 ∨ q = 4 ∨ q = 6 ∨ q = 8 ∨ q = 10 ∨ q = 12 ∨ q = 14 ∨ q = 16 ∨ q = 18 ∨ q = 20 ∨ q = 22 ∨ q = 24 ∨ q = 26 := by omega
    rcases h with rfl | rfl | rfl | rfl | rfl | rfl | rfl | rfl | rfl | rfl | rfl | rfl | rfl
    · exact yes _ _ _ _ (by decide) l06P29 list29 (by decide) (by decide) rfl impl29_2 (fun _ => j3_2 _ _ (by decide +kernel))
    · exact yes _ _ _ _ (by decide) l06P29 list29 (by decide) (by decide) rfl impl29_4 (fun _ => j3_4 _ _ (by decide +kernel))
    · exact yes _ _ _ _ (by decide) l06P29 list29 (by decide) (by decide) rfl impl29_6 (fun _ => j3_6 _ _ (by decide +kernel))
    · exact yes _ _ _ _ (by decide) l06P29 list29 (by decide) (by decide) rfl impl29_8 (fun _ => j3_8 _ _ (by decide +kernel))
    · exact yes _ _ _ _ (by decide) l06P29 list29 (by decide) (by decide) rfl impl29_10 (fun _ => j3_10 _ _ (by decide +kernel))
    · exact yes _ _ _ _ (by decide) l06P29 list29 (by decide) (by decide) rfl impl29_12 (fun _ => j3_12 _ _ (by decide +kernel))
    · exact yes _ _ _ _ (by decide) l06P29 list29 (by decide) (by decide) rfl impl29_14 (fun _ => j3_14 _ _ (by decide +kernel))
    · exact yes _ _ _ _ (by decide) l06P29 list29 (by decide) (by decide) rfl impl29_16 (fun _ => j3_16 _ _ (by decide +kernel))
    · exact yes _ _ _ _ (by decide) l06P29 list29 (by decide) (by decide) rfl impl29_18 (fun _ => j3_18 _ _ (by decide +kernel))
    · exact yes _ _ _ _ (by decide) l06P29 list29 (by decide) (by decide) rfl impl29_20 (fun _ => j3_20 _ _ (by decide +kernel))
    · exact yes _ _ _ _ (by decide) l06P29 list29 (by decide) (by decide) rfl impl29_22 (fun h => absurd h (by decide))
    · exact yes _ _ _ _ (by decide) l06P29 list29 (by decide) (by decide) rfl impl29_24 (fun h => absurd h (by decide))
    · exact yes _ _ _ _ (by decide) l06P29 list29 (by decide) (by decide) rfl impl29_26 (fun h => absurd h (by decide))
  · exact noK _ _ (by decide) l06P29 isP29 hq
theorem at31 (q : Int) : BM 31 q := by
  by_cases hq : (2 : Int) ≤ q ∧ q ≤ 31 - 3 ∧ q % 2 = 0
  · have h : q = 2 ∨ q = 4 ∨ q = 6 ∨ q = 8 ∨ q = 10 ∨ q = 12 ∨ q = 14 ∨ q = 16 ∨ q = 18 ∨ q = 20 ∨ q = 22 ∨ q = 24 ∨ q = 26 ∨ q = 28 := by omega
    rcases h with rfl | rfl | rfl | rfl | rfl | rfl | rfl | rfl | rfl | rfl | rfl | rfl | rfl | rfl
    · exact yes _ _ _ _ (by decide) l06P31 list31 (by decide) (by decide) rfl impl31_2 (fun _ => j3_2 _ _ (by decide +kernel))
    · exact yes _ _ _ _ (by decide) l06P31 list31 (by decide) (by decide) rfl impl31_4 (fun _ => j3_4 _ _ (by decide +kernel))
    · exact yes _ _ _ _ (by decide) l06P31 list31 (by decide) (by decide) rfl impl31_6 (fun _ => j3_6 _ _ (by decide +kernel))
    · exact yes _ _ _ _ (by decide) l06P31 list31 (by decide) (by decide) rfl impl31_8 (fun _ => j3_8 _ _ (by decide +kernel))
    · exact yes _ _ _ _ (by decide) l06P31 list31 (by decide) (by decide) rfl impl31_10 (fun _ => j3_10 _ _ (by decide +kernel))
    · exact yes _ _ _ _ (by decide) l06P31 list31 (by decide) (by decide) rfl impl31_12 (fun _ => j3_12 _ _ (by decide +kernel))
    · exact yes _ _ _ _ (by decide) l06P31 list31 (by decide) (by decide) rfl impl31_14 (fun _ => j3_14 _ _ (by decide +kernel))
    · exact yes _ _ _ _ (by decide) l06P31 list31 (by decide) (by decide) rfl impl31_16 (fun _ => j3_16 _ _ (by decide +kernel))
    · exact yes _ _ _ _ (by decide) l06P31 list31 (by decide) (by decide) rfl impl31_18 (fun _ => j3_18 _ _ (by decide +kernel))
    · exact yes _ _ _ _ (by decide) l06P31 list31 (by decide) (by decide) rfl impl31_20 (fun _ => j3_20 _ _ (by decide +kernel))
    · exact yes _ _ _ _ (by decide) l06P31 list31 (by decide) (by decide) rfl impl31_22 (fun h => absurd h (by decide))
    · exact yes _ _ _ _ (by decide) l06P31 list31 (by decide) (by decide) rfl impl31_24 (fun h => absurd h (by decide))
    · exact yes _ _ _ _ (by decide) l06P31 list31 (by decide) (by decide) rfl impl31_26 (fun h => absurd h (by decide))
    · exact yes _ _ _ _ (by decide) l06P31 list31 (by decide) (by decide) rfl impl31_28 (fun h => absurd h (by decide))
  · exact noK _ _ (by decide) l06P31 isP31 hq
theorem at37 (q : Int) : BM 37 q := by
  by_cases hq : (2 : Int) ≤ q ∧ q ≤ 37 - 3 ∧ q % 2 = 0
  · have h : q = 2 ∨ q = 4 ∨ q = 6 ∨ q = 8 ∨ q = 10 ∨ q = 12 ∨ q = 14 ∨ q = 16 ∨ q = 18 ∨ q = 20 ∨ q = 22 ∨ q = 24 ∨ q = 26 ∨ q = 28 ∨ q = 30 ∨ q = 32 ∨ q = 34 := by omega
    rcases h with rfl | rfl | rfl | rfl | rfl | rfl | rfl | rfl | rfl | rfl | rfl | rfl | rfl | rfl | rfl | rfl | rfl
    · exact yes _ _ _ _ (by decide) l06P37 list37 (by decide) (by decide) rfl impl37_2 (fun _ => j3_2 _ _ (by decide +kernel))
    · exact yes _ _ _ _ (by decide) l06P37 list37 (by decide) (by decide) rfl impl37_4 (fun _ => j3_4 _ _ (by decide +kernel))
    · exact yes _ _ _ _ (by decide) l06P37 list37 (by decide) (by decide) rfl impl37_6 (fun _ => j3_6 _ _ (by decide +kernel))
    · exact yes _ _ _ _ (by decide) l06P37 list37 (by decide) (by decide) rfl impl37_8 (fun _ => j3_8 _ _ (by decide +kernel))
    · exact yes _ _ _ _ (by decide) l06P37 list37 (by decide) (by decide) rfl impl37_10 (fun _ => j3_10 _ _ (by decide +kernel))
    · exact yes _ _ _ _ (by decide) l06P37 list37 (by decide) (by decide) rfl impl37_12 (fun _ => j3_12 _ _ (by decide +kernel))
    · exact yes _ _ _ _ (by decide) l06P37 list37 (by decide) (by decide) rfl impl37_14 (fun _ => j3_14 _ _ (by decide +kernel))
    · exact yes _ _ _ _ (by decide) l06P37 list37 (by decide) (by decide) rfl impl37_16 (fun _ => j3_16 _ _ (by decide +kernel))
    · exact yes _ _ _ _ (by decide) l06P37 list37 (by decide) (by decide) rfl impl37_18 (fun _ => j3_18 _ _ (by decide +kernel))
    · exact yes _ _ _ _ (by decide) l06P37 list37 (by decide) (by decide) rfl impl37_20 (fun _ => j3_20 _ _ (by decide +kernel))
    · exact yes _ _ _ _ (by decide) l06P37 list37 (by decide) (by decide) rfl impl37_22 (fun h => absurd h (by decide))
    · exact yes _ _ _ _ (by decide) l06P37 list37 (by decide) (by decide) rfl impl37_24 (fun h => absurd h (by decide))
    · exact yes _ _ _ _ (by decide) l06P37 list37 (by decide) (by decide) rfl impl37_26 (fun h => absurd h (by decide))
    · exact yes _ _ _ _ (by decide) l06P37 list37 (by decide) (by decide) rfl impl37_28 (fun h => absurd h (by decide))
    · exact yes _ _ _ _ (by decide) l06P37 list37 (by decide) (by decide) rfl impl37_30 (fun h => absurd h (by decide))
    · exact yes _ _ _ _ (by decide) l06P37 list37 (by decide) (by decide) rfl impl37_32 (fun h => absurd h (by decide))
    · exact yes _ _ _ _ (by decide) l06P37 list37 (by decide) (by decide) rfl impl37_34 (fun h => absurd h (by decide))
  · exact noK _ _ (by decide) l06P37 isP37 hq
theorem at41 (q : Int) : BM 41 q := by
  by_cases hq : (2 : Int) ≤ q ∧ q ≤ 41 - 3 ∧ q % 2 = 0
  · have h : q = 2 ∨ q = 4 ∨ q = 6 ∨ q = 8 ∨ q = 10 ∨ q = 12 ∨ q = 14 ∨ q = 16 ∨ q = 18 ∨ q = 20 ∨ q = 22 ∨ q = 24 ∨ q = 26 ∨ q = 28 ∨ q = 30 ∨ q = 32 ∨ q = 34 ∨ q = 36 ∨ q = 38 := by omega
    rcases h with rfl | rfl | rfl | rfl | rfl | rfl | rfl | rfl | rfl | rfl | rfl | rfl | rfl | rfl | rfl | rfl | rfl | rfl | rfl
    · exact yes _ _ _ _ (by decide) l06P41 list41 (by decide) (by decide) rfl impl41_2 (fun _ => j3_2 _ _ (by decide +kernel))
    · exact yes _ _ _ _ (by decide) l06P41 list41 (by decide) (by decide) rfl impl41_4 (fun _ => j3_4 _ _ (by decide +kernel))
    · exact yes _ _ _ _ (by decide) l06P41 list41 (by decide) (by decide) rfl impl41_6 (fun _ => j3_6 _ _ (by decide +kernel))
    · exact yes _ _ _ _ (by decide) l06P41 list41 (by decide) (by decide) rfl impl41_8 (fun _ => j3_8 _ _ (by decide +kernel))
    · exact yes _ _ _ _ (by decide) l06P41 list41 (by decide) (by decide) rfl impl41_10 (fun _ => j3_10 _ _ (by decide +kernel))
    · exact yes _ _ _ _ (by decide) l06P41 list41 (by decide) (by decide) rfl impl41_12 (fun _ => j3_12 _ _ (by decide +kernel))
    · exact yes _ _ _ _ (by decide) l06P41 list41 (by decide) (by decide) rfl impl41_14 (fun _ => j3_14 _ _ (by decide +kernel))
    · exact yes _ _ _ _ (by decide) l06P41 list41 (by decide) (by decide) rfl impl41_16 (fun _ => j3_16 _ _ (by decide +kernel))
    · exact yes _ _ _ _ (by decide) l06P41 list41 (by decide) (by decide) rfl impl41_18 (fun _ => j3_18 _ _ (by decide +kernel))
    · exact yes _ _ _ _ (by decide) l06P41 list41 (by decide) (by decide) rfl impl41_20 (fun _ => j3_20 _ _ (by decide +kernel))
    · exact yes _ _ _ _ (by decide) l06P41 list41 (by decide) (by decide) rfl impl41_22 (fun h => absurd h (by decide))
    · exact yes _ _ _ _ (by decide) l06P41 list41 (by decide) (by decide) rfl impl41_24 (fun h => absurd h (by decide))
    · exact yes _ _ _ _ (by decide) l06P41 list41 (by decide) (by decide) rfl impl41_26 (fun h => absurd h (by decide))
    · exact yes _ _ _ _ (by decide) l06P41 list41 (by decide) (by decide) rfl impl41_28 (fun h => absurd h (by decide))
    · exact yes _ _ _ _ (by decide) l06P41 list41 (by decide) (by decide) rfl impl41_30 (fun h => absurd h (by decide))
    · exact yes _ _ _ _ (by decide) l06P41 list41 (by decide) (by decide) rfl impl41_32 (fun h => absurd h (by decide))
    · exact yes _ _ _ _ (by decide) l06P41 list41 (by decide) (by decide) rfl impl41_34 (fun h => absurd h (by decide))
    · exact yes _ _ _ _ (by decide) l06P41 list41 (by decide) (by decide) rfl impl41_36 (fun h => absurd h (by decide))
    · exact yes _ _ _ _ (by decide) l06P41 list41 (by decide) (by decide) rfl impl41_38 (fun h => absurd h (by decide))
  · exact noK _ _ (by decide) l06P41 isP41 hq
theorem at43 (q : Int) : BM 43 q := by
  by_cases hq : (2 : Int) ≤ q ∧ q ≤ 43 - 3 ∧ q % 2 = 0
  · have h : q = 2 ∨ q = 4 ∨ q = 6 ∨ q = 8 ∨ q = 10 ∨ q = 12 ∨ q = 14 ∨ q = 16 ∨ q = 18 ∨ q = 20 ∨ q = 22 ∨ q = 24 ∨ q = 26 ∨ q = 28 ∨ q = 30 ∨ q = 32 ∨ q = 34 ∨ q = 36 ∨ q = 38 ∨ q = 40 := by omega
    rcases h with rfl | rfl | rfl | rfl | rfl | rfl | rfl | rfl | rfl | rfl | rfl | rfl | rfl | rfl | rfl | rfl | rfl | rfl | rfl | rfl
    · exact yes _ _ _ _ (by decide) l06P43 list43 (by decide) (by decide) rfl impl43_2 (fun _ => j3_2 _ _ (by decide +kernel))
    · exact yes _ _ _ _ (by decide) l06P43 list43 (by decide) (by decide) rfl impl43_4 (fun _ => j3_4 _ _ (by decide +kernel))
    · exact yes _ _ _ _ (by decide) l06P43 list43 (by decide) (by decide) rfl impl43_6 (fun _ => j3_6 _ _ (by decide +kernel))
    · exact yes _ _ _ _ (by decide) l06P43 list43 (by decide) (by decide) rfl impl43_8 (fun _ => j3_8 _ _ (by decide +kernel))
    · exact yes _ _ _ _ (by decide) l06P43 list43 (by decide) (by decide) rfl impl43_10 (fun _ => j3_10 _ _ (by decide +kernel))
    · exact yes _ _ _ _ (by decide) l06P43 list43 (by decide) (by decide) rfl impl43_12 (fun _ => j3_12 _ _ (by decide +kernel))
    · exact yes _ _ _ _ (by decide) l06P43 list43 (by decide) (by decide) rfl impl43_14 (fun _ => j3_14 _ _ (by decide +kernel))
    · exact yes _ _ _ _ (by decide) l06P43 list43 (by decide) (by decide) rfl impl43_16 (fun _ => j3_16 _ _ (by decide +kernel))
    · exact yes _ _ _ _ (by decide) l06P43 list43 (by decide) (by decide) rfl impl43_18 (fun _ => j3_18 _ _ (by decide +kernel))
    · exact yes _ _ _ _ (by decide) l06P43 list43 (by decide) (by decide) rfl impl43_20 (fun _ => j3_20 _ _ (by decide +kernel))
    · exact yes _ _ _ _ (by decide) l06P43 list43 (by decide) (by decide) rfl impl43_22 (fun h => absurd h (by decide))
    · exact yes _ _ _ _ (by decide) l06P43 list43 (by decide) (by decide) rfl impl43_24 (fun h => absurd h (by decide))
    · exact yes _ _ _ _ (by decide) l06P43 list43 (by decide) (by decide) rfl impl43_26 (fun h => absurd h (by decide))
    · exact yes _ _ _ _ (by decide) l06P43 list43 (by decide) (by decide) rfl impl43_28 (fun h => absurd h (by decide))
    · exact yes _ _ _ _ (by decide) l06P43 list43 (by decide) (by decide) rfl impl43_30 (fun h => absurd h (by decide))
    · exact yes _ _ _ _ (by decide) l06P43 list43 (by decide) (by decide) rfl impl43_32 (fun h => absurd h (by decide))
    · exact yes _ _ _ _ (by decide) l06P43 list43 (by decide) (by decide) rfl impl43_34 (fun h => absurd h (by decide))
    · exact yes _ _ _ _ (by decide) l06P43 list43 (by decide) (by decide) rfl impl43_36 (fun h => absurd h (by decide))
    · exact yes _ _ _ _ (by decide) l06P43 list43 (by decide) (by decide) rfl impl43_38 (fun h => absurd h (by decide))
    · exact yes _ _ _ _ (by decide) l06P43 list43 (by decide) (by decide) rfl impl43_40 (fun h => absurd h (by decide))
  · exact noK _ _ (by decide) l06P43 isP43 hq
theorem at47 (q : Int) : BM 47 q := by
  by_cases hq : (2 : Int) ≤ q ∧ q ≤ 47 - 3 ∧ q % 2 = 0
  · have h : q = 2 ∨ q = 4 ∨ q = 6 ∨ q = 8 ∨ q = 10 ∨ q = 12 ∨ q = 14 ∨ q = 16 ∨ q = 18 ∨ q = 20 ∨ q = 22 ∨ q = 24 ∨ q = 26 ∨ q = 28 ∨ q = 30 ∨ q = 32 ∨ q = 34 ∨ q = 36 ∨ q = 38 ∨ q = 40 ∨ q = 42 ∨ q = 44 := by omega
    rcases h with rfl | rfl | rfl | rfl | rfl | rfl | rfl | rfl | rfl | rfl | rfl | rfl | rfl | rfl | rfl | rfl | rfl | rfl | rfl | rfl | rfl | rfl
    · exact yes _ _ _ _ (by decide) l06P47 list47 (by decide) (by decide) rfl impl47_2 (fun _ => j3_2 _ _ (by decide +kernel))
    · exact yes _ _ _ _ (by decide) l06P47 list47 (by decide) (by decide) rfl impl47_4 (fun _ => j3_4 _ _ (by decide +kernel))
    · exact yes _ _ _ _ (by decide) l06P47 list47 (by decide) (by decide) rfl impl47_6 (fun _ => j3_6 _ _ (by decide +kernel))
    · exact yes _ _ _ _ (by decide) l06P47 list47 (by decide) (by decide) rfl impl47_8 (fun _ => j3_8 _ _ (by decide +kernel))
    · exact yes _ _ _ _ (by decide) l06P47 list47 (by decide) (by decide) rfl impl47_10 (fun _ => j3_10 _ _ (by decide +kernel))
    · exact yes _ _ _ _ (by decide) l06P47 list47 (by decide) (by decide) rfl impl47_12 (fun _ => j3_12 _ _ (by decide +kernel))
    · exact yes _ _ _ _ (by decide) l06P47 list47 (by decide) (by decide) rfl impl47_14 (fun _ => j3_14 _ _ (by decide +kernel))
    · exact yes _ _ _ _ (by decide) l06P47 list47 (by decide) (by decide) rfl impl47_16 (fun _ => j3_16 _ _ (by decide +kernel))
    · exact yes _ _ _ _ (by decide) l06P47 list47 (by decide) (by decide) rfl impl47_18 (fun _ => j3_18 _ _ (by decide +kernel))
    · exact yes _ _ _ _ (by decide) l06P47 list47 (by decide) (by decide) rfl impl47_20 (fun _ => j3_20 _ _ (by decide +kernel))
    · exact yes _ _ _ _ (by decide) l06P47 list47 (by decide) (by decide) rfl impl47_22 (fun h => absurd h (by decide))
    · exact yes _ _ _ _ (by decide) l06P47 list47 (by decide) (by decide) rfl impl47_24 (fun h => absurd h (by decide))
    · exact yes _ _ _ _ (by decide) l06P47 list47 (by decide) (by decide) rfl impl47_26 (fun h => absurd h (by decide))
    · exact yes _ _ _ _ (by decide) l06P47 list47 (by decide) (by decide) rfl impl47_28 (fun h => absurd h (by decide))
    · exact yes _ _ _ _ (by decide) l06P47 list47 (by decide) (by decide) rfl impl47_30 (fun h => absurd h (by decide))
    · exact yes _ _ _ _ (by decide) l06P47 list47 (by decide) (by decide) rfl impl47_32 (fun h => absurd h (by decide))
    · exact yes _ _ _ _ (by decide) l06P47 list47 (by decide) (by decide) rfl impl47_34 (fun h => absurd h (by decide))
    · exact yes _ _ _ _ (by decide) l06P47 list47 (by decide) (by decide) rfl impl47_36 (fun h => absurd h (by decide))
    · exact yes _ _ _ _ (by decide) l06P47 list47 (by decide) (by decide) rfl impl47_38 (fun h => absurd h (by decide))
    · exact yes _ _ _ _ (by decide) l06P47 list47 (by decide) (by decide) rfl impl47_40 (fun h => absurd h (by decide))
    · exact yes _ _ _ _ (by decide) l06P47 list47 (by decide) (by decide) rfl impl47_42 (fun h => absurd h (by decide))
    · exact yes _ _ _ _ (by decide) l06P47 list47 (by decide) (by decide) rfl impl47_44 (fun h => absurd h (by decide))
  · exact noK _ _ (by decide) l06P47 isP47 hq
theorem at53 (q : Int) : BM 53 q := by
  by_cases hq : (2 : Int) ≤ q ∧ q ≤ 53 - 3 ∧ q % 2 = 0
  · have h : q = 2 ∨ q = 4 ∨ q = 6 ∨ q = 8 ∨ q = 10 ∨ q = 12 ∨ q = 14 ∨ q = 16 ∨ q = 18 ∨ q = 20 ∨ q = 22 ∨ q = 24 ∨ q = 26 ∨ q = 28 ∨ q = 30 ∨ q = 32 ∨ q = 34 ∨ q = 36 ∨ q = 38 ∨ q = 40 ∨ q = 42 ∨ q = 44 ∨ q = 46 ∨ q = 48 ∨ q = 50 := by omega
    rcases h with rfl | rfl | rfl | rfl | rfl | rfl | rfl | rfl | rfl | rfl | rfl | rfl | rfl | rfl | rfl | rfl | rfl | rfl | rfl | rfl | rfl | rfl | rfl | rfl | rfl
    · exact yes _ _ _ _ (by decide) l06P53 list53 (by decide) (by decide) rfl impl53_2 (fun _ => j3_2 _ _ (by decide +kernel))
    · exact yes _ _ _ _ (by decide) l06P53 list53 (by decide) (by decide) rfl impl53_4 (fun _ => j3_4 _ _ (by decide +kernel))
    · exact yes _ _ _ _ (by decide) l06P53 list53 (by decide) (by decide) rfl impl53_6 (fun _ => j3_6 _ _ (by decide +kernel))
    · exact yes _ _ _ _ (by decide) l06P53 list53 (by decide) (by decide) rfl impl53_8 (fun _ => j3_8 _ _ (by decide +kernel))
    · exact yes _ _ _ _ (by decide) l06P53 list53 (by decide) (by decide) rfl impl53_10 (fun _ => j3_10 _ _ (by decide +kernel))
    · exact yes _ _ _ _ (by decide) l06P53 list53 (by decide) (by decide) rfl impl53_12 (fun _ => j3_12 _ _ (by decide +kernel))
    · exact yes _ _ _ _ (by decide) l06P53 list53 (by decide) (by decide) rfl impl53_14 (fun _ => j3_14 _ _ (by decide +kernel))
    · exact yes _ _ _ _ (by decide) l06P53 list53 (by decide) (by decide) rfl impl53_16 (fun _ => j3_16 _ _ (by decide +kernel))
    · exact yes _ _ _ _ (by decide) l06P53 list53 (by decide) (by decide) rfl impl53_18 (fun _ => j3_18 _ _ (by decide +kernel))
    · exact yes _ _ _ _ (by decide) l06P53 list53 (by decide) (by decide) rfl impl53_20 (fun _ => j3_20 _ _ (by decide +kernel))
    · exact yes _ _ _ _ (by decide) l06P53 list53 (by decide) (by decide) rfl impl53_22 (fun h => absurd h (by decide))
    · exact yes _ _ _ _ (by decide) l06P53 list53 (by decide) (by decide) rfl impl53_24 (fun h => absurd h (by decide))
    · exact yes _ _ _ _ (by decide) l06P53 list53 (by decide) (by decide) rfl impl53_26 (fun h => absurd h (by decide))
    · exact yes _ _ _ _ (by decide) l06P53 list53 (by decide) (by decide) rfl impl53_28 (fun h => absurd h (by decide))
    · exact yes _ _ _ _ (by decide) l06P53 list53 (by decide) (by decide) rfl impl53_30 (fun h => absurd h (by decide))
    · exact yes _ _ _ _ (by decide) l06P53 list53 (by decide) (by decide) rfl impl53_32 (fun h => absurd h (by decide))
    · exact yes _ _ _ _ (by decide) l06P53 list53 (by decide) (by decide) rfl impl53_34 (fun h => absurd h (by decide))
    · exact yes _ _ _ _ (by decide) l06P53 list53 (by decide) (by decide) rfl impl53_36 (fun h => absurd h (by decide))
    · exact yes _ _ _ _ (by decide) l06P53 list53 (by decide) (by decide) rfl impl53_38 (fun h => absurd h (by decide))
    · exact yes _ _ _ _ (by decide) l06P53 list53 (by decide) (by decide) rfl impl53_40 (fun h => absurd h (by decide))
    · exact yes _ _ _ _ (by decide) l06P53 list53 (by decide) (by decide) rfl impl53_42 (fun h => absurd h (by decide))
    · exact yes _ _ _ _ (by decide) l06P53 list53 (by decide) (by decide) rfl impl53_44 (fun h => absurd h (by decide))
    · exact yes _ _ _ _ (by decide) l06P53 list53 (by decide) (by decide) rfl impl53_46 (fun h => absurd h (by decide))
    · exact yes _ _ _ _ (by decide) l06P53 list53 (by decide) (by decide) rfl impl53_48 (fun h => absurd h (by decide))
    · exact yes _ _ _ _ (by decide) l06P53 list53 (by decide) (by decide) rfl impl53_50 (fun h => absurd h (by decide))
  · exact noK _ _ (by decide) l06P53 isP53 hq
theorem at59 (q : Int) : BM 59 q := by
  by_cases hq : (2 : Int) ≤ q ∧ q ≤ 59 - 3 ∧ q % 2 = 0
  · have h : q = 2 ∨ q = 4 ∨ q = 6 ∨ q = 8 ∨ q = 10 ∨ q = 12 ∨ q = 14 ∨ q = 16 ∨ q = 18 ∨ q = 20 ∨ q = 22 ∨ q = 24 ∨ q = 26 ∨ q = 28 ∨ q = 30 ∨ q = 32 ∨ q = 34 ∨ q = 36 ∨ q = 38 ∨ q = 40 ∨ q = 42 ∨ q = 44 ∨ q = 46 ∨ q = 48 ∨ q = 50 ∨ q = 52 ∨ q = 54 ∨ q = 56 := by omega
    rcases h with rfl | rfl | rfl | rfl | rfl | rfl | rfl | rfl | rfl | rfl | rfl | rfl | rfl | rfl | rfl | rfl | rfl | rfl | rfl | rfl | rfl | rfl | rfl | rfl | rfl | rfl | rfl | rfl
    · exact yes _ _ _ _ (by decide) l06P59 list59 (by decide) (by decide) rfl impl59_2 (fun _ => j3_2 _ _ (by decide +kernel))
    · exact yes _ _ _ _ (by decide) l06P59 list59 (by decide) (by decide) rfl impl59_4 (fun _ => j3_4 _ _ (by decide +kernel))
    · exact yes _ _ _ _ (by decide) l06P59 list59 (by decide) (by decide) rfl impl59_6 (fun _ => j3_6 _ _ (by decide +kernel))
    · exact yes _ _ _ _ (by decide) l06P59 list59 (by decide) (by decide) rfl impl59_8 (fun _ => j3_8 _ _ (by decide +kernel))
    · exact yes _ _ _ _ (by decide) l06P59 list59 (by decide) (by decide) rfl impl59_10 (fun _ => j3_10 _ _ (by decide +kernel))
    · exact yes _ _ _ _ (by decide) l06P59 list59 (by decide) (by decide) rfl impl59_12 (fun _ => j3_12 _ _ (by decide +kernel))
    · exact yes _ _ _ _ (by decide) l06P59 list59 (by decide) (by decide) rfl impl59_14 (fun _ => j3_14 _ _ (by decide +kernel))
    · exact yes _ _ _ _ (by decide) l06P59 list59 (by decide) (by decide) rfl impl59_16 (fun _ => j3_16 _ _ (by decide +kernel))
    · exact yes _ _ _ _ (by decide) l06P59 list59 (by decide) (by decide) rfl impl59_18 (fun _ => j3_18 _ _ (by decide +kernel))
    · exact yes _ _ _ _ (by decide) l06P59 list59 (by decide) (by decide) rfl impl59_20 (fun _ => j3_20 _ _ (by decide +kernel))
    · exact yes _ _ _ _ (by decide) l06P59 list59 (by decide) (by decide) rfl impl59_22 (fun h => absurd h (by decide))
    · exact yes _ _ _ _ (by decide) l06P59 list59 (by decide) (by decide) rfl impl59_24 (fun h => absurd h (by decide))
    · exact yes _ _ _ _ (by decide) l06P59 list59 (by decide) (by decide) rfl impl59_26 (fun h => absurd h (by decide))
    · exact yes _ _ _ _ (by decide) l06P59 list59 (by decide) (by decide) rfl impl59_28 (fun h => absurd h (by decide))
    · exact yes _ _ _ _ (by decide) l06P59 list59 (by decide) (by decide) rfl impl59_30 (fun h => absurd h (by decide))
    · exact yes _ _ _ _ (by decide) l06P59 list59 (by decide) (by decide) rfl impl59_32 (fun h => absurd h (by decide))
    · exact yes _ _ _ _ (by decide) l06P59 list59 (by decide) (by decide) rfl impl59_34 (fun h => absurd h (by decide))
    · exact yes _ _ _ _ (by decide) l06P59 list59 (by decide) (by decide) rfl impl59_36 (fun h => absurd h (by decide))
    · exact yes _ _ _ _ (by decide) l06P59 list59 (by decide) (by decide) rfl impl59_38 (fun h => absurd h (by decide))
    · exact yes _ _ _ _ (by decide) l06P59 list59 (by decide) (by decide) rfl impl59_40 (fun h => absurd h (by decide))
    · exact yes _ _ _ _ (by decide) l06P59 list59 (by decide) (by decide) rfl impl59_42 (fun h => absurd h (by decide))
    · exact yes _ _ _ _ (by decide) l06P59 list59 (by decide) (by decide) rfl impl59_44 (fun h => absurd h (by decide))
    · exact yes _ _ _ _ (by decide) l06P59 list59 (by decide) (by decide) rfl impl59_46 (fun h => absurd h (by decide))
    · exact yes _ _ _ _ (by decide) l06P59 list59 (by decide) (by decide) rfl impl59_48 (fun h => absurd h (by decide))
    · exact yes _ _ _ _ (by decide) l06P59 list59 (by decide) (by decide) rfl impl59_50 (fun h => absurd h (by decide))
    · exact yes _ _ _ _ (by decide) l06P59 list59 (by decide) (by decide) rfl impl59_52 (fun h => absurd h (by decide))
    · exact yes _ _ _ _ (by decide) l06P59 list59 (by decide) (by decide) rfl impl59_54 (fun h => absurd h (by decide))
    · exact yes _ _ _ _ (by decide) l06P59 list59 (by decide) (by decide) rfl impl59_56 (fun h => absurd h (by decide))
  · exact noK _ _ (by decide) l06P59 isP59 hq
theorem at61 (q : Int) : BM 61 q := by
  by_cases hq : (2 : Int) ≤ q ∧ q ≤ 61 - 3 ∧ q % 2 = 0
  · have h : q = 2 ∨ q = 4 ∨ q = 6 ∨ q = 8 ∨ q = 10 ∨ q = 12 ∨ q = 14 ∨ q = 16 ∨ q = 18 ∨ q = 20 ∨ q = 22 ∨ q = 24 ∨ q = 26 ∨ q = 28 ∨ q = 30 ∨ q = 32 ∨ q = 34 ∨ q = 36 ∨ q = 38 ∨ q = 40 ∨ q = 42 ∨ q = 44 ∨ q = 46 ∨ q = 48 ∨ q = 50 ∨ q = 52 ∨ q = 54 ∨ q = 56 ∨ q = 58 := by omega
    rcases h with rfl | rfl | rfl | rfl | rfl | rfl | rfl | rfl | rfl | rfl | rfl | rfl | rfl | rfl | rfl | rfl | rfl | rfl | rfl | rfl | rfl | rfl | rfl | rfl | rfl | rfl | rfl | rfl | rfl
    · exact yes _ _ _ _ (by decide) l06P61 list61 (by decide) (by decide) rfl impl61_2 (fun _ => j3_2 _ _ (by decide +kernel))
    · exact yes _ _ _ _ (by decide) l06P61 list61 (by decide) (by decide) rfl impl61_4 (fun _ => j3_4 _ _ (by decide +kernel))
    · exact yes _ _ _ _ (by decide) l06P61 list61 (by decide) (by decide) rfl impl61_6 (fun _ => j3_6 _ _ (by decide +kernel))
    · exact yes _ _ _ _ (by decide) l06P61 list61 (by decide) (by decide) rfl impl61_8 (fun _ => j3_8 _ _ (by decide +kernel))
    · exact yes _ _ _ _ (by decide) l06P61 list61 (by decide) (by decide) rfl impl61_10 (fun _ => j3_10 _ _ (by decide +kernel))
    · exact yes _ _ _ _ (by decide) l06P61 list61 (by decide) (by decide) rfl impl61_12 (fun _ => j3_12 _ _ (by decide +kernel))
    · exact yes _ _ _ _ (by decide) l06P61 list61 (by decide) (by decide) rfl impl61_14 (fun _ => j3_14 _ _ (by decide +kernel))
    · exact yes _ _ _ _ (by decide) l06P61 list61 (by decide) (by decide) rfl impl61_16 (fun _ => j3_16 _ _ (by decide +kernel))
    · exact yes _ _ _ _ (by decide) l06P61 list61 (by decide) (by decide) rfl impl61_18 (fun _ => j3_18 _ _ (by decide +kernel))
    · exact yes _ _ _ _ (by decide) l06P61 list61 (by decide) (by decide) rfl impl61_20 (fun _ => j3_20 _ _ (by decide +kernel))
    · exact yes _ _ _ _ (by decide) l06P61 list61 (by decide) (by decide) rfl impl61_22 (fun h => absurd h (by decide))
    · exact yes _ _ _ _ (by decide) l06P61 list61 (by decide) (by decide) rfl impl61_24 (fun h => absurd h (by decide))
    · exact yes _ _ _ _ (by decide) l06P61 list61 (by decide) (by decide) rfl impl61_26 (fun h => absurd h (by decide))
    · exact yes _ _ _ _ (by decide) l06P61 list61 (by decide) (by decide) rfl impl61_28 (fun h => absurd h (by decide))
    · exact yes _ _ _ _ (by decide) l06P61 list61 (by decide) (by decide) rfl impl61_30 (fun h => absurd h (by decide))
    · exact yes _ _ _ _ (by decide) l06P61 list61 (by decide) (by decide) rfl impl61_32 (fun h => absurd h (by decide))
    · exact yes _ _ _ _ (by decide) l06P61 list61 (by decide) (by decide) rfl impl61_34 (fun h => absurd h (by decide))
    · exact yes _ _ _ _ (by decide) l06P61 list61 (by decide) (by decide) rfl impl61_36 (fun h => absurd h (by decide))
    · exact yes _ _ _ _ (by decide) l06P61 list61 (by decide) (by decide) rfl impl61_38 (fun h => absurd h (by decide))
    · exact yes _ _ _ _ (by decide) l06P61 list61 (by decide) (by decide) rfl impl61_40 (fun h => absurd h (by decide))
    · exact yes _ _ _ _ (by decide) l06P61 list61 (by decide) (by decide) rfl impl61_42 (fun h => absurd h (by decide))
    · exact yes _ _ _ _ (by decide) l06P61 list61 (by decide) (by decide) rfl impl61_44 (fun h => absurd h (by decide))
    · exact yes _ _ _ _ (by decide) l06P61 list61 (by decide) (by decide) rfl impl61_46 (fun h => absurd h (by decide))
    · exact yes _ _ _ _ (by decide) l06P61 list61 (by decide) (by decide) rfl impl61_48 (fun h => absurd h (by decide))
    · exact yes _ _ _ _ (by decide) l06P61 list61 (by decide) (by decide) rfl impl61_50 (fun h => absurd h (by decide))
    · exact yes _ _ _ _ (by decide) l06P61 list61 (by decide) (by decide) rfl impl61_52 (fun h => absurd h (by decide))
    · exact yes _ _ _ _ (by decide) l06P61 list61 (by decide) (by decide) rfl impl61_54 (fun h => absurd h (by decide))
    · exact yes _ _ _ _ (by decide) l06P61 list61 (by decide) (by decide) rfl impl61_56 (fun h => absurd h (by decide))
    · exact yes _ _ _ _ (by decide) l06P61 list61 (by decide) (by decide) rfl impl61_58 (fun h => absurd h (by decide))
  · exact noK _ _ (by decide) l06P61 isP61 hq
theorem allB (p q : Int) (hp : p ∈ primesL) : BM p q := by
  simp only [primesL, List.mem_cons, List.not_mem_nil, or_false] at hp
  rcases hp with rfl | rfl | rfl | rfl | rfl | rfl | rfl | rfl | rfl | rfl | rfl | rfl | rfl | rfl | rfl | rfl | rfl | rfl | rfl | rfl
  · exact noPrime _ _ l06P2 isP2
  · exact noPrime _ _ l06P15 isP15
  · exact noPrime _ _ l06P67 isP67
  · exact at3 q
  · exact at5 q
  · exact at7 q
  · exact at11 q
  · exact at13 q
  · exact at17 q
  · exact at19 q
  · exact at23 q
  · exact at29 q
  · exact at31 q
  · exact at37 q
  · exact at41 q
  · exact at43 q
  · exact at47 q
  · exact at53 q
  · exact at59 q
  · exact at61 q
theorem allC (q : Int) (hq : q ∈ primesL) : chkC q = true := by
  simp only [primesL, List.mem_cons, List.not_mem_nil, or_false] at hq
  rcases hq with rfl | rfl | rfl | rfl | rfl | rfl | rfl | rfl | rfl | rfl | rfl | rfl | rfl | rfl | rfl | rfl | rfl | rfl | rfl | rfl
  · exact irr2
  · exact irr15
  · exact irr67
  · exact irr3
  · exact irr5
  · exact irr7
  · exact irr11
  · exact irr13
  · exact irr17
  · exact irr19
  · exact irr23
  · exact irr29
  · exact irr31
  · exact irr37
  · exact irr41
  · exact irr43
  · exact irr47
  · exact irr53
  · exact irr59
  · exact irr61
theorem allD (n : Int) (a : Nat) (hn : n ∈ ordersL) (ha : (a : Int) < n + 2) : chkD n a = true := by
  simp only [ordersL, List.mem_cons, List.not_mem_nil, or_false] at hn
  rcases hn with rfl | rfl | rfl | rfl | rfl | rfl | rfl | rfl | rfl | rfl | rfl | rfl | rfl | rfl | rfl | rfl | rfl | rfl | rfl | rfl | rfl | rfl | rfl | rfl | rfl | rfl | rfl | rfl | rfl | rfl | rfl | rfl
  · exact List.all_eq_true.mp unit1 a (List.mem_range.mpr (by omega))
  · exact List.all_eq_true.mp unit2 a (List.mem_range.mpr (by omega))
  · exact List.all_eq_true.mp unit3 a (List.mem_range.mpr (by omega))
  · exact List.all_eq_true.mp unit4 a (List.mem_range.mpr (by omega))
  · exact List.all_eq_true.mp unit5 a (List.mem_range.mpr (by omega))
  · exact List.all_eq_true.mp unit6 a (List.mem_range.mpr (by omega))
  · exact List.all_eq_true.mp unit7 a (List.mem_range.mpr (by omega))
  · exact List.all_eq_true.mp unit8 a (List.mem_range.mpr (by omega))
  · exact List.all_eq_true.mp unit9 a (List.mem_range.mpr (by omega))
  · exact List.all_eq_true.mp unit10 a (List.mem_range.mpr (by omega))
  · exact List.all_eq_true.mp unit11 a (List.mem_range.mpr (by omega))
  · exact List.all_eq_true.mp unit12 a (List.mem_range.mpr (by omega))
  · exact List.all_eq_true.mp unit13 a (List.mem_range.mpr (by omega))
  · exact List.all_eq_true.mp unit14 a (List.mem_range.mpr (by omega))
  · exact List.all_eq_true.mp unit15 a (List.mem_range.mpr (by omega))
  · exact List.all_eq_true.mp unit16 a (List.mem_range.mpr (by omega))
  · exact List.all_eq_true.mp unit21 a (List.mem_range.mpr (by omega))
  · exact List.all_eq_true.mp unit22 a (List.mem_range.mpr (by omega))
  · exact List.all_eq_true.mp unit23 a (List.mem_range.mpr (by omega))
  · exact List.all_eq_true.mp unit24 a (List.mem_range.mpr (by omega))
  · exact List.all_eq_true.mp unit25 a (List.mem_range.mpr (by omega))
  · exact List.all_eq_true.mp unit26 a (List.mem_range.mpr (by omega))
  · exact List.all_eq_true.mp unit27 a (List.mem_range.mpr (by omega))
  · exact List.all_eq_true.mp unit28 a (List.mem_range.mpr (by omega))
  · exact List.all_eq_true.mp unit29 a (List.mem_range.mpr (by omega))
  · exact List.all_eq_true.mp unit30 a (List.mem_range.mpr (by omega))
  · exact List.all_eq_true.mp unit31 a (List.mem_range.mpr (by omega))
  · exact List.all_eq_true.mp unit32 a (List.mem_range.mpr (by omega))
  · exact List.all_eq_true.mp unit33 a (List.mem_range.mpr (by omega))
  · exact List.all_eq_true.mp unit34 a (List.mem_range.mpr (by omega))
  · exact List.all_eq_true.mp unit35 a (List.mem_range.mpr (by omega))
  · exact List.all_eq_true.mp unit36 a (List.mem_range.mpr (by omega))
theorem law_rest (k : Nat) (x3 x4 x5 x6 x10 x11 x12 x13 : Int) (hf : fin x3 x4 x5 x6 = some true) (hk : k = 4998 ∨ k = 4997 ∨ k = 4999) (hb : x13 = 0 → x11 ≤ 20 → J3 x10 x11 x12) : laws_FnBernoulli.j2 k x3 x4 x5 x6 x10 x11 x12 x13 = some true := by
  obtain ⟨k, rfl⟩ : ∃ m, k = m + 2 := ⟨k - 2, by omega⟩
  simp only [laws_FnBernoulli.j2]
  by_cases c : x13 = 0
  · rw [if_pos c]
    simp only [laws_FnBernoulli.j3]
    by_cases c2 : x11 ≤ 20
    · rw [decide_eq_true c2, if_pos rfl]
      obtain ⟨f, s, e, ht⟩ := hb c c2 k (by omega)
      unfold tst at ht
      simp only [Bool.and_eq_true, decide_eq_true_eq] at ht
      rw [e]
      simp only [Option.bind_some]
      rw [if_pos trivial, if_neg ht.1.1, if_neg ht.1.2, if_pos ht.2]
      exact hf
    · rw [decide_eq_false c2, if_neg (by decide)]
      exact hf
  · rw [if_neg c]
    simp only [laws_FnBernoulli.j3]
    rw [if_neg (by decide)]
    exact hf
theorem l0_nil (k : Nat) (x3 x4 x5 x6 x10 x11 x12 x13 x16 : Int) : laws_FnBernoulli.l0 (k + 1) x3 x4 x5 x6 x10 x11 x12 x13 x16 [] 0 = laws_FnBernoulli.j2 k x3 x4 x5 x6 x10 x11 x12 x13 := by
  simp only [laws_FnBernoulli.l0]
  rw [if_neg (by simp)]
theorem l0_one (k : Nat) (x3 x4 x5 x6 x10 x11 x12 x13 x16 x : Int) (h : impl_BernoulliModulo.f (k + 1) x16 x = some (0, 0)) : laws_FnBernoulli.l0 (k + 2) x3 x4 x5 x6 x10 x11 x12 x13 x16 [x] 0 = laws_FnBernoulli.j2 k x3 x4 x5 x6 x10 x11 x12 x13 := by
  simp only [laws_FnBernoulli.l0]
  rw [if_pos (by simp), if_pos (by decide)]
  have hr : rd [x] 0 = x := rfl
  rw [hr, h]
  simp only [Option.bind_some]
  rw [if_pos trivial, if_pos trivial]
  have hw : wrap64 (0 + 1) = 1 := by unfold wrap64; omega
  rw [hw, if_neg (by simp)]
theorem j0_is (k : Nat) (x3 x4 x5 x6 x10 x11 x12 x13 x16 : Int) (x17 : List Int) (x18 : Int) : laws_FnBernoulli.j0 (k + 1) x3 x4 x5 x6 x10 x11 x12 x13 x16 x17 x18 = if x18 = 0 then laws_FnBernoulli.l0 k x3 x4 x5 x6 x10 x11 x12 x13 x16 x17 0 else laws_FnBernoulli.j2 k x3 x4 x5 x6 x10 x11 x12 x13 := by
  simp only [laws_FnBernoulli.j0]
theorem FnBernoulli : laws_FnBernoulli.Pure := by
  intro l _ _ hwf
  refine ⟨5000, ?_⟩
  unfold laws_FnBernoulli.f laws_big.f
  simp only [Option.bind_some]
  by_cases hbig : (l.length : Int) > 4096
  · rw [decide_eq_true hbig, if_pos rfl]
  rw [decide_eq_false hbig, if_neg (by decide)]
  have hl : l.length ≤ 4096 := by omega
  have hb : ∀ x ∈ l, 0 ≤ x ∧ x < 256 := by
    intro x hx
    have := hwf x hx
    simp [Lit.wf, IntKind.min, IntKind.max, IntKind.bits, IntKind.signed] at this
    omega
  obtain ⟨t, eA, hA⟩ := drawA l hl hb
  obtain ⟨p, m, eB, hp, hm⟩ := drawB l hl hb
  obtain ⟨q, eC, hq⟩ := drawC l hl hb
  obtain ⟨n, a, eD, hn, ha⟩ := drawD l hl hb
  have cA := List.all_eq_true.mp allA t (List.mem_range.mpr hA)
  have cB := allB p m hp
  have cC := allC q hq
  have cD := allD n a hn ha
  unfold chkA at cA
  unfold chkC at cC
  unfold chkD at cD
  rw [eA]
  simp only [Option.bind_some]
  generalize hiA : impl_BernoulliOf.f 5000 (t : Int) = iA at cA
  cases iA with
  | none => cases cA
  | some rA =>
    simp only [Bool.and_eq_true, decide_eq_true_eq] at cA
    rw [cA.1]
    simp only [Option.bind_some]
    rw [if_pos trivial, if_pos trivial, if_pos trivial, eB]
    simp only [Option.bind_some]
    obtain ⟨rB, iB, sB, jB⟩ := cB
    rw [iB]
    simp only [Option.bind_some]
    rw [sB]
    simp only [Option.bind_some]
    rw [if_pos trivial, if_pos trivial, eC]
    simp only [Option.bind_some]
    generalize hiC : impl_IrregularOf.f 5000 q = iC at cC
    cases iC with
    | none => cases cC
    | some rC =>
      simp only [Bool.and_eq_true, Bool.or_eq_true, decide_eq_true_eq] at cC
      simp only [Option.bind_some]
      rw [cC.1.1]
      simp only [Option.bind_some]
      rw [if_pos trivial, cC.1.2]
      simp only [Option.bind_some]
      rw [if_pos trivial, eD]
      simp only [Option.bind_some]
      generalize hiD : impl_CyclotomicUnit.f 5000 n (a : Int) = iD at cD
      cases iD with
      | none => cases cD
      | some rD =>
        simp only [Bool.and_eq_true, Bool.or_eq_true, decide_eq_true_eq] at cD
        simp only [Option.bind_some]
        rw [cD.1.1]
        simp only [Option.bind_some]
        rw [if_pos trivial, cD.1.2]
        simp only [Option.bind_some]
        rw [if_pos trivial]
        have hj0 : laws_FnBernoulli.j0 5000 (t : Int) rA.1 rA.2.1 rA.2.2 p (m : Int) rB.1 rB.2 q rC.1 rC.2 = some true := by
          refine (j0_is 4999 _ _ _ _ _ _ _ _ _ _ _).trans ?_
          by_cases c : rC.2 = 0
          · rw [if_pos c]
            have h2 := cC.2.resolve_left (fun h => h c)
            obtain ⟨L, cc⟩ := rC
            match L, h2 with
            | [], _ => exact (l0_nil 4998 _ _ _ _ _ _ _ _ _).trans (law_rest 4998 _ _ _ _ _ _ _ _ cA.2 (by omega) jB)
            | [x], h3 => exact (l0_one 4997 _ _ _ _ _ _ _ _ _ _ (of_decide_eq_true h3)).trans (law_rest 4997 _ _ _ _ _ _ _ _ cA.2 (by omega) jB)
            | _ :: _ :: _, h3 => cases h3
          · rw [if_neg c]
            exact law_rest 4999 _ _ _ _ _ _ _ _ cA.2 (by omega) jB
        by_cases c : rD.2.2 = 0
        · rw [if_pos c]
          have h2 := cD.2.resolve_left (fun h => h c)
          generalize hiU : impl_IsUnit.f 5000 rD.1 rD.2.1 = iU at h2
          cases iU with
          | none => cases h2
          | some rU =>
            simp only [Option.bind_some]
            obtain ⟨yes, five⟩ := rU
            simp only [Bool.or_eq_true, decide_eq_true_eq] at h2
            by_cases c5 : five = 0
            · have hy := h2.resolve_left (fun h => h c5)
              rw [if_pos c5, if_pos hy]
              exact hj0
            · rw [if_neg c5]
              exact hj0
        · rw [if_neg c]
          exact hj0
end Go.Proofs.Ytgcggngleiggiaa.Pure
