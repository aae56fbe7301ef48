-- Printed by a program of this session, hand-proved contracts among it.
import Derived.Test.YtgcggngleiggiaaPr0
import Derived.Test.YtgcggngleiggiaaPr1
namespace Go.Proofs.Ytgcggngleiggiaa.Pr
open Go.RowKit Go.Proofs.YtgcggngleiggiaaW.PrintWords Go.Proofs.YtgcggngleiggiaaW.PrintLast Go.Proofs.YtgcggngleiggiaaW.PrintMore Go.Proofs.Ytgcggngleiggiaa.Sq
attribute [local go_sem] max2_int min2_int max_two min_two max_three min_three max_four min_four   -- for this text's walks alone
set_option linter.unusedVariables false
set_option linter.unusedSimpArgs false

/-! ### spec_l10Bernoulli: function 168 -/
mutual
def spec_l10Bernoulli.l0 : Nat → Int → List Int → Int → Option (List Int)
 | 0, _, _, _ => none
 | k + 1, x0, x3, x4 => if x4 ≤ (wrap64 (x0 - 3)) then (spec_l10Bernoulli.l1 k x0 x3 x4 0 1 0) else (some x3)
def spec_l10Bernoulli.l1 : Nat → Int → List Int → Int → Int → Int → Int → Option (List Int)
 | 0, _, _, _, _, _, _ => none
 | k + 1, x0, x3, x4, x5, x6, x7 => if x7 < x4 then (if 0 ≤ x7 then (if x7 < (x3.length : Int) then (if x0 = 0 then (none) else ((spec_l08Power.f k x0 (wrap64 (x7 + 1)) (wrap64 (x0 - 2))).bind fun t111 => (spec_l10Bernoulli.l1 k x0 x3 x4 (Int.tmod (wrap64 (x5 + (wrap64 (x6 * (rd x3 x7))))) x0) (Int.tmod (wrap64 ((Int.tmod (wrap64 (x6 * (Int.tmod (wrap64 ((wrap64 (x4 + 1)) - x7)) x0))) x0) * t111)) x0) (wrap64 (x7 + 1))))) else (none)) else (none)) else (if x0 = 0 then (none) else ((spec_l08Power.f k x0 (wrap64 (x4 + 1)) (wrap64 (x0 - 2))).bind fun t112 => (if x3.length < 17592186044416 then (spec_l10Bernoulli.l0 k x0 (x3 ++ [Int.tmod (wrap64 ((Int.tmod (wrap64 (x0 - x5)) x0) * t112)) x0]) (wrap64 (x4 + 1))) else (none))))
end
def spec_l10Bernoulli.f (k : Nat) (a0 : Int) : Option (List Int) := spec_l10Bernoulli.l0 k a0 (([1] : List Int)) 1
def spec_l10Bernoulli.T10 : Bool × List (List Nat × List Nat) := (true, [([], []), ([], []), ([1], [1]), ([], []), ([2, 3], [2, 3]), ([], []), ([4, 5], [4, 5]), ([0, 6], [0, 6]), ([], []), ([7, 8], [7, 8]), ([], []), ([], []), ([11], [11]), ([], []), ([13], [13]), ([10, 12, 14], [10, 12, 14]), ([9, 15], [9, 15]), ([], []), ([16, 17], [16, 17]), ([18, 15, 0, 1, 2, 3, 4, 5, 6, 7, 8, 9, 10, 11, 12, 13, 14, 15, 16, 17, 18], [0, 18])])
def spec_l10Bernoulli.B10 : List Nat := [0, 0, 2, 0, 14, 0, 62, 127, 0, 511, 0, 0, 2048, 0, 8192, 31744, 65535, 0, 262143, 524287]
theorem spec_l10Bernoulli.tab10 : rtab .any (opsOf Try.f168 10) = spec_l10Bernoulli.T10 := by kernel_rfl
theorem spec_l10Bernoulli.bits10 : waitsOk spec_l10Bernoulli.T10.2 spec_l10Bernoulli.B10 = true := by kernel_rfl
def spec_l10Bernoulli.T11 : Bool × List (List Nat × List Nat) := (true, [([], []), ([], []), ([], []), ([1, 2], [1, 2]), ([], []), ([3, 4], [3, 4]), ([], []), ([], []), ([7], [7]), ([], []), ([9], [9]), ([6, 8, 10], [6, 8, 10]), ([5, 11], [5, 11]), ([], []), ([12, 13], [12, 13]), ([14], [14]), ([0, 15, 11], [0, 15]), ([16, 16, 0, 1, 2, 3, 4, 5, 6, 7, 8, 9, 10, 11, 12, 13, 14, 15, 16], [0, 16])])
def spec_l10Bernoulli.B11 : List Nat := [0, 0, 0, 6, 0, 30, 0, 0, 128, 0, 512, 1984, 4094, 0, 16382, 32766, 65535, 131071]
theorem spec_l10Bernoulli.tab11 : rtab .any (opsOf Try.f168 11) = spec_l10Bernoulli.T11 := by kernel_rfl
theorem spec_l10Bernoulli.bits11 : waitsOk spec_l10Bernoulli.T11.2 spec_l10Bernoulli.B11 = true := by kernel_rfl
set_option maxHeartbeats 8000000 in
set_option maxRecDepth 100000 in
theorem spec_l10Bernoulli.calls (k : Nat) (a0 : Int) (r : List Int) (w : World) (h : spec_l10Bernoulli.f k a0 = some r) :
  Calls Try.prog 168 #[.int .i64 a0] w fun e w' => ∃ v0_ : Value, e = .returned (v0_) ∧ Kd.R (Kd.int .i64) 2 w' w.heap.size (fun _ => True) v0_ r ∧ Below w.heap.size w w' := by
 have HB := Aside0.mk (Below.refl w.heap.size w)
 have H : (spec_l10Bernoulli.l0 k a0 (([1] : List Int)) 1) = some r := h
 clear h
 obtain ⟨y107, hy107⟩ : ∃ y_ : List Int, y_ = (([1] : List Int)) := ⟨_, rfl⟩
 replace H : (spec_l10Bernoulli.l0 k a0 y107 1) = some r := by first | (rw [hy107]; with_reducible exact H) | (rw [hy107]; with_reducible exact (bs H :)) | with_reducible exact (bs H :) | exact H
 have Ny107 := Aside0.mk hy107
 clear hy107
 have H' := Aside0.mk H
 clear H
 go_enter Try.func168, Try.ntmps168
 go_wp2_with (first | ((with_reducible refine gate_dst (N := 8) rfl ?_); refine Kd.R_lit (Kd.int .i64) _ 2 ?hg (N := 8) ?hd (xs := ([1] : List Int)) (inner := [.int .i64 1]) (ok := fun _ => True) (okp := fun _ => True) ?hr ?hp (fun _ hk => hk) trivial (Below.refl _ _) (Nat.le_refl _) (by simp) ?_; (case hd => rfl); (case hg => rfl); (case hr => first | (go_simp; done) | (go_simp; rfl)); (case hp => exact (Reps.one (show Kd.M (Kd.int .i64) _ _ _ 1 [.int .i64 1] from rfl) (Reps.none _ _))); intro v108 w2 ho3 hb hg_ hnew_; clear hg_ hnew_; (first | rw [← Ny107.out] at ho3 | (simp only [Int.reduceToNat] at ho3; rw [← Ny107.out] at ho3)); have HO109 := Aside0.mk (Kd.R_lower ho3 (below_size tb)); replace HB := Aside0.mk (below_step tb hb); clear hb ho3))
 go_loopg [3, 4] k (fun kq v3 v4 w' => ∃ (x3_1 : List Int) (x4_1 : Int), v4 = .int .i64 x4_1 ∧ Aside0 (spec_l10Bernoulli.l0 kq a0 x3_1 x4_1 = some r) ∧ Aside0 (kq ≤ k) ∧ Aside0 (Kd.R (Kd.int .i64) 2 w' w.heap.size (fun _ => True) v3 x3_1) ∧ Aside0 (Below w.heap.size w w'))
 case atStart => exact ⟨(y107), (1), (by first | rfl | (simp; done) | (simp [*]; done)), H', ⟨Nat.le_refl _⟩, ⟨kR HO109.out⟩, ⟨tb⟩⟩
 case round =>
  clear H'
  try clear c1
  try clear p2
  obtain ⟨x3_1, x4_1, rfl, HA, HK1, HO_3, HB⟩ := hrel
  cases gk with
  | zero => exact absurd HA.out (by simp [spec_l10Bernoulli.l0])
  | succ k1 =>
   have H := HA.out
   clear HA
   simp only [spec_l10Bernoulli.l0] at H
   by_cases c4 : x4_1 ≤ (wrap64 (a0 - 3))
   ·rw [if_pos c4] at H
    have c4b0 : decide (x4_1 ≤ (wrap64 (a0 - 3))) = true := decide_eq_true c4
    clear c4
    have H' := Aside0.mk H
    clear H
    go_wp2
    go_loopg [5, 6, 7] k1 (fun kq v5 v6 v7 w' => ∃ (x5_2 : Int) (x6_2 : Int) (x7_2 : Int), v5 = .int .i64 x5_2 ∧ v6 = .int .i64 x6_2 ∧ v7 = .int .i64 x7_2 ∧ Aside0 (spec_l10Bernoulli.l1 kq a0 x3_1 x4_1 x5_2 x6_2 x7_2 = some r) ∧ Aside0 (kq ≤ k1) ∧ Aside0 (Kd.R (Kd.int .i64) 2 w' w.heap.size (fun _ => True) u3 x3_1) ∧ Aside0 (Below w.heap.size w w'))
    case atStart => exact ⟨(0), (1), (0), (by first | rfl | (simp; done) | (simp [*]; done)), (by first | rfl | (simp; done) | (simp [*]; done)), (by first | rfl | (simp; done) | (simp [*]; done)), H', ⟨Nat.le_refl _⟩, ⟨kR HO_3.out⟩, ⟨tb⟩⟩
    case round =>
     clear H'
     try clear c1
     try clear p2
     try clear c4
     try clear c4b0
     try clear p2
     obtain ⟨x5_2, x6_2, x7_2, rfl, rfl, rfl, HA, HK2, HO_3, HB⟩ := hrel
     cases gk with
     | zero => exact absurd HA.out (by simp [spec_l10Bernoulli.l1])
     | succ k2 =>
      have H := HA.out
      clear HA
      simp only [spec_l10Bernoulli.l1] at H
      by_cases c5 : x7_2 < x4_1
      ·rw [if_pos c5] at H
       have c5b0 : decide (x7_2 < x4_1) = true := decide_eq_true c5
       clear c5
       by_cases c6 : 0 ≤ x7_2
       ·rw [if_pos c6] at H
        have c6b0 : decide (0 ≤ x7_2) = true := decide_eq_true c6
        clear c6
        by_cases c7 : x7_2 < (x3_1.length : Int)
        ·rw [if_pos c7] at H
         have c7b0 : decide (x7_2 < (x3_1.length : Int)) = true := decide_eq_true c7
         clear c7
         by_cases c8 : a0 = 0
         ·rw [if_pos c8] at H
          exact absurd H (by simp)
         ·rw [if_neg c8] at H
          have c8b0 : (a0 == 0) = false := beq_eq_false_iff_ne.mpr c8
          have c8b1 : (a0 != 0) = true := bne_iff_ne.mpr c8
          replace H := Option.bind_eq_some_iff.mp H
          obtain ⟨t111, A90, H⟩ := H
          replace H : (spec_l10Bernoulli.l1 k2 a0 x3_1 x4_1 (Int.tmod (wrap64 (x5_2 + (wrap64 (x6_2 * (rd x3_1 x7_2))))) a0) (Int.tmod (wrap64 ((Int.tmod (wrap64 (x6_2 * (Int.tmod (wrap64 ((wrap64 (x4_1 + 1)) - x7_2)) a0))) a0) * t111)) a0) (wrap64 (x7_2 + 1))) = some r := H
          have A9 := Aside0.mk A90
          clear A90
          have H' := Aside0.mk H
          clear H
          obtain ⟨Ao10, co10, eo10⟩ := Kd.R_slice HO_3.out
          subst eo10
          have p110 : 0 ≤ (x7_2 : Int) := od
          have q110 : x7_2 < (x3_1.length : Int) := od
          obtain ⟨ad110, e110, hx110_0⟩ := Kd.at_int (Kd.R_reads' HO_3.out).2.2 x7_2 p110 q110
          cases e110
          replace p110 := eq_true p110
          replace q110 := eq_true q110
          try go_wp2
          replace HO_3 := Aside0.mk (Kd.R_drew HO_3.out)
          replace HB := Aside0.mk (below_drew1 HB.out)
          refine start_ (n := 20) (S := fun w' => True) (ds := []) #[false, false, false, false, false, false, false, false, false, false, false, false, false, false, false, false, false, false, false, false] (by kernel_rfl) rfl rfl trivial (fun hHeld => ?_); refine with_tabW spec_l10Bernoulli.tab10 spec_l10Bernoulli.bits10 (fun HT_ HW_ => ?_)
          generalize wr.drew = w11 at HO_3 HB hHeld ⊢
          refine pu 0 (some 30) #[true, false, false, false, false, false, false, false, false, false, false, false, false, false, false, false, false, false, false, false] ?_
          refine pu 1 (some 31) #[true, true, false, false, false, false, false, false, false, false, false, false, false, false, false, false, false, false, false, false] ?_
          refine pu 2 (some 32) #[true, true, true, false, false, false, false, false, false, false, false, false, false, false, false, false, false, false, false, false] ?_
          refine pu 3 (some 33) #[true, true, true, true, false, false, false, false, false, false, false, false, false, false, false, false, false, false, false, false] ?_
          refine pu 4 (some 34) #[true, true, true, true, true, false, false, false, false, false, false, false, false, false, false, false, false, false, false, false] ?_
          refine pu 5 (some 35) #[true, true, true, true, true, true, false, false, false, false, false, false, false, false, false, false, false, false, false, false] ?_
          refine pu 6 (some 36) #[true, true, true, true, true, true, true, false, false, false, false, false, false, false, false, false, false, false, false, false] ?_
          refine pu 7 (some 37) #[true, true, true, true, true, true, true, true, false, false, false, false, false, false, false, false, false, false, false, false] ?_
          refine pu 8 (some 38) #[true, true, true, true, true, true, true, true, true, false, false, false, false, false, false, false, false, false, false, false] ?_
          refine pu 9 (some 39) #[true, true, true, true, true, true, true, true, true, true, false, false, false, false, false, false, false, false, false, false] ?_
          refine pu 10 (some 40) #[true, true, true, true, true, true, true, true, true, true, true, false, false, false, false, false, false, false, false, false] ?_
          refine pu 11 (some 41) #[true, true, true, true, true, true, true, true, true, true, true, true, false, false, false, false, false, false, false, false] ?_
          refine pu 12 (some 42) #[true, true, true, true, true, true, true, true, true, true, true, true, true, false, false, false, false, false, false, false] ?_
          refine pu 13 (some 43) #[true, true, true, true, true, true, true, true, true, true, true, true, true, true, false, false, false, false, false, false] ?_
          refine pu 14 (some 44) #[true, true, true, true, true, true, true, true, true, true, true, true, true, true, true, false, false, false, false, false] ?_
          refine pu 17 (some 47) #[true, true, true, true, true, true, true, true, true, true, true, true, true, true, true, false, false, true, false, false] ?_
          refine one_ (i := 15) (N := some 45) #[true, true, true, true, true, true, true, true, true, true, true, true, true, true, true, true, false, true, false, false] rfl rfl (one_of HT_.out (by kernel_rfl)) (by decide) (fun K hK => ?_)
          refine goes_ Try.func249 (by kernel_rfl) rfl #[.int .i64 a0, .int .i64 (wrap64 (x7_2 + 1)), .int .i64 (wrap64 (a0 - 2))] (by rfl) rfl rfl ar ?_
          with_reducible refine (spec_l08Power.calls k2 a0 (wrap64 (x7_2 + 1)) (wrap64 (a0 - 2)) t111 _ A9.out).mono ?_
          rintro e w' ⟨rfl, ⟨nd, rfl⟩⟩
          refine ⟨_, rfl, ?_⟩
          refine hK.out _ _ trivial (fun hHeld => ?_)
          clear hK K
          refine nr ?_
          refine pu 16 (some 46) #[true, true, true, true, true, true, true, true, true, true, true, true, true, true, true, true, true, true, false, false] ?_
          refine pu 18 (some 48) #[true, true, true, true, true, true, true, true, true, true, true, true, true, true, true, true, true, true, true, false] ?_
          refine pu 19 (some 6) #[true, true, true, true, true, true, true, true, true, true, true, true, true, true, true, true, true, true, true, true] ?_
          refine done_ (done_of HT_.out (by kernel_rfl)) ?_
          try go_wp2
          go_roundg k2
          case measure => have := HK1.out; have := HK2.out; omega
          case rel => exact ⟨(Int.tmod (wrap64 (x5_2 + (wrap64 (x6_2 * (rd x3_1 x7_2))))) a0), (Int.tmod (wrap64 ((Int.tmod (wrap64 (x6_2 * (Int.tmod (wrap64 ((wrap64 (x4_1 + 1)) - x7_2)) a0))) a0) * t111)) a0), (wrap64 (x7_2 + 1)), (by first | rfl | (simp; done) | (simp [*]; done)), (by first | rfl | (simp; done) | (simp [*]; done)), (by first | rfl | (simp; done) | (simp [*]; done)), H', ⟨by have := HK1.out; have := HK2.out; omega⟩, ⟨kR HO_3.out⟩, ⟨tb⟩⟩
        ·rw [if_neg c7] at H
         exact absurd H (by simp)
       ·rw [if_neg c6] at H
        exact absurd H (by simp)
      ·rw [if_neg c5] at H
       have c5b0 : decide (x7_2 < x4_1) = false := decide_eq_false c5
       clear c5
       by_cases c12 : a0 = 0
       ·rw [if_pos c12] at H
        exact absurd H (by simp)
       ·rw [if_neg c12] at H
        have c12b0 : (a0 == 0) = false := beq_eq_false_iff_ne.mpr c12
        have c12b1 : (a0 != 0) = true := bne_iff_ne.mpr c12
        replace H := Option.bind_eq_some_iff.mp H
        obtain ⟨t112, A130, H⟩ := H
        replace H : (if x3_1.length < 17592186044416 then (spec_l10Bernoulli.l0 k2 a0 (x3_1 ++ [Int.tmod (wrap64 ((Int.tmod (wrap64 (a0 - x5_2)) a0) * t112)) a0]) (wrap64 (x4_1 + 1))) else (none)) = some r := H
        have A13 := Aside0.mk A130
        clear A130
        by_cases c14 : x3_1.length < 17592186044416
        ·rw [if_pos c14] at H
         have LMc14 := Aside0.mk c14
         clear c14
         obtain ⟨y113, hy113⟩ : ∃ y_ : List Int, y_ = (x3_1 ++ [Int.tmod (wrap64 ((Int.tmod (wrap64 (a0 - x5_2)) a0) * t112)) a0]) := ⟨_, rfl⟩
         replace H : (spec_l10Bernoulli.l0 k2 a0 y113 (wrap64 (x4_1 + 1))) = some r := by first | (rw [hy113]; with_reducible exact H) | (rw [hy113]; with_reducible exact (bs H :)) | with_reducible exact (bs H :) | exact H
         have Ny113 := Aside0.mk hy113
         clear hy113
         have H' := Aside0.mk H
         clear H
         try go_wp2
         replace HO_3 := Aside0.mk (Kd.R_drew HO_3.out)
         replace HB := Aside0.mk (below_drew1 HB.out)
         refine start_ (n := 18) (S := fun w' => True) (ds := []) #[false, false, false, false, false, false, false, false, false, false, false, false, false, false, false, false, false, false] (by kernel_rfl) rfl rfl trivial (fun hHeld => ?_); refine with_tabW spec_l10Bernoulli.tab11 spec_l10Bernoulli.bits11 (fun HT_ HW_ => ?_)
         generalize wr.drew = w15 at HO_3 HB hHeld ⊢
         refine pu 0 (some 49) #[true, false, false, false, false, false, false, false, false, false, false, false, false, false, false, false, false, false] ?_
         refine pu 1 (some 50) #[true, true, false, false, false, false, false, false, false, false, false, false, false, false, false, false, false, false] ?_
         refine pu 2 (some 51) #[true, true, true, false, false, false, false, false, false, false, false, false, false, false, false, false, false, false] ?_
         refine pu 3 (some 52) #[true, true, true, true, false, false, false, false, false, false, false, false, false, false, false, false, false, false] ?_
         refine pu 4 (some 53) #[true, true, true, true, true, false, false, false, false, false, false, false, false, false, false, false, false, false] ?_
         refine pu 5 (some 54) #[true, true, true, true, true, true, false, false, false, false, false, false, false, false, false, false, false, false] ?_
         refine pu 6 (some 55) #[true, true, true, true, true, true, true, false, false, false, false, false, false, false, false, false, false, false] ?_
         refine pu 7 (some 56) #[true, true, true, true, true, true, true, true, false, false, false, false, false, false, false, false, false, false] ?_
         refine pu 8 (some 57) #[true, true, true, true, true, true, true, true, true, false, false, false, false, false, false, false, false, false] ?_
         refine pu 9 (some 58) #[true, true, true, true, true, true, true, true, true, true, false, false, false, false, false, false, false, false] ?_
         refine pu 10 (some 59) #[true, true, true, true, true, true, true, true, true, true, true, false, false, false, false, false, false, false] ?_
         refine pu 13 (some 62) #[true, true, true, true, true, true, true, true, true, true, true, false, false, true, false, false, false, false] ?_
         refine one_ (i := 11) (N := some 60) #[true, true, true, true, true, true, true, true, true, true, true, true, false, true, false, false, false, false] rfl rfl (one_of HT_.out (by kernel_rfl)) (by decide) (fun K hK => ?_)
         refine goes_ Try.func249 (by kernel_rfl) rfl #[.int .i64 a0, .int .i64 (wrap64 (x4_1 + 1)), .int .i64 (wrap64 (a0 - 2))] (by rfl) rfl rfl ar ?_
         with_reducible refine (spec_l08Power.calls k2 a0 (wrap64 (x4_1 + 1)) (wrap64 (a0 - 2)) t112 _ A13.out).mono ?_
         rintro e w' ⟨rfl, ⟨nd, rfl⟩⟩
         refine ⟨_, rfl, ?_⟩
         refine hK.out _ _ trivial (fun hHeld => ?_)
         clear hK K
         refine nr ?_
         refine pu 12 (some 61) #[true, true, true, true, true, true, true, true, true, true, true, true, true, true, false, false, false, false] ?_
         refine pu 14 (some 63) #[true, true, true, true, true, true, true, true, true, true, true, true, true, true, true, false, false, false] ?_
         refine one_ (i := 15) (N := some 64) #[true, true, true, true, true, true, true, true, true, true, true, true, true, true, true, true, false, false] rfl rfl (one_of HT_.out (by kernel_rfl)) (by decide) (fun K hK => ?_)
         refine value_ (w1 := ?_) (v := ?_) (by rfl) rfl ?_ ?_
         rotate_left 2
         ·go_simp
          constructor
          ·rfl
          ·rfl
         refine hK.out _ _ trivial (fun hHeld => ?_)
         clear hK K
         refine nr ?_
         refine one_ (i := 16) (N := some 65) #[true, true, true, true, true, true, true, true, true, true, true, true, true, true, true, true, true, false] rfl rfl (one_of HT_.out (by kernel_rfl)) (by decide) (fun K hK => ?_)
         refine Kd.R_append_step (Kd.int .i64) (w0 := w) w.heap.size (by rfl) (.tmp 49) (.tmp 64) 27 2 (.int .i64 0) 8 rfl Try.underlying27 info2 rfl (by decide) (by omega) u3 x3_1 (Int.tmod (wrap64 ((Int.tmod (wrap64 (a0 - x5_2)) a0) * t112)) a0) [.int .i64 (Int.tmod (wrap64 ((Int.tmod (wrap64 (a0 - x5_2)) a0) * t112)) a0)] (fun _ => True) (fun _ => False) rfl rfl ?aP (fun _ hk => hk.elim) ?aF ?aO ?aB ?aS ?aL ?_
         (case aP => exact rfl)
         (case aB => exact tb)
         (case aF => exact (fun _ _ => trivial))
         (case aO => exact (kR HO_3.out))
         (case aS => exact (below_size tb))
         (case aL => have := LMc14.out; omega)
         intro v114 w16 ho hb hg hat
         rw [← Ny113.out] at ho
         have n0_ := Aside0.mk (hb)
         have n1_ := Aside0.mk (ho)
         clear HB
         clear HO_3
         have HB := n0_
         have HO115 := n1_
         clear n0_ n1_
         clear ho hb hg hat
         refine hK.out _ _ trivial (fun hHeld => ?_)
         clear hK K
         refine nr ?_
         refine pu 17 (some 3) #[true, true, true, true, true, true, true, true, true, true, true, true, true, true, true, true, true, true] ?_
         refine done_ (done_of HT_.out (by kernel_rfl)) ?_
         try go_wp2
         go_roundg k2
         case measure => have := HK1.out; have := HK2.out; omega
         case rel => exact ⟨(y113), (wrap64 (x4_1 + 1)), (by first | rfl | (simp; done) | (simp [*]; done)), H', ⟨by have := HK1.out; have := HK2.out; omega⟩, ⟨kR HO115.out⟩, ⟨tb⟩⟩
        ·rw [if_neg c14] at H
         exact absurd H (by simp)
   ·rw [if_neg c4] at H
    have c4b0 : decide (x4_1 ≤ (wrap64 (a0 - 3))) = false := decide_eq_false c4
    clear c4
    obtain rfl := Option.some.inj H
    go_wp2
    go_ret
    exact ⟨_, by first | rfl | (simp [errW_none, errW_some] <;> rfl) | (simp [*, errW_none, errW_some] <;> rfl), kR HO_3.out, tb⟩

/-! ### spec_IrregularOf: function 65 -/
def spec_IrregularOf.l0 : Nat → Int → List Int → List Int → Int → Option (List Int × Int)
 | 0, _, _, _, _ => none
 | k + 1, x0, x4, x5, x6 => if x6 ≤ (wrap64 (x0 - 3)) then (if 0 ≤ x6 then (if x6 < (x4.length : Int) then (if (rd x4 x6) = 0 then (if x5.length < 17592186044416 then (spec_IrregularOf.l0 k x0 x4 (x5 ++ [x6]) (wrap64 (x6 + 2))) else (none)) else (spec_IrregularOf.l0 k x0 x4 x5 (wrap64 (x6 + 2)))) else (none)) else (none)) else (some (x5, 0))
def spec_IrregularOf.f (k : Nat) (a0 : Int) : Option (List Int × Int) := (spec_l06Prime.f k a0).bind fun t116 => (if t116 = true then ((spec_l10Bernoulli.f k a0).bind fun t117 => (spec_IrregularOf.l0 k a0 t117 (([] : List Int)) 2)) else (some (([] : List Int), 2)))
set_option maxHeartbeats 8000000 in
set_option maxRecDepth 100000 in
theorem spec_IrregularOf.calls (k : Nat) (a0 : Int) (r1 : List Int) (r2 : Int) (w : World) (h : spec_IrregularOf.f k a0 = some (r1, r2)) :
  Calls Try.prog 65 #[.int .i64 a0] w fun e w' => ∃ v0_ : Value, e = .returned (.tuple #[v0_, .int .i64 r2]) ∧ Kd.R (Kd.int .i64) 2 w' w.heap.size (fun _ => True) v0_ r1 ∧ Below w.heap.size w w' := by
 have HB := Aside0.mk (Below.refl w.heap.size w)
 have H : ((spec_l06Prime.f k a0).bind fun t116 => (if t116 = true then ((spec_l10Bernoulli.f k a0).bind fun t117 => (spec_IrregularOf.l0 k a0 t117 (([] : List Int)) 2)) else (some (([] : List Int), 2)))) = some (r1, r2) := h
 clear h
 replace H := Option.bind_eq_some_iff.mp H
 obtain ⟨t116, A20, H⟩ := H
 replace H : (if t116 = true then ((spec_l10Bernoulli.f k a0).bind fun t117 => (spec_IrregularOf.l0 k a0 t117 (([] : List Int)) 2)) else (some (([] : List Int), 2))) = some (r1, r2) := H
 have A2 := Aside0.mk A20
 clear A20
 by_cases c3 : t116 = true
 ·subst c3
  have H1 : ((spec_l10Bernoulli.f k a0).bind fun t117 => (spec_IrregularOf.l0 k a0 t117 (([] : List Int)) 2)) = some (r1, r2) := by rw [if_pos rfl] at H; exact H
  clear H
  have H := H1
  clear H1
  replace H := Option.bind_eq_some_iff.mp H
  obtain ⟨t117, A40, H⟩ := H
  replace H : (spec_IrregularOf.l0 k a0 t117 (([] : List Int)) 2) = some (r1, r2) := H
  have A4 := Aside0.mk A40
  clear A40
  obtain ⟨y120, hy120⟩ : ∃ y_ : List Int, y_ = (([] : List Int)) := ⟨_, rfl⟩
  replace H : (spec_IrregularOf.l0 k a0 t117 y120 2) = some (r1, r2) := by first | (rw [hy120]; with_reducible exact H) | (rw [hy120]; with_reducible exact (bs H :)) | with_reducible exact (bs H :) | exact H
  have Ny120 := Aside0.mk hy120
  clear hy120
  have H' := Aside0.mk H
  clear H
  go_enter Try.func65, Try.ntmps65
  go_wp2_with (first | ((with_reducible refine gate_callee (f := 167) rfl ?_); refine goesL_ (some 8) rfl rfl Try.func167 (by kernel_rfl) rfl #[.int .i64 a0] rfl ar ?_; (with_reducible refine (spec_l06Prime.calls k a0 true _ A2.out).mono ?_); rintro e w' ⟨rfl, ⟨nd, rfl⟩⟩; refine ⟨_, rfl, ?_⟩) | ((with_reducible refine gate_callee (f := 168) rfl ?_); refine goesL_ (some 11) rfl rfl Try.func168 (by kernel_rfl) rfl #[.int .i64 a0] rfl ar ?_; (with_reducible refine (spec_l10Bernoulli.calls k a0 t117 _ A4.out).mono ?_); rintro e w5 ⟨v118, rfl, ho0, hb⟩; refine ⟨_, rfl, ?_⟩; have HO119 := Aside0.mk (Kd.R_lower ho0 (below_size tb)); replace HB := Aside0.mk (below_step tb hb); (try clear hb); (try clear hb2); (try clear hk); (try clear hi); (try clear ho0)) | ((with_reducible refine gate_dst (N := 12) rfl ?_); refine Kd.R_lit (Kd.int .i64) _ 2 ?hg (N := 12) ?hd (xs := ([] : List Int)) (inner := []) (ok := fun _ => True) (okp := fun _ => True) ?hr ?hp (fun _ hk => hk) trivial (Below.refl _ _) (Nat.le_refl _) (by simp) ?_; (case hd => rfl); (case hg => rfl); (case hr => first | (go_simp; done) | (go_simp; rfl)); (case hp => exact (Reps.none _ _)); intro v121 w6 ho7 hb hg_ hnew_; clear hg_ hnew_; (first | rw [← Ny120.out] at ho7 | (simp only [Int.reduceToNat] at ho7; rw [← Ny120.out] at ho7)); have HO122 := Aside0.mk (Kd.R_lower (Kd.R_new' ho7 (Kd.R_lt (kR HO119.out))) (below_size tb)); replace HO119 := Aside0.mk (Kd.R_elder' (kR HO119.out) (Kd.R_base ho7) hb); replace HB := Aside0.mk (below_step tb hb); clear hb ho7))
  go_loopg [5, 6] k (fun kq v5 v6 w' => ∃ (x5_1 : List Int) (x6_1 : Int), v6 = .int .i64 x6_1 ∧ Aside0 (spec_IrregularOf.l0 kq a0 t117 x5_1 x6_1 = some (r1, r2)) ∧ Aside0 (kq ≤ k) ∧ Aside0 (Kd.R (Kd.int .i64) 2 w' w.heap.size (fun k_ => some k_ ≠ (v5 : Value).ownBlock) v118 t117) ∧ Aside0 (Kd.R (Kd.int .i64) 2 w' w.heap.size (fun k_ => some k_ ≠ (v118 : Value).ownBlock) v5 x5_1) ∧ Aside0 (Below w.heap.size w w'))
  case atStart => exact ⟨(y120), (2), (by first | rfl | (simp; done) | (simp [*]; done)), H', ⟨Nat.le_refl _⟩, ⟨by (with_reducible repeat (first | apply Kd.R_alloc | apply Kd.R_drewN | apply Kd.R_drew)); exact Kd.R_mono HO119.out (fun _ hk => hk.2)⟩, ⟨by (with_reducible repeat (first | apply Kd.R_alloc | apply Kd.R_drewN | apply Kd.R_drew)); exact Kd.R_mono HO122.out (fun _ hk => hk.2)⟩, ⟨tb⟩⟩
  case round =>
   clear H'
   try clear c1
   try clear p2
   try clear c3
   try clear c6
   obtain ⟨x5_1, x6_1, rfl, HA, HK1, HO_4, HO_5, HB⟩ := hrel
   cases gk with
   | zero => exact absurd HA.out (by simp [spec_IrregularOf.l0])
   | succ k1 =>
    have H := HA.out
    clear HA
    simp only [spec_IrregularOf.l0] at H
    by_cases c8 : x6_1 ≤ (wrap64 (a0 - 3))
    ·rw [if_pos c8] at H
     have c8b0 : decide (x6_1 ≤ (wrap64 (a0 - 3))) = true := decide_eq_true c8
     clear c8
     by_cases c9 : 0 ≤ x6_1
     ·rw [if_pos c9] at H
      have c9b0 : decide (0 ≤ x6_1) = true := decide_eq_true c9
      clear c9
      by_cases c10 : x6_1 < (t117.length : Int)
      ·rw [if_pos c10] at H
       have c10b0 : decide (x6_1 < (t117.length : Int)) = true := decide_eq_true c10
       clear c10
       by_cases c11 : (rd t117 x6_1) = 0
       ·rw [if_pos c11] at H
        have c11b0 : ((rd t117 x6_1) == 0) = true := beq_iff_eq.mpr c11
        have c11b1 : ((rd t117 x6_1) != 0) = false := bne_eq_false_iff_eq.mpr c11
        clear c11
        by_cases c12 : x5_1.length < 17592186044416
        ·rw [if_pos c12] at H
         have LMc12 := Aside0.mk c12
         clear c12
         obtain ⟨y124, hy124⟩ : ∃ y_ : List Int, y_ = (x5_1 ++ [x6_1]) := ⟨_, rfl⟩
         replace H : (spec_IrregularOf.l0 k1 a0 t117 y124 (wrap64 (x6_1 + 2))) = some (r1, r2) := by first | (rw [hy124]; with_reducible exact H) | (rw [hy124]; with_reducible exact (bs H :)) | with_reducible exact (bs H :) | exact H
         have Ny124 := Aside0.mk hy124
         clear hy124
         have H' := Aside0.mk H
         clear H
         obtain ⟨Ao13, co13, eo13⟩ := Kd.R_slice HO_4.out
         subst eo13
         have p123 : 0 ≤ (x6_1 : Int) := od
         have q123 : x6_1 < (t117.length : Int) := od
         obtain ⟨ad123, e123, hx123_0⟩ := Kd.at_int (Kd.R_reads' HO_4.out).2.2 x6_1 p123 q123
         cases e123
         replace p123 := eq_true p123
         replace q123 := eq_true q123
         go_wp2_with (first | ((with_reducible refine gate_builtin (b := .append) (xs := #[.tmp 24, .tmp 26]) rfl ?_); at_builtin; refine Kd.R_append (Kd.int .i64) (w0 := w) w.heap.size rfl (.tmp 24) (.tmp 26) 27 2 (.int .i64 0) 8 rfl Try.underlying27 info2 rfl (by decide) (by omega) u5 x5_1 x6_1 [.int .i64 x6_1] (fun k_ => some k_ ≠ (.slice (some ad123) t117.length co13 : Value).ownBlock) (fun _ => False) rfl rfl ?aP (fun _ hk => hk.elim) ?aF ?aO ?aB ?aS ?aL ?_; (case aP => exact rfl); (case aB => exact tb); (case aF => exact (fun k_ hk => Kd.fresh' (Kd.R_lt (kR HO_4.out)) k_ hk)); (case aO => exact (kR HO_5.out)); (case aS => exact (below_size tb)); (case aL => have := LMc12.out; omega); intro v125 w14 ho hb hg hat; rw [← Ny124.out] at ho; have n0_ := Aside0.mk (Kd.R_after (ok := (fun _ => True)) (by (with_reducible repeat (first | apply Kd.R_alloc | apply Kd.R_drewN | apply Kd.R_drew)); exact Kd.R_mono HO_4.out (fun _ hk => ⟨trivial, hk⟩)) hg hat); have n1_ := Aside0.mk (hb); have n2_ := Aside0.mk (ho); clear HO_4; clear HB; clear HO_5; have HO_4 := n0_; have HB := n1_; have HO126 := n2_; clear n0_ n1_ n2_; clear ho hb hg hat))
         go_roundg k1
         case measure => have := HK1.out; omega
         case rel => exact ⟨(y124), (wrap64 (x6_1 + 2)), (by first | rfl | (simp; done) | (simp [*]; done)), H', ⟨by have := HK1.out; omega⟩, ⟨by (with_reducible repeat (first | apply Kd.R_alloc | apply Kd.R_drewN | apply Kd.R_drew)); exact Kd.R_mono HO_4.out (fun _ hk => hk.2)⟩, ⟨kR HO126.out⟩, ⟨tb⟩⟩
        ·rw [if_neg c12] at H
         exact absurd H (by simp)
       ·rw [if_neg c11] at H
        have c11b0 : ((rd t117 x6_1) == 0) = false := beq_eq_false_iff_ne.mpr c11
        have c11b1 : ((rd t117 x6_1) != 0) = true := bne_iff_ne.mpr c11
        have H' := Aside0.mk H
        clear H
        obtain ⟨Ao15, co15, eo15⟩ := Kd.R_slice HO_4.out
        subst eo15
        have p123 : 0 ≤ (x6_1 : Int) := od
        have q123 : x6_1 < (t117.length : Int) := od
        obtain ⟨ad123, e123, hx123_0⟩ := Kd.at_int (Kd.R_reads' HO_4.out).2.2 x6_1 p123 q123
        cases e123
        replace p123 := eq_true p123
        replace q123 := eq_true q123
        go_wp2
        go_roundg k1
        case measure => have := HK1.out; omega
        case rel => exact ⟨(x5_1), (wrap64 (x6_1 + 2)), (by first | rfl | (simp; done) | (simp [*]; done)), H', ⟨by have := HK1.out; omega⟩, ⟨kR HO_4.out⟩, ⟨kR HO_5.out⟩, ⟨tb⟩⟩
      ·rw [if_neg c10] at H
       exact absurd H (by simp)
     ·rw [if_neg c9] at H
      exact absurd H (by simp)
    ·rw [if_neg c8] at H
     have c8b0 : decide (x6_1 ≤ (wrap64 (a0 - 3))) = false := decide_eq_false c8
     clear c8
     simp only [Option.some.injEq, Prod.mk.injEq] at H
     obtain ⟨rfl, rfl⟩ := H
     go_wp2
     go_ret2
     exact ⟨_, by first | rfl | (simp [errW_none, errW_some] <;> rfl) | (simp [*, errW_none, errW_some] <;> rfl), by (with_reducible repeat (first | apply Kd.R_alloc | apply Kd.R_drewN | apply Kd.R_drew)); exact Kd.R_mono HO_5.out (fun _ hk => trivial), tb⟩
 ·replace c3 := Bool.eq_false_iff.mpr c3
  subst c3
  have H1 : (some (([] : List Int), 2)) = some (r1, r2) := by rw [if_neg (show ¬ (false = true) by decide)] at H; exact H
  clear H
  have H := H1
  clear H1
  simp only [Option.some.injEq, Prod.mk.injEq] at H
  obtain ⟨rfl, rfl⟩ := H
  go_enter Try.func65, Try.ntmps65
  go_wp2_with (first | ((with_reducible refine gate_callee (f := 167) rfl ?_); refine goesL_ (some 8) rfl rfl Try.func167 (by kernel_rfl) rfl #[.int .i64 a0] rfl ar ?_; (with_reducible refine (spec_l06Prime.calls k a0 false _ A2.out).mono ?_); rintro e w' ⟨rfl, ⟨nd, rfl⟩⟩; refine ⟨_, rfl, ?_⟩))
  go_ret2
  exact ⟨_, by first | rfl | (simp [errW_none, errW_some] <;> rfl) | (simp [*, errW_none, errW_some] <;> rfl), by first | exact Kd.R_nil _ _ _ _ _ | exact Kd.N_nil _ _ _ _ _ | exact Kd.V_nil _ _ _ _ _ | exact Kd.Q_nil _ _ _ _ _ | exact Kd.S_nil _ _ _ _ _, tb⟩

/-! ### impl_within: function 159 -/
def impl_within.f (a0 : Int) (a1 : Int) (a2 : Int) : Option (Bool) := if a1 ≤ a0 then (some (decide (a0 ≤ a2))) else (some false)
set_option maxHeartbeats 8000000 in
set_option maxRecDepth 100000 in
theorem impl_within.calls (a0 : Int) (a1 : Int) (a2 : Int) (r : Bool) (w : World) (h : impl_within.f a0 a1 a2 = some r) :
  Calls Try.prog 159 #[.int .i64 a0, .int .i64 a1, .int .i64 a2] w fun e w' => e = .returned (.bool r) ∧ Drawn0 w w' := by
 have H : (if a1 ≤ a0 then (some (decide (a0 ≤ a2))) else (some false)) = some r := h
 clear h
 by_cases c4 : a1 ≤ a0
 ·rw [if_pos c4] at H
  have c4b0 : decide (a1 ≤ a0) = true := decide_eq_true c4
  clear c4
  obtain rfl := Option.some.inj H
  go_enter Try.func159, Try.ntmps159
  go_wp2
  go_ret
  exact ⟨by first | rfl | (simp; done) | (simp [*]; done), by repeat (first | exact Drawn0.refl _ | apply Drawn0.step)⟩
 ·rw [if_neg c4] at H
  have c4b0 : decide (a1 ≤ a0) = false := decide_eq_false c4
  clear c4
  obtain rfl := Option.some.inj H
  go_enter Try.func159, Try.ntmps159
  go_wp2
  go_ret
  exact ⟨by first | rfl | (simp; done) | (simp [*]; done), by repeat (first | exact Drawn0.refl _ | apply Drawn0.step)⟩

/-! ### impl_isPrime: function 118 -/
def impl_isPrime.l0 : Nat → Int → Int → Option (Bool)
 | 0, _, _ => none
 | k + 1, x0, x3 => if (wrap64 (x3 * x3)) ≤ x0 then (if x3 = 0 then (none) else (if (Int.tmod x0 x3) = 0 then (some false) else (impl_isPrime.l0 k x0 (wrap64 (x3 + 1))))) else ((impl_within.f x0 3 61).bind fun t127 => (some t127))
def impl_isPrime.f (k : Nat) (a0 : Int) : Option (Bool) := impl_isPrime.l0 k a0 2
set_option maxHeartbeats 8000000 in
set_option maxRecDepth 100000 in
theorem impl_isPrime.calls (k : Nat) (a0 : Int) (r : Bool) (w : World) (h : impl_isPrime.f k a0 = some r) :
  Calls Try.prog 118 #[.int .i64 a0] w fun e w' => e = .returned (.bool r) ∧ Drawn0 w w' := by
 have H : (impl_isPrime.l0 k a0 2) = some r := h
 clear h
 have H' := Aside0.mk H
 clear H
 go_enter Try.func118, Try.ntmps118
 go_wp2
 go_loopg [3] k (fun kq v3 w' => ∃ (x3_1 : Int), v3 = .int .i64 x3_1 ∧ Aside0 (impl_isPrime.l0 kq a0 x3_1 = some r) ∧ Aside0 (kq ≤ k) ∧ Drawn0 w w')
 case atStart => exact ⟨(2), (by first | rfl | (simp; done) | (simp [*]; done)), H', ⟨Nat.le_refl _⟩, by repeat (first | exact Drawn0.refl _ | apply Drawn0.step)⟩
 case round =>
  clear H'
  try clear c1
  obtain ⟨x3_1, rfl, HA, HK1, ⟨m1, rfl⟩⟩ := hrel
  cases gk with
  | zero => exact absurd HA.out (by simp [impl_isPrime.l0])
  | succ k1 =>
   have H := HA.out
   clear HA
   simp only [impl_isPrime.l0] at H
   by_cases c2 : (wrap64 (x3_1 * x3_1)) ≤ a0
   ·rw [if_pos c2] at H
    have c2b0 : decide ((wrap64 (x3_1 * x3_1)) ≤ a0) = true := decide_eq_true c2
    clear c2
    by_cases c3 : x3_1 = 0
    ·rw [if_pos c3] at H
     exact absurd H (by simp)
    ·rw [if_neg c3] at H
     have c3b0 : (x3_1 == 0) = false := beq_eq_false_iff_ne.mpr c3
     have c3b1 : (x3_1 != 0) = true := bne_iff_ne.mpr c3
     by_cases c4 : (Int.tmod a0 x3_1) = 0
     ·rw [if_pos c4] at H
      have c4b0 : ((Int.tmod a0 x3_1) == 0) = true := beq_iff_eq.mpr c4
      have c4b1 : ((Int.tmod a0 x3_1) != 0) = false := bne_eq_false_iff_eq.mpr c4
      clear c4
      obtain rfl := Option.some.inj H
      go_wp2
      go_ret
      exact ⟨by first | rfl | (simp; done) | (simp [*]; done), by repeat (first | exact Drawn0.refl _ | apply Drawn0.step)⟩
     ·rw [if_neg c4] at H
      have c4b0 : ((Int.tmod a0 x3_1) == 0) = false := beq_eq_false_iff_ne.mpr c4
      have c4b1 : ((Int.tmod a0 x3_1) != 0) = true := bne_iff_ne.mpr c4
      have H' := Aside0.mk H
      clear H
      go_wp2
      go_roundg k1
      case measure => have := HK1.out; omega
      case rel => exact ⟨(wrap64 (x3_1 + 1)), (by first | rfl | (simp; done) | (simp [*]; done)), H', ⟨by have := HK1.out; omega⟩, by repeat (first | exact Drawn0.refl _ | apply Drawn0.step)⟩
   ·rw [if_neg c2] at H
    have c2b0 : decide ((wrap64 (x3_1 * x3_1)) ≤ a0) = false := decide_eq_false c2
    clear c2
    replace H := Option.bind_eq_some_iff.mp H
    obtain ⟨t127, A50, H⟩ := H
    replace H : (some t127) = some r := H
    have A5 := Aside0.mk A50
    clear A50
    obtain rfl := Option.some.inj H
    go_wp2_with (first | ((with_reducible refine gate_callee (f := 159) rfl ?_); refine goesL_ (some 16) rfl rfl Try.func159 (by kernel_rfl) rfl #[.int .i64 a0, .int .i64 3, .int .i64 61] rfl ar ?_; (with_reducible refine (impl_within.calls a0 3 61 t127 _ A5.out).mono ?_); rintro e w' ⟨rfl, ⟨nd, rfl⟩⟩; refine ⟨_, rfl, ?_⟩))
    go_ret
    exact ⟨by first | rfl | (simp; done) | (simp [*]; done), by repeat (first | exact Drawn0.refl _ | apply Drawn0.step)⟩

/-! ### impl_around: function 223 -/
def impl_around.f (a0 : Int) (a1 : Int) : Option (Int) := if a1 = 0 then (none) else (some (Int.tmod (wrap64 ((Int.tmod a0 a1) + a1)) a1))
set_option maxHeartbeats 8000000 in
set_option maxRecDepth 100000 in
theorem impl_around.calls (a0 : Int) (a1 : Int) (r : Int) (w : World) (h : impl_around.f a0 a1 = some r) :
  Calls Try.prog 223 #[.int .i64 a0, .int .i64 a1] w fun e w' => e = .returned (.int .i64 r) ∧ Drawn0 w w' := by
 have H : (if a1 = 0 then (none) else (some (Int.tmod (wrap64 ((Int.tmod a0 a1) + a1)) a1))) = some r := h
 clear h
 by_cases c3 : a1 = 0
 ·rw [if_pos c3] at H
  exact absurd H (by simp)
 ·rw [if_neg c3] at H
  have c3b0 : (a1 == 0) = false := beq_eq_false_iff_ne.mpr c3
  have c3b1 : (a1 != 0) = true := bne_iff_ne.mpr c3
  obtain rfl := Option.some.inj H
  go_enter Try.func223, Try.ntmps223
  go_wp2
  go_ret
  exact ⟨by first | rfl | (simp; done) | (simp [*]; done), by repeat (first | exact Drawn0.refl _ | apply Drawn0.step)⟩

end Go.Proofs.Ytgcggngleiggiaa.Pr
