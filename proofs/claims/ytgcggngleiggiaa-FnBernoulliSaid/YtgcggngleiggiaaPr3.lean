-- Printed by a program of this session, hand-proved contracts among it.
import Derived.Test.YtgcggngleiggiaaPr0
import Derived.Test.YtgcggngleiggiaaPr2
namespace Go.Proofs.Ytgcggngleiggiaa.Pr
open Go.RowKit Go.Proofs.YtgcggngleiggiaaW.PrintWords Go.Proofs.YtgcggngleiggiaaW.PrintLast Go.Proofs.YtgcggngleiggiaaW.PrintMore Go.Proofs.Ytgcggngleiggiaa.Sq
attribute [local go_sem] max2_int min2_int max_two min_two max_three min_three max_four min_four   -- for this text's walks alone
set_option linter.unusedVariables false
set_option linter.unusedSimpArgs false

/-! ### impl_power: function 121 -/
def impl_power.l0 : Nat → Int → Int → Int → Int → Option (Int)
 | 0, _, _, _, _ => none
 | k + 1, x0, x1, x2, x7 => if x1 > 0 then (if (Int.tmod x1 2) = 1 then (if x2 = 0 then (none) else (impl_power.l0 k (Int.tmod (wrap64 (x0 * x0)) x2) (wrap64 (Int.tdiv x1 2)) x2 (Int.tmod (wrap64 (x7 * x0)) x2))) else (if x2 = 0 then (none) else (impl_power.l0 k (Int.tmod (wrap64 (x0 * x0)) x2) (wrap64 (Int.tdiv x1 2)) x2 x7))) else (some x7)
def impl_power.f (k : Nat) (a0 : Int) (a1 : Int) (a2 : Int) : Option (Int) := if a2 = 0 then (none) else ((impl_around.f a0 a2).bind fun t128 => (impl_power.l0 k t128 a1 a2 ((1 : Int) % a2)))
set_option maxHeartbeats 8000000 in
set_option maxRecDepth 100000 in
theorem impl_power.calls (k : Nat) (a0 : Int) (a1 : Int) (a2 : Int) (r : Int) (w : World) (h : impl_power.f k a0 a1 a2 = some r) :
  Calls Try.prog 121 #[.int .i64 a0, .int .i64 a1, .int .i64 a2] w fun e w' => e = .returned (.int .i64 r) ∧ Drawn0 w w' := by
 have H : (if a2 = 0 then (none) else ((impl_around.f a0 a2).bind fun t128 => (impl_power.l0 k t128 a1 a2 ((1 : Int) % a2)))) = some r := h
 clear h
 by_cases c4 : a2 = 0
 ·rw [if_pos c4] at H
  exact absurd H (by simp)
 ·rw [if_neg c4] at H
  have c4b0 : (a2 == 0) = false := beq_eq_false_iff_ne.mpr c4
  have c4b1 : (a2 != 0) = true := bne_iff_ne.mpr c4
  replace H := Option.bind_eq_some_iff.mp H
  obtain ⟨t128, A50, H⟩ := H
  replace H : (impl_power.l0 k t128 a1 a2 ((1 : Int) % a2)) = some r := H
  have A5 := Aside0.mk A50
  clear A50
  have H' := Aside0.mk H
  clear H
  go_enter Try.func121, Try.ntmps121
  go_wp2_with (first | ((with_reducible refine gate_callee (f := 223) rfl ?_); refine goesL_ (some 12) rfl rfl Try.func223 (by kernel_rfl) rfl #[.int .i64 a0, .int .i64 a2] rfl ar ?_; (with_reducible refine (impl_around.calls a0 a2 t128 _ A5.out).mono ?_); rintro e w' ⟨rfl, ⟨nd, rfl⟩⟩; refine ⟨_, rfl, ?_⟩))
  go_loopg [0, 1, 7] k (fun kq v0 v1 v7 w' => ∃ (x0_1 : Int) (x1_1 : Int) (x7_1 : Int), v0 = .int .i64 x0_1 ∧ v1 = .int .i64 x1_1 ∧ v7 = .int .i64 x7_1 ∧ Aside0 (impl_power.l0 kq x0_1 x1_1 a2 x7_1 = some r) ∧ Aside0 (kq ≤ k) ∧ Drawn0 w w')
  case atStart => exact ⟨(t128), (a1), ((1 : Int) % a2), (by first | rfl | (simp; done) | (simp [*]; done)), (by first | rfl | (simp; done) | (simp [*]; done)), (by first | rfl | (simp; done) | (simp [*]; done)), H', ⟨Nat.le_refl _⟩, by repeat (first | exact Drawn0.refl _ | apply Drawn0.step)⟩
  case round =>
   clear H'
   try clear c1
   try clear c2
   try clear p2
   try clear c4
   try clear c4b0
   try clear c4b1
   obtain ⟨x0_1, x1_1, x7_1, rfl, rfl, rfl, HA, HK1, ⟨m1, rfl⟩⟩ := hrel
   cases gk with
   | zero => exact absurd HA.out (by simp [impl_power.l0])
   | succ k1 =>
    have H := HA.out
    clear HA
    simp only [impl_power.l0] at H
    by_cases c6 : x1_1 > 0
    ·rw [if_pos c6] at H
     have c6b0 : decide (0 < x1_1) = true := decide_eq_true c6
     clear c6
     by_cases c7 : (Int.tmod x1_1 2) = 1
     ·rw [if_pos c7] at H
      have c7b0 : ((Int.tmod x1_1 2) == 1) = true := beq_iff_eq.mpr c7
      have c7b1 : ((Int.tmod x1_1 2) != 1) = false := bne_eq_false_iff_eq.mpr c7
      clear c7
      by_cases c8 : a2 = 0
      ·rw [if_pos c8] at H
       exact absurd H (by simp)
      ·rw [if_neg c8] at H
       have c8b0 : (a2 == 0) = false := beq_eq_false_iff_ne.mpr c8
       have c8b1 : (a2 != 0) = true := bne_iff_ne.mpr c8
       have H' := Aside0.mk H
       clear H
       go_wp2
       go_roundg k1
       case measure => have := HK1.out; omega
       case rel => exact ⟨(Int.tmod (wrap64 (x0_1 * x0_1)) a2), (wrap64 (Int.tdiv x1_1 2)), (Int.tmod (wrap64 (x7_1 * x0_1)) a2), (by first | rfl | (simp; done) | (simp [*]; done)), (by first | rfl | (simp; done) | (simp [*]; done)), (by first | rfl | (simp; done) | (simp [*]; done)), H', ⟨by have := HK1.out; omega⟩, by repeat (first | exact Drawn0.refl _ | apply Drawn0.step)⟩
     ·rw [if_neg c7] at H
      have c7b0 : ((Int.tmod x1_1 2) == 1) = false := beq_eq_false_iff_ne.mpr c7
      have c7b1 : ((Int.tmod x1_1 2) != 1) = true := bne_iff_ne.mpr c7
      by_cases c9 : a2 = 0
      ·rw [if_pos c9] at H
       exact absurd H (by simp)
      ·rw [if_neg c9] at H
       have c9b0 : (a2 == 0) = false := beq_eq_false_iff_ne.mpr c9
       have c9b1 : (a2 != 0) = true := bne_iff_ne.mpr c9
       have H' := Aside0.mk H
       clear H
       go_wp2
       go_roundg k1
       case measure => have := HK1.out; omega
       case rel => exact ⟨(Int.tmod (wrap64 (x0_1 * x0_1)) a2), (wrap64 (Int.tdiv x1_1 2)), (x7_1), (by first | rfl | (simp; done) | (simp [*]; done)), (by first | rfl | (simp; done) | (simp [*]; done)), (by first | rfl | (simp; done) | (simp [*]; done)), H', ⟨by have := HK1.out; omega⟩, by repeat (first | exact Drawn0.refl _ | apply Drawn0.step)⟩
    ·rw [if_neg c6] at H
     have c6b0 : decide (0 < x1_1) = false := decide_eq_false c6
     clear c6
     obtain rfl := Option.some.inj H
     go_wp2
     go_ret
     exact ⟨by first | rfl | (simp; done) | (simp [*]; done), by repeat (first | exact Drawn0.refl _ | apply Drawn0.step)⟩

/-! ### impl_bernoulliBy: function 169 -/
mutual
def impl_bernoulliBy.l0 : Nat → Int → Int → List Int → List Int → Int → Option (List Int)
 | 0, _, _, _, _, _ => none
 | k + 1, x0, x1, x5, x6, x7 => if x7 ≤ x1 then (impl_bernoulliBy.l1 k x0 x1 x5 x6 x7 (([1] : List Int)) 1) else (some x5)
def impl_bernoulliBy.l1 : Nat → Int → Int → List Int → List Int → Int → List Int → Int → Option (List Int)
 | 0, _, _, _, _, _, _, _ => none
 | k + 1, x0, x1, x5, x6, x7, x8, x9 => if x9 < (x6.length : Int) then (if 0 ≤ (wrap64 (x9 - 1)) then (if (wrap64 (x9 - 1)) < (x6.length : Int) then (if 0 ≤ x9 then (if x0 = 0 then (none) else (if x8.length < 17592186044416 then (impl_bernoulliBy.l1 k x0 x1 x5 x6 x7 (x8 ++ [Int.tmod (wrap64 ((rd x6 (wrap64 (x9 - 1))) + (rd x6 x9))) x0]) (wrap64 (x9 + 1))) else (none))) else (none)) else (none)) else (none)) else (if x8.length < 17592186044416 then (impl_bernoulliBy.l2 k x0 x1 x5 (x8 ++ [1]) x7 0 x5 (x5.length : Int) 0) else (none))
def impl_bernoulliBy.l2 : Nat → Int → Int → List Int → List Int → Int → Int → List Int → Int → Int → Option (List Int)
 | 0, _, _, _, _, _, _, _, _, _ => none
 | k + 1, x0, x1, x5, x6, x7, x10, x45, x46, x47 => if x47 < x46 then (if 0 ≤ x47 then (if x47 < (x45.length : Int) then (if x47 < (x6.length : Int) then (impl_bernoulliBy.l2 k x0 x1 x5 x6 x7 (wrap64 (x10 + (wrap64 ((rd x6 x47) * (rd x45 x47))))) x45 x46 (wrap64 (x47 + 1))) else (none)) else (none)) else (none)) else ((impl_around.f (wrap64 (-x10)) x0).bind fun t148 => ((impl_power.f k (wrap64 (x7 + 1)) (wrap64 (x0 - 2)) x0).bind fun t149 => (if x0 = 0 then (none) else (if x5.length < 17592186044416 then (impl_bernoulliBy.l0 k x0 x1 (x5 ++ [Int.tmod (wrap64 (t148 * t149)) x0]) x6 (wrap64 (x7 + 1))) else (none)))))
end
def impl_bernoulliBy.f (k : Nat) (a0 : Int) (a1 : Int) : Option (List Int) := impl_bernoulliBy.l0 k a0 a1 (([1] : List Int)) (([1, 1] : List Int)) 1
def impl_bernoulliBy.T10 : Bool × List (List Nat × List Nat) := (true, [([], []), ([], []), ([], []), ([2], [2]), ([1, 3], [1, 3]), ([4], [4]), ([], []), ([], []), ([6, 7], [6, 7]), ([8], [8]), ([5, 9], [5, 9]), ([], []), ([10, 11], [10, 11]), ([12], [12]), ([0, 13], [0, 13]), ([14, 14, 0, 1, 2, 3, 4, 5, 6, 7, 8, 9, 10, 11, 12, 13, 14], [0, 14])])
def impl_bernoulliBy.B10 : List Nat := [0, 0, 0, 4, 14, 30, 0, 0, 192, 448, 1022, 0, 4094, 8190, 16383, 32767]
theorem impl_bernoulliBy.tab10 : rtab .any (opsOf Try.f169 10) = impl_bernoulliBy.T10 := by kernel_rfl
theorem impl_bernoulliBy.bits10 : waitsOk impl_bernoulliBy.T10.2 impl_bernoulliBy.B10 = true := by kernel_rfl
set_option maxHeartbeats 8000000 in
set_option maxRecDepth 100000 in
theorem impl_bernoulliBy.calls (k : Nat) (a0 : Int) (a1 : Int) (r : List Int) (w : World) (h : impl_bernoulliBy.f k a0 a1 = some r) :
  Calls Try.prog 169 #[.int .i64 a0, .int .i64 a1] w fun e w' => ∃ v0_ : Value, e = .returned (v0_) ∧ Kd.R (Kd.int .i64) 2 w' w.heap.size (fun _ => True) v0_ r ∧ Below w.heap.size w w' := by
 have HB := Aside0.mk (Below.refl w.heap.size w)
 have H : (impl_bernoulliBy.l0 k a0 a1 (([1] : List Int)) (([1, 1] : List Int)) 1) = some r := h
 clear h
 obtain ⟨y129, hy129⟩ : ∃ y_ : List Int, y_ = (([1] : List Int)) := ⟨_, rfl⟩
 replace H : (impl_bernoulliBy.l0 k a0 a1 y129 (([1, 1] : List Int)) 1) = some r := by first | (rw [hy129]; with_reducible exact H) | (rw [hy129]; with_reducible exact (bs H :)) | with_reducible exact (bs H :) | exact H
 have Ny129 := Aside0.mk hy129
 clear hy129
 obtain ⟨y132, hy132⟩ : ∃ y_ : List Int, y_ = (([1, 1] : List Int)) := ⟨_, rfl⟩
 replace H : (impl_bernoulliBy.l0 k a0 a1 y129 y132 1) = some r := by first | (rw [hy132]; with_reducible exact H) | (rw [hy132]; with_reducible exact (bs H :)) | with_reducible exact (bs H :) | exact H
 have Ny132 := Aside0.mk hy132
 clear hy132
 have H' := Aside0.mk H
 clear H
 go_enter Try.func169, Try.ntmps169
 go_wp2_with (first | ((with_reducible refine gate_dst (N := 13) rfl ?_); refine Kd.R_lit (Kd.int .i64) _ 2 ?hg (N := 13) ?hd (xs := ([1] : List Int)) (inner := [.int .i64 1]) (ok := fun _ => True) (okp := fun _ => True) ?hr ?hp (fun _ hk => hk) trivial (Below.refl _ _) (Nat.le_refl _) (by simp) ?_; (case hd => rfl); (case hg => rfl); (case hr => first | (go_simp; done) | (go_simp; rfl)); (case hp => exact (Reps.one (show Kd.M (Kd.int .i64) _ _ _ 1 [.int .i64 1] from rfl) (Reps.none _ _))); intro v130 w3 ho4 hb hg_ hnew_; clear hg_ hnew_; (first | rw [← Ny129.out] at ho4 | (simp only [Int.reduceToNat] at ho4; rw [← Ny129.out] at ho4)); have HO131 := Aside0.mk (Kd.R_lower ho4 (below_size tb)); replace HB := Aside0.mk (below_step tb hb); clear hb ho4) | ((with_reducible refine gate_dst (N := 14) rfl ?_); refine Kd.R_lit (Kd.int .i64) _ 2 ?hg (N := 14) ?hd (xs := ([1, 1] : List Int)) (inner := [.int .i64 1, .int .i64 1]) (ok := fun _ => True) (okp := fun _ => True) ?hr ?hp (fun _ hk => hk) trivial (Below.refl _ _) (Nat.le_refl _) (by simp) ?_; (case hd => rfl); (case hg => rfl); (case hr => first | (go_simp; done) | (go_simp; rfl)); (case hp => exact (Reps.one (show Kd.M (Kd.int .i64) _ _ _ 1 [.int .i64 1] from rfl) (Reps.one (show Kd.M (Kd.int .i64) _ _ _ 1 [.int .i64 1] from rfl) (Reps.none _ _)))); intro v133 w5 ho6 hb hg_ hnew_; clear hg_ hnew_; (first | rw [← Ny132.out] at ho6 | (simp only [Int.reduceToNat] at ho6; rw [← Ny132.out] at ho6)); have HO134 := Aside0.mk (Kd.R_lower (Kd.R_new' ho6 (Kd.R_lt (kR HO131.out))) (below_size tb)); replace HO131 := Aside0.mk (Kd.R_elder' (kR HO131.out) (Kd.R_base ho6) hb); replace HB := Aside0.mk (below_step tb hb); clear hb ho6))
 go_loopg [5, 6, 7] k (fun kq v5 v6 v7 w' => ∃ (x5_1 : List Int) (x6_1 : List Int) (x7_1 : Int), v7 = .int .i64 x7_1 ∧ Aside0 (impl_bernoulliBy.l0 kq a0 a1 x5_1 x6_1 x7_1 = some r) ∧ Aside0 (kq ≤ k) ∧ Aside0 (Kd.R (Kd.int .i64) 2 w' w.heap.size (fun k_ => some k_ ≠ (v6 : Value).ownBlock) v5 x5_1) ∧ Aside0 (Kd.R (Kd.int .i64) 2 w' w.heap.size (fun k_ => some k_ ≠ (v5 : Value).ownBlock) v6 x6_1) ∧ Aside0 (Below w.heap.size w w'))
 case atStart => exact ⟨(y129), (y132), (1), (by first | rfl | (simp; done) | (simp [*]; done)), H', ⟨Nat.le_refl _⟩, ⟨by (with_reducible repeat (first | apply Kd.R_alloc | apply Kd.R_drewN | apply Kd.R_drew)); exact Kd.R_mono HO131.out (fun _ hk => hk.2)⟩, ⟨by (with_reducible repeat (first | apply Kd.R_alloc | apply Kd.R_drewN | apply Kd.R_drew)); exact Kd.R_mono HO134.out (fun _ hk => hk.2)⟩, ⟨tb⟩⟩
 case round =>
  clear H'
  try clear c1
  try clear p2
  obtain ⟨x5_1, x6_1, x7_1, rfl, HA, HK1, HO_5, HO_6, HB⟩ := hrel
  cases gk with
  | zero => exact absurd HA.out (by simp [impl_bernoulliBy.l0])
  | succ k1 =>
   have H := HA.out
   clear HA
   simp only [impl_bernoulliBy.l0] at H
   by_cases c7 : x7_1 ≤ a1
   ·rw [if_pos c7] at H
    have c7b0 : decide (x7_1 ≤ a1) = true := decide_eq_true c7
    clear c7
    obtain ⟨y135, hy135⟩ : ∃ y_ : List Int, y_ = (([1] : List Int)) := ⟨_, rfl⟩
    replace H : (impl_bernoulliBy.l1 k1 a0 a1 x5_1 x6_1 x7_1 y135 1) = some r := by first | (rw [hy135]; with_reducible exact H) | (rw [hy135]; with_reducible exact (bs H :)) | with_reducible exact (bs H :) | exact H
    have Ny135 := Aside0.mk hy135
    clear hy135
    have H' := Aside0.mk H
    clear H
    go_wp2_with (first | ((with_reducible refine gate_dst (N := 20) rfl ?_); refine Kd.R_lit (Kd.int .i64) _ 2 ?hg (N := 20) ?hd (xs := ([1] : List Int)) (inner := [.int .i64 1]) (ok := fun _ => True) (okp := fun _ => True) ?hr ?hp (fun _ hk => hk) trivial (Below.refl _ _) (Nat.le_refl _) (by simp) ?_; (case hd => rfl); (case hg => rfl); (case hr => first | (go_simp; done) | (go_simp; rfl)); (case hp => exact (Reps.one (show Kd.M (Kd.int .i64) _ _ _ 1 [.int .i64 1] from rfl) (Reps.none _ _))); intro v136 w8 ho9 hb hg_ hnew_; clear hg_ hnew_; (first | rw [← Ny135.out] at ho9 | (simp only [Int.reduceToNat] at ho9; rw [← Ny135.out] at ho9)); have HO137 := Aside0.mk (Kd.R_lower (Kd.R_new' (Kd.R_new' ho9 (Kd.R_lt (kR HO_5.out))) (Kd.R_lt (kR HO_6.out))) (below_size tb)); replace HO_5 := Aside0.mk (Kd.R_elder' (kR HO_5.out) (Kd.R_base ho9) hb); replace HO_6 := Aside0.mk (Kd.R_elder' (kR HO_6.out) (Kd.R_base ho9) hb); replace HB := Aside0.mk (below_step tb hb); clear hb ho9))
    go_loopg [8, 9] k1 (fun kq v8 v9 w' => ∃ (x8_2 : List Int) (x9_2 : Int), v9 = .int .i64 x9_2 ∧ Aside0 (impl_bernoulliBy.l1 kq a0 a1 x5_1 x6_1 x7_1 x8_2 x9_2 = some r) ∧ Aside0 (kq ≤ k1) ∧ Aside0 (Kd.R (Kd.int .i64) 2 w' w.heap.size (fun k_ => some k_ ≠ (u6 : Value).ownBlock ∧ some k_ ≠ (v8 : Value).ownBlock) u5 x5_1) ∧ Aside0 (Kd.R (Kd.int .i64) 2 w' w.heap.size (fun k_ => some k_ ≠ (u5 : Value).ownBlock ∧ some k_ ≠ (v8 : Value).ownBlock) u6 x6_1) ∧ Aside0 (Kd.R (Kd.int .i64) 2 w' w.heap.size (fun k_ => some k_ ≠ (u5 : Value).ownBlock ∧ some k_ ≠ (u6 : Value).ownBlock) v8 x8_2) ∧ Aside0 (Below w.heap.size w w'))
    case atStart => exact ⟨(y135), (1), (by first | rfl | (simp; done) | (simp [*]; done)), H', ⟨Nat.le_refl _⟩, ⟨kR HO_5.out⟩, ⟨kR HO_6.out⟩, ⟨by (with_reducible repeat (first | apply Kd.R_alloc | apply Kd.R_drewN | apply Kd.R_drew)); exact Kd.R_mono HO137.out (fun _ hk => ⟨hk.1.2, hk.2⟩)⟩, ⟨tb⟩⟩
    case round =>
     clear H'
     try clear c1
     try clear p2
     try clear c7
     try clear c7b0
     try clear p2
     obtain ⟨x8_2, x9_2, rfl, HA, HK2, HO_5, HO_6, HO_8, HB⟩ := hrel
     cases gk with
     | zero => exact absurd HA.out (by simp [impl_bernoulliBy.l1])
     | succ k2 =>
      have H := HA.out
      clear HA
      simp only [impl_bernoulliBy.l1] at H
      by_cases c10 : x9_2 < (x6_1.length : Int)
      ·rw [if_pos c10] at H
       have c10b0 : decide (x9_2 < (x6_1.length : Int)) = true := decide_eq_true c10
       clear c10
       obtain ⟨ji11, hji11⟩ : ∃ j_ : Int, (wrap64 (x9_2 - 1)) = j_ := ⟨_, rfl⟩
       replace H : (if 0 ≤ (ji11) then (if (ji11) < (x6_1.length : Int) then (if 0 ≤ x9_2 then (if a0 = 0 then (none) else (if x8_2.length < 17592186044416 then (impl_bernoulliBy.l1 k2 a0 a1 x5_1 x6_1 x7_1 (x8_2 ++ [Int.tmod (wrap64 ((rd x6_1 (ji11)) + (rd x6_1 x9_2))) a0]) (wrap64 (x9_2 + 1))) else (none))) else (none)) else (none)) else (none)) = some r := by first | (rw [hji11] at H; exact H) | (simp only [hji11] at H ⊢; exact H)
       have hji11w : (IntKind.i64.wrap (x9_2 - 1)) = ji11 := (i64_w _).trans hji11
       by_cases c12 : 0 ≤ (ji11)
       ·rw [if_pos c12] at H
        have c12b0 : decide (0 ≤ (ji11)) = true := decide_eq_true c12
        clear c12
        by_cases c13 : (ji11) < (x6_1.length : Int)
        ·rw [if_pos c13] at H
         have c13b0 : decide ((ji11) < (x6_1.length : Int)) = true := decide_eq_true c13
         clear c13
         by_cases c14 : 0 ≤ x9_2
         ·rw [if_pos c14] at H
          have c14b0 : decide (0 ≤ x9_2) = true := decide_eq_true c14
          clear c14
          by_cases c15 : a0 = 0
          ·rw [if_pos c15] at H
           exact absurd H (by simp)
          ·rw [if_neg c15] at H
           have c15b0 : (a0 == 0) = false := beq_eq_false_iff_ne.mpr c15
           have c15b1 : (a0 != 0) = true := bne_iff_ne.mpr c15
           by_cases c16 : x8_2.length < 17592186044416
           ·rw [if_pos c16] at H
            have LMc16 := Aside0.mk c16
            clear c16
            obtain ⟨y140, hy140⟩ : ∃ y_ : List Int, y_ = (x8_2 ++ [Int.tmod (wrap64 ((rd x6_1 (ji11)) + (rd x6_1 x9_2))) a0]) := ⟨_, rfl⟩
            replace H : (impl_bernoulliBy.l1 k2 a0 a1 x5_1 x6_1 x7_1 y140 (wrap64 (x9_2 + 1))) = some r := by first | (rw [hy140]; with_reducible exact H) | (rw [hy140]; with_reducible exact (bs H :)) | with_reducible exact (bs H :) | exact H
            have Ny140 := Aside0.mk hy140
            clear hy140
            have H' := Aside0.mk H
            clear H
            obtain ⟨Ao17, co17, eo17⟩ := Kd.R_slice HO_6.out
            subst eo17
            try go_wp2
            replace HO_5 := Aside0.mk (Kd.R_drew HO_5.out)
            replace HO_6 := Aside0.mk (Kd.R_drew HO_6.out)
            replace HO_8 := Aside0.mk (Kd.R_drew HO_8.out)
            replace HB := Aside0.mk (below_drew1 HB.out)
            have p138 : 0 ≤ ((ji11) : Int) := od
            have q138 : (ji11) < (x6_1.length : Int) := od
            obtain ⟨ad138, e138, hx138_0⟩ := Kd.at_int (Kd.R_reads' HO_6.out).2.2 (ji11) p138 q138
            cases e138
            replace p138 := eq_true p138
            replace q138 := eq_true q138
            have p139 : 0 ≤ (x9_2 : Int) := od
            have q139 : x9_2 < (x6_1.length : Int) := od
            obtain ⟨ad139, e139, hx139_0⟩ := Kd.at_int (Kd.R_reads' HO_6.out).2.2 x9_2 p139 q139
            obtain rfl : ad138 = ad139 := (by injection e139)
            replace p139 := eq_true p139
            replace q139 := eq_true q139
            refine start_ (n := 16) (S := fun w' => w'.cell? (ad138.add ((ji11)).toNat) = some (.int .i64 (rd x6_1 (ji11))) ∧ w'.cell? (ad138.add (x9_2).toNat) = some (.int .i64 (rd x6_1 x9_2))) (ds := [13, 14]) #[false, false, false, false, false, false, false, false, false, false, false, false, false, false, false, false] (by kernel_rfl) rfl rfl ⟨hx138_0, hx139_0⟩ (fun hHeld => ?_); refine with_tabW impl_bernoulliBy.tab10 impl_bernoulliBy.bits10 (fun HT_ HW_ => ?_)
            generalize wr.drew = w18 at HO_5 HO_6 HO_8 HB hx138_0 hx139_0 hHeld ⊢
            refine pu 0 (some 27) #[true, false, false, false, false, false, false, false, false, false, false, false, false, false, false, false] ?_
            refine pu 1 (some 28) #[true, true, false, false, false, false, false, false, false, false, false, false, false, false, false, false] ?_
            refine pu 2 (some 29) #[true, true, true, false, false, false, false, false, false, false, false, false, false, false, false, false] ?_
            refine pu 3 (some 30) #[true, true, true, true, false, false, false, false, false, false, false, false, false, false, false, false] ?_
            refine pu 4 (some 31) #[true, true, true, true, true, false, false, false, false, false, false, false, false, false, false, false] ?_
            refine pu 6 (some 33) #[true, true, true, true, true, false, true, false, false, false, false, false, false, false, false, false] ?_
            refine pu 7 (some 34) #[true, true, true, true, true, false, true, true, false, false, false, false, false, false, false, false] ?_
            refine pu 8 (some 35) #[true, true, true, true, true, false, true, true, true, false, false, false, false, false, false, false] ?_
            refine pu 11 (some 38) #[true, true, true, true, true, false, true, true, true, false, false, true, false, false, false, false] ?_
            refine tk 5 (some 32) #[true, true, true, true, true, true, true, true, true, false, false, true, false, false, false, false] hHeld ?_
            refine tk 9 (some 36) #[true, true, true, true, true, true, true, true, true, true, false, true, false, false, false, false] hHeld ?_
            refine pu 10 (some 37) #[true, true, true, true, true, true, true, true, true, true, true, true, false, false, false, false] ?_
            refine pu 12 (some 39) #[true, true, true, true, true, true, true, true, true, true, true, true, true, false, false, false] ?_
            refine last_ (i := 13) (N := some 40) #[true, true, true, true, true, true, true, true, true, true, true, true, true, true, false, false] rfl rfl (one_of HT_.out (by kernel_rfl)) (by decide) (fun K hK => ?_)
            refine value_ (w1 := ?_) (v := ?_) (by rfl) rfl ?_ ?_
            rotate_left 2
            ·go_simp
             constructor
             ·rfl
             ·rfl
            refine hK.out _ _ ?_
            clear hK K
            refine nr ?_
            refine last_ (i := 14) (N := some 41) #[true, true, true, true, true, true, true, true, true, true, true, true, true, true, true, false] rfl rfl (one_of HT_.out (by kernel_rfl)) (by decide) (fun K hK => ?_)
            refine Kd.R_append_step (Kd.int .i64) (w0 := w) w.heap.size (by rfl) (.tmp 27) (.tmp 40) 27 2 (.int .i64 0) 8 rfl Try.underlying27 info2 rfl (by decide) (by omega) u8 x8_2 (Int.tmod (wrap64 ((rd x6_1 (ji11)) + (rd x6_1 x9_2))) a0) [.int .i64 (Int.tmod (wrap64 ((rd x6_1 (ji11)) + (rd x6_1 x9_2))) a0)] (fun k_ => some k_ ≠ (u5 : Value).ownBlock ∧ some k_ ≠ (.slice (some ad138) x6_1.length co17 : Value).ownBlock) (fun _ => False) rfl rfl ?aP (fun _ hk => hk.elim) ?aF ?aO ?aB ?aS ?aL ?_
            (case aP => exact rfl)
            (case aB => exact tb)
            (case aF => exact (fun k_ hk => ⟨Kd.fresh' (Kd.R_lt (kR HO_5.out)) k_ hk, Kd.fresh' (Kd.R_lt (kR HO_6.out)) k_ hk⟩))
            (case aO => exact (kR HO_8.out))
            (case aS => exact (below_size tb))
            (case aL => have := LMc16.out; omega)
            intro v141 w19 ho hb hg hat
            rw [← Ny140.out] at ho
            have n0_ := Aside0.mk (Kd.R_after (ok := (fun k_ => some k_ ≠ (.slice (some ad138) x6_1.length co17 : Value).ownBlock)) (kR HO_5.out) hg hat)
            have n1_ := Aside0.mk (Kd.R_after (ok := (fun k_ => some k_ ≠ (u5 : Value).ownBlock)) (kR HO_6.out) hg hat)
            have n2_ := Aside0.mk (hb)
            have n3_ := Aside0.mk (ho)
            clear HO_5
            clear HO_6
            clear HB
            clear HO_8
            have HO_5 := n0_
            have HO_6 := n1_
            have HB := n2_
            have HO142 := n3_
            clear n0_ n1_ n2_ n3_
            clear ho hb hg hat
            refine hK.out _ _ ?_
            clear hK K
            refine nr ?_
            refine pu 15 (some 8) #[true, true, true, true, true, true, true, true, true, true, true, true, true, true, true, true] ?_
            refine done_ (done_of HT_.out (by kernel_rfl)) ?_
            try go_wp2
            go_roundg k2
            case measure => have := HK1.out; have := HK2.out; omega
            case rel => exact ⟨(y140), (wrap64 (x9_2 + 1)), (by first | rfl | (simp; done) | (simp [*]; done)), H', ⟨by have := HK1.out; have := HK2.out; omega⟩, ⟨kR HO_5.out⟩, ⟨kR HO_6.out⟩, ⟨kR HO142.out⟩, ⟨tb⟩⟩
           ·rw [if_neg c16] at H
            exact absurd H (by simp)
         ·rw [if_neg c14] at H
          exact absurd H (by simp)
        ·rw [if_neg c13] at H
         exact absurd H (by simp)
       ·rw [if_neg c12] at H
        exact absurd H (by simp)
      ·rw [if_neg c10] at H
       have c10b0 : decide (x9_2 < (x6_1.length : Int)) = false := decide_eq_false c10
       clear c10
       by_cases c20 : x8_2.length < 17592186044416
       ·rw [if_pos c20] at H
        have LMc20 := Aside0.mk c20
        clear c20
        obtain ⟨y143, hy143⟩ : ∃ y_ : List Int, y_ = (x8_2 ++ [1]) := ⟨_, rfl⟩
        replace H : (impl_bernoulliBy.l2 k2 a0 a1 x5_1 y143 x7_1 0 x5_1 (x5_1.length : Int) 0) = some r := by first | (rw [hy143]; with_reducible exact H) | (rw [hy143]; with_reducible exact (bs H :)) | with_reducible exact (bs H :) | exact H
        have Ny143 := Aside0.mk hy143
        clear hy143
        have H' := Aside0.mk H
        clear H
        obtain ⟨Ao21, co21, eo21⟩ := Kd.R_slice HO_6.out
        subst eo21
        go_wp2_with (first | ((with_reducible refine gate_builtin (b := .append) (xs := #[.tmp 42, .tmp 43]) rfl ?_); at_builtin; refine Kd.R_append (Kd.int .i64) (w0 := w) w.heap.size rfl (.tmp 42) (.tmp 43) 27 2 (.int .i64 0) 8 rfl Try.underlying27 info2 rfl (by decide) (by omega) u8 x8_2 1 [.int .i64 1] (fun k_ => some k_ ≠ (u5 : Value).ownBlock ∧ some k_ ≠ (.slice Ao21 x6_1.length co21 : Value).ownBlock) (fun _ => False) rfl rfl ?aP (fun _ hk => hk.elim) ?aF ?aO ?aB ?aS ?aL ?_; (case aP => exact rfl); (case aB => exact tb); (case aF => exact (fun k_ hk => ⟨Kd.fresh' (Kd.R_lt (kR HO_5.out)) k_ hk, Kd.fresh' (Kd.R_lt (kR HO_6.out)) k_ hk⟩)); (case aO => exact (kR HO_8.out)); (case aS => exact (below_size tb)); (case aL => have := LMc20.out; omega); intro v144 w22 ho hb hg hat; rw [← Ny143.out] at ho; have n0_ := Aside0.mk (Kd.R_after (ok := (fun k_ => some k_ ≠ (.slice Ao21 x6_1.length co21 : Value).ownBlock)) (kR HO_5.out) hg hat); have n1_ := Aside0.mk (Kd.R_after (ok := (fun k_ => some k_ ≠ (u5 : Value).ownBlock)) (kR HO_6.out) hg hat); have n2_ := Aside0.mk (hb); have n3_ := Aside0.mk (ho); clear HO_5; clear HO_6; clear HB; clear HO_8; have HO_5 := n0_; have HO_6 := n1_; have HB := n2_; have HO145 := n3_; clear n0_ n1_ n2_ n3_; clear ho hb hg hat; obtain ⟨Ao23, co23, eo23⟩ := Kd.R_slice HO_5.out; subst eo23))
        go_loopg [10, 47] k2 (fun kq v10 v47 w' => ∃ (x10_3 : Int) (x47_3 : Int), v10 = .int .i64 x10_3 ∧ v47 = .int .i64 x47_3 ∧ Aside0 (impl_bernoulliBy.l2 kq a0 a1 x5_1 y143 x7_1 x10_3 x5_1 (x5_1.length : Int) x47_3 = some r) ∧ Aside0 (kq ≤ k2) ∧ Aside0 (Kd.R (Kd.int .i64) 2 w' w.heap.size (fun k_ => some k_ ≠ (v144 : Value).ownBlock) (.slice Ao23 x5_1.length co23) x5_1) ∧ Aside0 (Kd.R (Kd.int .i64) 2 w' w.heap.size (fun k_ => some k_ ≠ ((.slice Ao23 x5_1.length co23) : Value).ownBlock ∧ some k_ ≠ ((.slice Ao23 x5_1.length co23) : Value).ownBlock) v144 y143) ∧ Aside0 (Kd.R (Kd.int .i64) 2 w' w.heap.size (fun k_ => some k_ ≠ (v144 : Value).ownBlock) (.slice Ao23 x5_1.length co23) x5_1) ∧ Aside0 (Below w.heap.size w w'))
        case atStart => exact ⟨(0), (0), (by first | rfl | (simp; done) | (simp [*]; done)), (by first | rfl | (simp; done) | (simp [*]; done)), H', ⟨Nat.le_refl _⟩, ⟨by (with_reducible repeat (first | apply Kd.R_alloc | apply Kd.R_drewN | apply Kd.R_drew)); exact Kd.R_mono HO_5.out (fun _ hk => hk.2)⟩, ⟨by (with_reducible repeat (first | apply Kd.R_alloc | apply Kd.R_drewN | apply Kd.R_drew)); exact Kd.R_mono HO145.out (fun _ hk => ⟨hk.1, hk.1⟩)⟩, ⟨by (with_reducible repeat (first | apply Kd.R_alloc | apply Kd.R_drewN | apply Kd.R_drew)); exact Kd.R_mono HO_5.out (fun _ hk => hk.2)⟩, ⟨tb⟩⟩
        case round =>
         clear H'
         try clear c1
         try clear p1
         try clear q1
         try clear hx1
         try clear c2
         try clear p2
         try clear p6
         try clear c7
         try clear c7b0
         try clear c10
         try clear c10b0
         try clear c12
         try clear c12b0
         try clear c13
         try clear c13b0
         try clear p13
         try clear q13
         try clear hx13
         try clear c14
         try clear c14b0
         try clear c15
         try clear c15b0
         try clear c15b1
         try clear c16
         try clear c20
         try clear hx138_0
         try clear hx139_0
         try clear p138
         try clear p139
         try clear p2
         try clear q138
         try clear q139
         obtain ⟨x10_3, x47_3, rfl, rfl, HA, HK3, HO_5, HO_6, HO_45, HB⟩ := hrel
         cases gk with
         | zero => exact absurd HA.out (by simp [impl_bernoulliBy.l2])
         | succ k3 =>
          have H := HA.out
          clear HA
          simp only [impl_bernoulliBy.l2] at H
          by_cases c24 : x47_3 < (x5_1.length : Int)
          ·rw [if_pos c24] at H
           have c24b0 : decide (x47_3 < (x5_1.length : Int)) = true := decide_eq_true c24
           clear c24
           by_cases c25 : 0 ≤ x47_3
           ·rw [if_pos c25] at H
            have c25b0 : decide (0 ≤ x47_3) = true := decide_eq_true c25
            clear c25
            by_cases c26 : x47_3 < (x5_1.length : Int)
            ·rw [if_pos c26] at H
             have c26b0 : decide (x47_3 < (x5_1.length : Int)) = true := decide_eq_true c26
             clear c26
             by_cases c27 : x47_3 < (y143.length : Int)
             ·rw [if_pos c27] at H
              have c27b0 : decide (x47_3 < (y143.length : Int)) = true := decide_eq_true c27
              clear c27
              have H' := Aside0.mk H
              clear H
              have p146 : 0 ≤ (x47_3 : Int) := od
              have q146 : x47_3 < (x5_1.length : Int) := od
              obtain ⟨ad146, e146, hx146_0⟩ := Kd.at_int (Kd.R_reads' HO_45.out).2.2 x47_3 p146 q146
              cases e146
              replace p146 := eq_true p146
              replace q146 := eq_true q146
              obtain ⟨Ao28, co28, eo28⟩ := Kd.R_slice HO_6.out
              subst eo28
              have p147 : 0 ≤ (x47_3 : Int) := od
              have q147 : x47_3 < (y143.length : Int) := od
              obtain ⟨ad147, e147, hx147_0⟩ := Kd.at_int (Kd.R_reads' HO_6.out).2.2 x47_3 p147 q147
              cases e147
              replace p147 := eq_true p147
              replace q147 := eq_true q147
              go_wp2
              go_roundg k3
              case measure => have := HK1.out; have := HK2.out; have := HK3.out; omega
              case rel => exact ⟨(wrap64 (x10_3 + (wrap64 ((rd y143 x47_3) * (rd x5_1 x47_3))))), (wrap64 (x47_3 + 1)), (by first | rfl | (simp; done) | (simp [*]; done)), (by first | rfl | (simp; done) | (simp [*]; done)), H', ⟨by have := HK1.out; have := HK2.out; have := HK3.out; omega⟩, ⟨kR HO_5.out⟩, ⟨kR HO_6.out⟩, ⟨kR HO_45.out⟩, ⟨tb⟩⟩
             ·rw [if_neg c27] at H
              exact absurd H (by simp)
            ·rw [if_neg c26] at H
             exact absurd H (by simp)
           ·rw [if_neg c25] at H
            exact absurd H (by simp)
          ·rw [if_neg c24] at H
           have c24b0 : decide (x47_3 < (x5_1.length : Int)) = false := decide_eq_false c24
           clear c24
           replace H := Option.bind_eq_some_iff.mp H
           obtain ⟨t148, A290, H⟩ := H
           replace H : ((impl_power.f k3 (wrap64 (x7_1 + 1)) (wrap64 (a0 - 2)) a0).bind fun t149 => (if a0 = 0 then (none) else (if x5_1.length < 17592186044416 then (impl_bernoulliBy.l0 k3 a0 a1 (x5_1 ++ [Int.tmod (wrap64 (t148 * t149)) a0]) y143 (wrap64 (x7_1 + 1))) else (none)))) = some r := H
           have A29 := Aside0.mk A290
           clear A290
           replace H := Option.bind_eq_some_iff.mp H
           obtain ⟨t149, A300, H⟩ := H
           replace H : (if a0 = 0 then (none) else (if x5_1.length < 17592186044416 then (impl_bernoulliBy.l0 k3 a0 a1 (x5_1 ++ [Int.tmod (wrap64 (t148 * t149)) a0]) y143 (wrap64 (x7_1 + 1))) else (none))) = some r := H
           have A30 := Aside0.mk A300
           clear A300
           by_cases c31 : a0 = 0
           ·rw [if_pos c31] at H
            exact absurd H (by simp)
           ·rw [if_neg c31] at H
            have c31b0 : (a0 == 0) = false := beq_eq_false_iff_ne.mpr c31
            have c31b1 : (a0 != 0) = true := bne_iff_ne.mpr c31
            by_cases c32 : x5_1.length < 17592186044416
            ·rw [if_pos c32] at H
             have LMc32 := Aside0.mk c32
             clear c32
             obtain ⟨y150, hy150⟩ : ∃ y_ : List Int, y_ = (x5_1 ++ [Int.tmod (wrap64 (t148 * t149)) a0]) := ⟨_, rfl⟩
             replace H : (impl_bernoulliBy.l0 k3 a0 a1 y150 y143 (wrap64 (x7_1 + 1))) = some r := by first | (rw [hy150]; with_reducible exact H) | (rw [hy150]; with_reducible exact (bs H :)) | with_reducible exact (bs H :) | exact H
             have Ny150 := Aside0.mk hy150
             clear hy150
             have H' := Aside0.mk H
             clear H
             go_wp2_with (first | ((with_reducible refine gate_callee (f := 223) rfl ?_); refine goesL_ (some 65) rfl rfl Try.func223 (by kernel_rfl) rfl #[.int .i64 (wrap64 (-x10_3)), .int .i64 a0] rfl ar ?_; (with_reducible refine (impl_around.calls (wrap64 (-x10_3)) a0 t148 _ A29.out).mono ?_); rintro e w' ⟨rfl, ⟨nd, rfl⟩⟩; refine ⟨_, rfl, ?_⟩) | ((with_reducible refine gate_callee (f := 121) rfl ?_); refine goesL_ (some 71) rfl rfl Try.func121 (by kernel_rfl) rfl #[.int .i64 (wrap64 (x7_1 + 1)), .int .i64 (wrap64 (a0 - 2)), .int .i64 a0] rfl ar ?_; (with_reducible refine (impl_power.calls k3 (wrap64 (x7_1 + 1)) (wrap64 (a0 - 2)) a0 t149 _ A30.out).mono ?_); rintro e w' ⟨rfl, ⟨nd, rfl⟩⟩; refine ⟨_, rfl, ?_⟩) | ((with_reducible refine gate_builtin (b := .append) (xs := #[.tmp 61, .tmp 75]) rfl ?_); at_builtin; refine Kd.R_append (Kd.int .i64) (w0 := w) w.heap.size rfl (.tmp 61) (.tmp 75) 27 2 (.int .i64 0) 8 rfl Try.underlying27 info2 rfl (by decide) (by omega) (.slice Ao23 x5_1.length co23) x5_1 (Int.tmod (wrap64 (t148 * t149)) a0) [.int .i64 (Int.tmod (wrap64 (t148 * t149)) a0)] (fun k_ => some k_ ≠ (v144 : Value).ownBlock) (fun _ => False) rfl rfl ?aP (fun _ hk => hk.elim) ?aF ?aO ?aB ?aS ?aL ?_; (case aP => exact rfl); (case aB => exact tb); (case aF => exact (fun k_ hk => Kd.fresh' (Kd.R_lt (kR HO_6.out)) k_ hk)); (case aO => exact (kR HO_5.out)); (case aS => exact (below_size tb)); (case aL => have := LMc32.out; omega); intro v151 w33 ho hb hg hat; rw [← Ny150.out] at ho; have n0_ := Aside0.mk (Kd.R_after (ok := (fun _ => True)) (by (with_reducible repeat (first | apply Kd.R_alloc | apply Kd.R_drewN | apply Kd.R_drew)); exact Kd.R_mono HO_6.out (fun _ hk => ⟨trivial, hk.1⟩)) hg hat); have n1_ := Aside0.mk (hb); have n2_ := Aside0.mk (ho); clear HO_6; clear HB; clear HO_5; have HO_6 := n0_; have HB := n1_; have HO152 := n2_; clear n0_ n1_ n2_; clear ho hb hg hat))
             go_roundg k3
             case measure => have := HK1.out; have := HK2.out; have := HK3.out; omega
             case rel => exact ⟨(y150), (y143), (wrap64 (x7_1 + 1)), (by first | rfl | (simp; done) | (simp [*]; done)), H', ⟨by have := HK1.out; have := HK2.out; have := HK3.out; omega⟩, ⟨kR HO152.out⟩, ⟨by (with_reducible repeat (first | apply Kd.R_alloc | apply Kd.R_drewN | apply Kd.R_drew)); exact Kd.R_mono HO_6.out (fun _ hk => hk.2)⟩, ⟨tb⟩⟩
            ·rw [if_neg c32] at H
             exact absurd H (by simp)
       ·rw [if_neg c20] at H
        exact absurd H (by simp)
   ·rw [if_neg c7] at H
    have c7b0 : decide (x7_1 ≤ a1) = false := decide_eq_false c7
    clear c7
    obtain rfl := Option.some.inj H
    go_wp2
    go_ret
    exact ⟨_, by first | rfl | (simp [errW_none, errW_some] <;> rfl) | (simp [*, errW_none, errW_some] <;> rfl), by (with_reducible repeat (first | apply Kd.R_alloc | apply Kd.R_drewN | apply Kd.R_drew)); exact Kd.R_mono HO_5.out (fun _ hk => trivial), tb⟩

/-! ### impl_IrregularOf: function 66 -/
def impl_IrregularOf.l0 : Nat → List Int → List Int → Int → Int → Option (List Int × Int)
 | 0, _, _, _, _ => none
 | k + 1, x4, x14, x15, x16 => if x16 < x15 then (if 0 ≤ x16 then (if x16 < (x14.length : Int) then (if x16 ≥ 2 then (if (Int.tmod x16 2) = 0 then (if (rd x14 x16) = 0 then (if x4.length < 17592186044416 then (impl_IrregularOf.l0 k (x4 ++ [x16]) x14 x15 (wrap64 (x16 + 1))) else (none)) else (impl_IrregularOf.l0 k x4 x14 x15 (wrap64 (x16 + 1)))) else (impl_IrregularOf.l0 k x4 x14 x15 (wrap64 (x16 + 1)))) else (impl_IrregularOf.l0 k x4 x14 x15 (wrap64 (x16 + 1)))) else (none)) else (none)) else (some (x4, 0))
def impl_IrregularOf.f (k : Nat) (a0 : Int) : Option (List Int × Int) := (impl_isPrime.f k a0).bind fun t153 => (if t153 = true then ((impl_bernoulliBy.f k a0 (wrap64 (a0 - 3))).bind fun t157 => (impl_IrregularOf.l0 k (([] : List Int)) t157 (t157.length : Int) 0)) else (some (([] : List Int), 2)))
set_option maxHeartbeats 8000000 in
set_option maxRecDepth 100000 in
theorem impl_IrregularOf.calls (k : Nat) (a0 : Int) (r1 : List Int) (r2 : Int) (w : World) (h : impl_IrregularOf.f k a0 = some (r1, r2)) :
  Calls Try.prog 66 #[.int .i64 a0] w fun e w' => ∃ v0_ : Value, e = .returned (.tuple #[v0_, .int .i64 r2]) ∧ Kd.R (Kd.int .i64) 2 w' w.heap.size (fun _ => True) v0_ r1 ∧ Below w.heap.size w w' := by
 have HB := Aside0.mk (Below.refl w.heap.size w)
 have H : ((impl_isPrime.f k a0).bind fun t153 => (if t153 = true then ((impl_bernoulliBy.f k a0 (wrap64 (a0 - 3))).bind fun t157 => (impl_IrregularOf.l0 k (([] : List Int)) t157 (t157.length : Int) 0)) else (some (([] : List Int), 2)))) = some (r1, r2) := h
 clear h
 replace H := Option.bind_eq_some_iff.mp H
 obtain ⟨t153, A20, H⟩ := H
 replace H : (if t153 = true then ((impl_bernoulliBy.f k a0 (wrap64 (a0 - 3))).bind fun t157 => (impl_IrregularOf.l0 k (([] : List Int)) t157 (t157.length : Int) 0)) else (some (([] : List Int), 2))) = some (r1, r2) := H
 have A2 := Aside0.mk A20
 clear A20
 by_cases c3 : t153 = true
 ·subst c3
  have H1 : ((impl_bernoulliBy.f k a0 (wrap64 (a0 - 3))).bind fun t157 => (impl_IrregularOf.l0 k (([] : List Int)) t157 (t157.length : Int) 0)) = some (r1, r2) := by rw [if_pos rfl] at H; exact H
  clear H
  have H := H1
  clear H1
  obtain ⟨y154, hy154⟩ : ∃ y_ : List Int, y_ = (([] : List Int)) := ⟨_, rfl⟩
  replace H : ((impl_bernoulliBy.f k a0 (wrap64 (a0 - 3))).bind fun t157 => (impl_IrregularOf.l0 k y154 t157 (t157.length : Int) 0)) = some (r1, r2) := by first | (rw [hy154]; with_reducible exact H) | (rw [hy154]; with_reducible exact (bs H :)) | with_reducible exact (bs H :) | exact H
  have Ny154 := Aside0.mk hy154
  clear hy154
  replace H := Option.bind_eq_some_iff.mp H
  obtain ⟨t157, A40, H⟩ := H
  replace H : (impl_IrregularOf.l0 k y154 t157 (t157.length : Int) 0) = some (r1, r2) := H
  have A4 := Aside0.mk A40
  clear A40
  have H' := Aside0.mk H
  clear H
  go_enter Try.func66, Try.ntmps66
  go_wp2_with (first | ((with_reducible refine gate_callee (f := 118) rfl ?_); refine goesL_ (some 8) rfl rfl Try.func118 (by kernel_rfl) rfl #[.int .i64 a0] rfl ar ?_; (with_reducible refine (impl_isPrime.calls k a0 true _ A2.out).mono ?_); rintro e w' ⟨rfl, ⟨nd, rfl⟩⟩; refine ⟨_, rfl, ?_⟩) | ((with_reducible refine gate_dst (N := 10) rfl ?_); refine Kd.R_lit (Kd.int .i64) _ 2 ?hg (N := 10) ?hd (xs := ([] : List Int)) (inner := []) (ok := fun _ => True) (okp := fun _ => True) ?hr ?hp (fun _ hk => hk) trivial (Below.refl _ _) (Nat.le_refl _) (by simp) ?_; (case hd => rfl); (case hg => rfl); (case hr => first | (go_simp; done) | (go_simp; rfl)); (case hp => exact (Reps.none _ _)); intro v155 w5 ho6 hb hg_ hnew_; clear hg_ hnew_; (first | rw [← Ny154.out] at ho6 | (simp only [Int.reduceToNat] at ho6; rw [← Ny154.out] at ho6)); have HO156 := Aside0.mk (Kd.R_lower ho6 (below_size tb)); replace HB := Aside0.mk (below_step tb hb); clear hb ho6) | ((with_reducible refine gate_callee (f := 169) rfl ?_); refine goesL_ (some 14) rfl rfl Try.func169 (by kernel_rfl) rfl #[.int .i64 a0, .int .i64 (wrap64 (a0 - 3))] rfl ar ?_; (with_reducible refine (impl_bernoulliBy.calls k a0 (wrap64 (a0 - 3)) t157 _ A4.out).mono ?_); rintro e w7 ⟨v158, rfl, ho0, hb⟩; refine ⟨_, rfl, ?_⟩; have HO159 := Aside0.mk (Kd.R_lower (Kd.R_new' ho0 (Kd.R_lt (kR HO156.out))) (below_size tb)); replace HO156 := Aside0.mk (Kd.R_elder' (kR HO156.out) (Kd.R_base ho0) hb); replace HB := Aside0.mk (below_step tb hb); (try clear hb); (try clear hb2); (try clear hk); (try clear hi); (try clear ho0); obtain ⟨Ao8, co8, eo8⟩ := Kd.R_slice HO159.out; subst eo8))
  go_loopg [4, 16] k (fun kq v4 v16 w' => ∃ (x4_1 : List Int) (x16_1 : Int), v16 = .int .i64 x16_1 ∧ Aside0 (impl_IrregularOf.l0 kq x4_1 t157 (t157.length : Int) x16_1 = some (r1, r2)) ∧ Aside0 (kq ≤ k) ∧ Aside0 (Kd.R (Kd.int .i64) 2 w' w.heap.size (fun k_ => some k_ ≠ ((.slice Ao8 t157.length co8) : Value).ownBlock) v4 x4_1) ∧ Aside0 (Kd.R (Kd.int .i64) 2 w' w.heap.size (fun k_ => some k_ ≠ (v4 : Value).ownBlock) (.slice Ao8 t157.length co8) t157) ∧ Aside0 (Below w.heap.size w w'))
  case atStart => exact ⟨(y154), (0), (by first | rfl | (simp; done) | (simp [*]; done)), H', ⟨Nat.le_refl _⟩, ⟨by (with_reducible repeat (first | apply Kd.R_alloc | apply Kd.R_drewN | apply Kd.R_drew)); exact Kd.R_mono HO156.out (fun _ hk => hk.2)⟩, ⟨by (with_reducible repeat (first | apply Kd.R_alloc | apply Kd.R_drewN | apply Kd.R_drew)); exact Kd.R_mono HO159.out (fun _ hk => hk.2)⟩, ⟨tb⟩⟩
  case round =>
   clear H'
   try clear c1
   try clear p2
   try clear c3
   try clear c6
   try clear p6
   obtain ⟨x4_1, x16_1, rfl, HA, HK1, HO_4, HO_14, HB⟩ := hrel
   cases gk with
   | zero => exact absurd HA.out (by simp [impl_IrregularOf.l0])
   | succ k1 =>
    have H := HA.out
    clear HA
    simp only [impl_IrregularOf.l0] at H
    by_cases c9 : x16_1 < (t157.length : Int)
    ·rw [if_pos c9] at H
     have c9b0 : decide (x16_1 < (t157.length : Int)) = true := decide_eq_true c9
     clear c9
     by_cases c10 : 0 ≤ x16_1
     ·rw [if_pos c10] at H
      have c10b0 : decide (0 ≤ x16_1) = true := decide_eq_true c10
      clear c10
      by_cases c11 : x16_1 < (t157.length : Int)
      ·rw [if_pos c11] at H
       have c11b0 : decide (x16_1 < (t157.length : Int)) = true := decide_eq_true c11
       clear c11
       by_cases c12 : x16_1 ≥ 2
       ·rw [if_pos c12] at H
        have c12b0 : decide (2 ≤ x16_1) = true := decide_eq_true c12
        clear c12
        by_cases c13 : (Int.tmod x16_1 2) = 0
        ·rw [if_pos c13] at H
         have c13b0 : ((Int.tmod x16_1 2) == 0) = true := beq_iff_eq.mpr c13
         have c13b1 : ((Int.tmod x16_1 2) != 0) = false := bne_eq_false_iff_eq.mpr c13
         clear c13
         by_cases c14 : (rd t157 x16_1) = 0
         ·rw [if_pos c14] at H
          have c14b0 : ((rd t157 x16_1) == 0) = true := beq_iff_eq.mpr c14
          have c14b1 : ((rd t157 x16_1) != 0) = false := bne_eq_false_iff_eq.mpr c14
          clear c14
          by_cases c15 : x4_1.length < 17592186044416
          ·rw [if_pos c15] at H
           have LMc15 := Aside0.mk c15
           clear c15
           obtain ⟨y161, hy161⟩ : ∃ y_ : List Int, y_ = (x4_1 ++ [x16_1]) := ⟨_, rfl⟩
           replace H : (impl_IrregularOf.l0 k1 y161 t157 (t157.length : Int) (wrap64 (x16_1 + 1))) = some (r1, r2) := by first | (rw [hy161]; with_reducible exact H) | (rw [hy161]; with_reducible exact (bs H :)) | with_reducible exact (bs H :) | exact H
           have Ny161 := Aside0.mk hy161
           clear hy161
           have H' := Aside0.mk H
           clear H
           have p160 : 0 ≤ (x16_1 : Int) := od
           have q160 : x16_1 < (t157.length : Int) := od
           obtain ⟨ad160, e160, hx160_0⟩ := Kd.at_int (Kd.R_reads' HO_14.out).2.2 x16_1 p160 q160
           cases e160
           replace p160 := eq_true p160
           replace q160 := eq_true q160
           go_wp2_with (first | ((with_reducible refine gate_builtin (b := .append) (xs := #[.tmp 32, .tmp 34]) rfl ?_); at_builtin; refine Kd.R_append (Kd.int .i64) (w0 := w) w.heap.size rfl (.tmp 32) (.tmp 34) 27 2 (.int .i64 0) 8 rfl Try.underlying27 info2 rfl (by decide) (by omega) u4 x4_1 x16_1 [.int .i64 x16_1] (fun k_ => some k_ ≠ (.slice (some ad160) t157.length co8 : Value).ownBlock) (fun _ => False) rfl rfl ?aP (fun _ hk => hk.elim) ?aF ?aO ?aB ?aS ?aL ?_; (case aP => exact rfl); (case aB => exact tb); (case aF => exact (fun k_ hk => Kd.fresh' (Kd.R_lt (kR HO_14.out)) k_ hk)); (case aO => exact (kR HO_4.out)); (case aS => exact (below_size tb)); (case aL => have := LMc15.out; omega); intro v162 w16 ho hb hg hat; rw [← Ny161.out] at ho; have n0_ := Aside0.mk (Kd.R_after (ok := (fun _ => True)) (by (with_reducible repeat (first | apply Kd.R_alloc | apply Kd.R_drewN | apply Kd.R_drew)); exact Kd.R_mono HO_14.out (fun _ hk => ⟨trivial, hk⟩)) hg hat); have n1_ := Aside0.mk (hb); have n2_ := Aside0.mk (ho); clear HO_14; clear HB; clear HO_4; have HO_14 := n0_; have HB := n1_; have HO163 := n2_; clear n0_ n1_ n2_; clear ho hb hg hat))
           go_roundg k1
           case measure => have := HK1.out; omega
           case rel => exact ⟨(y161), (wrap64 (x16_1 + 1)), (by first | rfl | (simp; done) | (simp [*]; done)), H', ⟨by have := HK1.out; omega⟩, ⟨kR HO163.out⟩, ⟨by (with_reducible repeat (first | apply Kd.R_alloc | apply Kd.R_drewN | apply Kd.R_drew)); exact Kd.R_mono HO_14.out (fun _ hk => hk.2)⟩, ⟨tb⟩⟩
          ·rw [if_neg c15] at H
           exact absurd H (by simp)
         ·rw [if_neg c14] at H
          have c14b0 : ((rd t157 x16_1) == 0) = false := beq_eq_false_iff_ne.mpr c14
          have c14b1 : ((rd t157 x16_1) != 0) = true := bne_iff_ne.mpr c14
          have H' := Aside0.mk H
          clear H
          have p160 : 0 ≤ (x16_1 : Int) := od
          have q160 : x16_1 < (t157.length : Int) := od
          obtain ⟨ad160, e160, hx160_0⟩ := Kd.at_int (Kd.R_reads' HO_14.out).2.2 x16_1 p160 q160
          cases e160
          replace p160 := eq_true p160
          replace q160 := eq_true q160
          go_wp2
          go_roundg k1
          case measure => have := HK1.out; omega
          case rel => exact ⟨(x4_1), (wrap64 (x16_1 + 1)), (by first | rfl | (simp; done) | (simp [*]; done)), H', ⟨by have := HK1.out; omega⟩, ⟨kR HO_4.out⟩, ⟨kR HO_14.out⟩, ⟨tb⟩⟩
        ·rw [if_neg c13] at H
         have c13b0 : ((Int.tmod x16_1 2) == 0) = false := beq_eq_false_iff_ne.mpr c13
         have c13b1 : ((Int.tmod x16_1 2) != 0) = true := bne_iff_ne.mpr c13
         have H' := Aside0.mk H
         clear H
         have p160 : 0 ≤ (x16_1 : Int) := od
         have q160 : x16_1 < (t157.length : Int) := od
         obtain ⟨ad160, e160, hx160_0⟩ := Kd.at_int (Kd.R_reads' HO_14.out).2.2 x16_1 p160 q160
         cases e160
         replace p160 := eq_true p160
         replace q160 := eq_true q160
         go_wp2
         go_roundg k1
         case measure => have := HK1.out; omega
         case rel => exact ⟨(x4_1), (wrap64 (x16_1 + 1)), (by first | rfl | (simp; done) | (simp [*]; done)), H', ⟨by have := HK1.out; omega⟩, ⟨kR HO_4.out⟩, ⟨kR HO_14.out⟩, ⟨tb⟩⟩
       ·rw [if_neg c12] at H
        have c12b0 : decide (2 ≤ x16_1) = false := decide_eq_false c12
        clear c12
        have H' := Aside0.mk H
        clear H
        have p160 : 0 ≤ (x16_1 : Int) := od
        have q160 : x16_1 < (t157.length : Int) := od
        obtain ⟨ad160, e160, hx160_0⟩ := Kd.at_int (Kd.R_reads' HO_14.out).2.2 x16_1 p160 q160
        cases e160
        replace p160 := eq_true p160
        replace q160 := eq_true q160
        go_wp2
        go_roundg k1
        case measure => have := HK1.out; omega
        case rel => exact ⟨(x4_1), (wrap64 (x16_1 + 1)), (by first | rfl | (simp; done) | (simp [*]; done)), H', ⟨by have := HK1.out; omega⟩, ⟨kR HO_4.out⟩, ⟨kR HO_14.out⟩, ⟨tb⟩⟩
      ·rw [if_neg c11] at H
       exact absurd H (by simp)
     ·rw [if_neg c10] at H
      exact absurd H (by simp)
    ·rw [if_neg c9] at H
     have c9b0 : decide (x16_1 < (t157.length : Int)) = false := decide_eq_false c9
     clear c9
     simp only [Option.some.injEq, Prod.mk.injEq] at H
     obtain ⟨rfl, rfl⟩ := H
     go_wp2
     go_ret2
     exact ⟨_, by first | rfl | (simp [errW_none, errW_some] <;> rfl) | (simp [*, errW_none, errW_some] <;> rfl), by (with_reducible repeat (first | apply Kd.R_alloc | apply Kd.R_drewN | apply Kd.R_drew)); exact Kd.R_mono HO_4.out (fun _ hk => trivial), tb⟩
 ·replace c3 := Bool.eq_false_iff.mpr c3
  subst c3
  have H1 : (some (([] : List Int), 2)) = some (r1, r2) := by rw [if_neg (show ¬ (false = true) by decide)] at H; exact H
  clear H
  have H := H1
  clear H1
  simp only [Option.some.injEq, Prod.mk.injEq] at H
  obtain ⟨rfl, rfl⟩ := H
  go_enter Try.func66, Try.ntmps66
  go_wp2_with (first | ((with_reducible refine gate_callee (f := 118) rfl ?_); refine goesL_ (some 8) rfl rfl Try.func118 (by kernel_rfl) rfl #[.int .i64 a0] rfl ar ?_; (with_reducible refine (impl_isPrime.calls k a0 false _ A2.out).mono ?_); rintro e w' ⟨rfl, ⟨nd, rfl⟩⟩; refine ⟨_, rfl, ?_⟩))
  go_ret2
  exact ⟨_, by first | rfl | (simp [errW_none, errW_some] <;> rfl) | (simp [*, errW_none, errW_some] <;> rfl), by first | exact Kd.R_nil _ _ _ _ _ | exact Kd.N_nil _ _ _ _ _ | exact Kd.V_nil _ _ _ _ _ | exact Kd.Q_nil _ _ _ _ _ | exact Kd.S_nil _ _ _ _ _, tb⟩

end Go.Proofs.Ytgcggngleiggiaa.Pr
