-- Printed by a program of this session, hand-proved contracts among it.
import Derived.Test.YtgcggngleiggiaaPr0
import Derived.Test.YtgcggngleiggiaaPr1
import Derived.Test.YtgcggngleiggiaaPr2
import Derived.Test.YtgcggngleiggiaaPr3
import Derived.Test.YtgcggngleiggiaaPr4
import Derived.Test.YtgcggngleiggiaaPr6
namespace Go.Proofs.Ytgcggngleiggiaa.Pr
open Go.RowKit Go.Proofs.YtgcggngleiggiaaW.PrintWords Go.Proofs.YtgcggngleiggiaaW.PrintLast Go.Proofs.YtgcggngleiggiaaW.PrintMore Go.Proofs.Ytgcggngleiggiaa.Sq
attribute [local go_sem] max2_int min2_int max_two min_two max_three min_three max_four min_four   -- for this text's walks alone
set_option linter.unusedVariables false
set_option linter.unusedSimpArgs false

/-! ### spec_BernoulliOf: function 99 -/
mutual
def spec_BernoulliOf.l0 : Nat → Int → List Int → List Int → Int → Option (Int × Int × Int)
 | 0, _, _, _, _ => none
 | k + 1, x0, x5, x6, x7 => if x7 ≤ x0 then (spec_BernoulliOf.l1 k x0 x5 x6 x7 0 1 0) else (if 0 ≤ x0 then (if x0 < (x5.length : Int) then (if x0 < (x6.length : Int) then (some (rd x5 x0, rd x6 x0, 0)) else (none)) else (none)) else (none))
def spec_BernoulliOf.l1 : Nat → Int → List Int → List Int → Int → Int → Int → Int → Option (Int × Int × Int)
 | 0, _, _, _, _, _, _, _ => none
 | k + 1, x0, x5, x6, x7, x8, x9, x10 => if x10 < x7 then ((spec_l10Choose.f k (wrap64 (x7 + 1)) x10).bind fun t223 => (if 0 ≤ x10 then (if x10 < (x6.length : Int) then ((spec_l01Gcd.f k x9 (rd x6 x10)).bind fun t225 => (if t225 = 0 then (none) else (if x10 < (x5.length : Int) then ((spec_l01Gcd.f k (mx (wrap64 ((wrap64 (x8 * (wrap64 (Int.tdiv (rd x6 x10) t225)))) + (wrap64 ((wrap64 (t223 * (rd x5 x10))) * (wrap64 (Int.tdiv x9 t225)))))) (wrap64 (-(wrap64 ((wrap64 (x8 * (wrap64 (Int.tdiv (rd x6 x10) t225)))) + (wrap64 ((wrap64 (t223 * (rd x5 x10))) * (wrap64 (Int.tdiv x9 t225))))))))) (wrap64 ((wrap64 (Int.tdiv x9 t225)) * (rd x6 x10)))).bind fun t229 => (if t229 = 0 then (none) else (spec_BernoulliOf.l1 k x0 x5 x6 x7 (wrap64 (Int.tdiv (wrap64 ((wrap64 (x8 * (wrap64 (Int.tdiv (rd x6 x10) t225)))) + (wrap64 ((wrap64 (t223 * (rd x5 x10))) * (wrap64 (Int.tdiv x9 t225)))))) t229)) (wrap64 (Int.tdiv (wrap64 ((wrap64 (Int.tdiv x9 t225)) * (rd x6 x10))) t229)) (wrap64 (x10 + 1))))) else (none)))) else (none)) else (none))) else ((spec_l01Gcd.f k (mx x8 (wrap64 (-x8))) (wrap64 (x9 * (wrap64 (x7 + 1))))).bind fun t230 => (if t230 = 0 then (none) else (if x5.length < 17592186044416 then (if x6.length < 17592186044416 then (spec_BernoulliOf.l0 k x0 (x5 ++ [wrap64 (Int.tdiv (wrap64 (-x8)) t230)]) (x6 ++ [wrap64 (Int.tdiv (wrap64 (x9 * (wrap64 (x7 + 1)))) t230)]) (wrap64 (x7 + 1))) else (none)) else (none))))
end
def spec_BernoulliOf.f (k : Nat) (a0 : Int) : Option (Int × Int × Int) := (spec_l01In.f a0 0 20).bind fun t214 => (if t214 = true then (spec_BernoulliOf.l0 k a0 (([1] : List Int)) (([1] : List Int)) 1) else (some (0, 0, 2)))
set_option maxHeartbeats 8000000 in
set_option maxRecDepth 100000 in
theorem spec_BernoulliOf.calls (k : Nat) (a0 : Int) (r1 : Int) (r2 : Int) (r3 : Int) (w : World) (h : spec_BernoulliOf.f k a0 = some (r1, r2, r3)) :
  Calls Try.prog 99 #[.int .i64 a0] w fun e w' => e = .returned (.tuple #[.int .i64 r1, .int .i64 r2, .int .i64 r3]) ∧ Below w.heap.size w w' := by
 have HB := Aside0.mk (Below.refl w.heap.size w)
 have H : ((spec_l01In.f a0 0 20).bind fun t214 => (if t214 = true then (spec_BernoulliOf.l0 k a0 (([1] : List Int)) (([1] : List Int)) 1) else (some (0, 0, 2)))) = some (r1, r2, r3) := h
 clear h
 replace H := Option.bind_eq_some_iff.mp H
 obtain ⟨t214, A20, H⟩ := H
 replace H : (if t214 = true then (spec_BernoulliOf.l0 k a0 (([1] : List Int)) (([1] : List Int)) 1) else (some (0, 0, 2))) = some (r1, r2, r3) := H
 have A2 := Aside0.mk A20
 clear A20
 by_cases c3 : t214 = true
 ·subst c3
  have H1 : (spec_BernoulliOf.l0 k a0 (([1] : List Int)) (([1] : List Int)) 1) = some (r1, r2, r3) := by rw [if_pos rfl] at H; exact H
  clear H
  have H := H1
  clear H1
  obtain ⟨y215, hy215⟩ : ∃ y_ : List Int, y_ = (([1] : List Int)) := ⟨_, rfl⟩
  replace H : (spec_BernoulliOf.l0 k a0 y215 (([1] : List Int)) 1) = some (r1, r2, r3) := by first | (rw [hy215]; with_reducible exact H) | (rw [hy215]; with_reducible exact (bs H :)) | with_reducible exact (bs H :) | exact H
  have Ny215 := Aside0.mk hy215
  clear hy215
  obtain ⟨y218, hy218⟩ : ∃ y_ : List Int, y_ = (([1] : List Int)) := ⟨_, rfl⟩
  replace H : (spec_BernoulliOf.l0 k a0 y215 y218 1) = some (r1, r2, r3) := by first | (rw [hy218]; with_reducible exact H) | (rw [hy218]; with_reducible exact (bs H :)) | with_reducible exact (bs H :) | exact H
  have Ny218 := Aside0.mk hy218
  clear hy218
  have H' := Aside0.mk H
  clear H
  go_enter Try.func99, Try.ntmps99
  go_wp2_with (first | (go_at_call 160; (with_reducible refine (spec_l01In.calls a0 0 20 true _ A2.out).mono ?_); rintro e w' ⟨rfl, ⟨nd, rfl⟩⟩; (try first | exact ⟨rfl, _, World.drewN_drewN _ _ _⟩ | exact ⟨rfl, _, Eq.trans (World.drewN_drewN _ _ _) (congrArg (World.drewN _) (Nat.add_assoc _ _ _))⟩)) | ((with_reducible refine gate_dst (N := 18) rfl ?_); refine Kd.R_lit (Kd.int .i64) _ 2 ?hg (N := 18) ?hd (xs := ([1] : List Int)) (inner := [.int .i64 1]) (ok := fun _ => True) (okp := fun _ => True) ?hr ?hp (fun _ hk => hk) trivial (Below.refl _ _) (Nat.le_refl _) (by simp) ?_; (case hd => rfl); (case hg => rfl); (case hr => first | (go_simp; done) | (go_simp; rfl)); (case hp => exact (Reps.one (show Kd.M (Kd.int .i64) _ _ _ 1 [.int .i64 1] from rfl) (Reps.none _ _))); intro v216 w4 ho5 hb hg_ hnew_; clear hg_ hnew_; (first | rw [← Ny215.out] at ho5 | (simp only [Int.reduceToNat] at ho5; rw [← Ny215.out] at ho5)); have HO217 := Aside0.mk (Kd.R_lower ho5 (below_size tb)); replace HB := Aside0.mk (below_step tb hb); clear hb ho5) | ((with_reducible refine gate_dst (N := 19) rfl ?_); refine Kd.R_lit (Kd.int .i64) _ 2 ?hg (N := 19) ?hd (xs := ([1] : List Int)) (inner := [.int .i64 1]) (ok := fun _ => True) (okp := fun _ => True) ?hr ?hp (fun _ hk => hk) trivial (Below.refl _ _) (Nat.le_refl _) (by simp) ?_; (case hd => rfl); (case hg => rfl); (case hr => first | (go_simp; done) | (go_simp; rfl)); (case hp => exact (Reps.one (show Kd.M (Kd.int .i64) _ _ _ 1 [.int .i64 1] from rfl) (Reps.none _ _))); intro v219 w6 ho7 hb hg_ hnew_; clear hg_ hnew_; (first | rw [← Ny218.out] at ho7 | (simp only [Int.reduceToNat] at ho7; rw [← Ny218.out] at ho7)); have HO220 := Aside0.mk (Kd.R_lower (Kd.R_new' ho7 (Kd.R_lt (kR HO217.out))) (below_size tb)); replace HO217 := Aside0.mk (Kd.R_elder' (kR HO217.out) (Kd.R_base ho7) hb); replace HB := Aside0.mk (below_step tb hb); clear hb ho7))
  repeat (go_quiet (first | (go_at_call 160; (with_reducible refine (spec_l01In.calls a0 0 20 true _ A2.out).mono ?_); rintro e w' ⟨rfl, ⟨nd, rfl⟩⟩; (try first | exact ⟨rfl, _, World.drewN_drewN _ _ _⟩ | exact ⟨rfl, _, Eq.trans (World.drewN_drewN _ _ _) (congrArg (World.drewN _) (Nat.add_assoc _ _ _))⟩)) | ((with_reducible refine gate_dst (N := 18) rfl ?_); refine Kd.R_lit (Kd.int .i64) _ 2 ?hg (N := 18) ?hd (xs := ([1] : List Int)) (inner := [.int .i64 1]) (ok := fun _ => True) (okp := fun _ => True) ?hr ?hp (fun _ hk => hk) trivial (Below.refl _ _) (Nat.le_refl _) (by simp) ?_; (case hd => rfl); (case hg => rfl); (case hr => first | (go_simp; done) | (go_simp; rfl)); (case hp => exact (Reps.one (show Kd.M (Kd.int .i64) _ _ _ 1 [.int .i64 1] from rfl) (Reps.none _ _))); intro v216 w4 ho5 hb hg_ hnew_; clear hg_ hnew_; (first | rw [← Ny215.out] at ho5 | (simp only [Int.reduceToNat] at ho5; rw [← Ny215.out] at ho5)); have HO217 := Aside0.mk (Kd.R_lower ho5 (below_size tb)); replace HB := Aside0.mk (below_step tb hb); clear hb ho5) | ((with_reducible refine gate_dst (N := 19) rfl ?_); refine Kd.R_lit (Kd.int .i64) _ 2 ?hg (N := 19) ?hd (xs := ([1] : List Int)) (inner := [.int .i64 1]) (ok := fun _ => True) (okp := fun _ => True) ?hr ?hp (fun _ hk => hk) trivial (Below.refl _ _) (Nat.le_refl _) (by simp) ?_; (case hd => rfl); (case hg => rfl); (case hr => first | (go_simp; done) | (go_simp; rfl)); (case hp => exact (Reps.one (show Kd.M (Kd.int .i64) _ _ _ 1 [.int .i64 1] from rfl) (Reps.none _ _))); intro v219 w6 ho7 hb hg_ hnew_; clear hg_ hnew_; (first | rw [← Ny218.out] at ho7 | (simp only [Int.reduceToNat] at ho7; rw [← Ny218.out] at ho7)); have HO220 := Aside0.mk (Kd.R_lower (Kd.R_new' ho7 (Kd.R_lt (kR HO217.out))) (below_size tb)); replace HO217 := Aside0.mk (Kd.R_elder' (kR HO217.out) (Kd.R_base ho7) hb); replace HB := Aside0.mk (below_step tb hb); clear hb ho7)); try go_wp2_with (first | (go_at_call 160; (with_reducible refine (spec_l01In.calls a0 0 20 true _ A2.out).mono ?_); rintro e w' ⟨rfl, ⟨nd, rfl⟩⟩; (try first | exact ⟨rfl, _, World.drewN_drewN _ _ _⟩ | exact ⟨rfl, _, Eq.trans (World.drewN_drewN _ _ _) (congrArg (World.drewN _) (Nat.add_assoc _ _ _))⟩)) | ((with_reducible refine gate_dst (N := 18) rfl ?_); refine Kd.R_lit (Kd.int .i64) _ 2 ?hg (N := 18) ?hd (xs := ([1] : List Int)) (inner := [.int .i64 1]) (ok := fun _ => True) (okp := fun _ => True) ?hr ?hp (fun _ hk => hk) trivial (Below.refl _ _) (Nat.le_refl _) (by simp) ?_; (case hd => rfl); (case hg => rfl); (case hr => first | (go_simp; done) | (go_simp; rfl)); (case hp => exact (Reps.one (show Kd.M (Kd.int .i64) _ _ _ 1 [.int .i64 1] from rfl) (Reps.none _ _))); intro v216 w4 ho5 hb hg_ hnew_; clear hg_ hnew_; (first | rw [← Ny215.out] at ho5 | (simp only [Int.reduceToNat] at ho5; rw [← Ny215.out] at ho5)); have HO217 := Aside0.mk (Kd.R_lower ho5 (below_size tb)); replace HB := Aside0.mk (below_step tb hb); clear hb ho5) | ((with_reducible refine gate_dst (N := 19) rfl ?_); refine Kd.R_lit (Kd.int .i64) _ 2 ?hg (N := 19) ?hd (xs := ([1] : List Int)) (inner := [.int .i64 1]) (ok := fun _ => True) (okp := fun _ => True) ?hr ?hp (fun _ hk => hk) trivial (Below.refl _ _) (Nat.le_refl _) (by simp) ?_; (case hd => rfl); (case hg => rfl); (case hr => first | (go_simp; done) | (go_simp; rfl)); (case hp => exact (Reps.one (show Kd.M (Kd.int .i64) _ _ _ 1 [.int .i64 1] from rfl) (Reps.none _ _))); intro v219 w6 ho7 hb hg_ hnew_; clear hg_ hnew_; (first | rw [← Ny218.out] at ho7 | (simp only [Int.reduceToNat] at ho7; rw [← Ny218.out] at ho7)); have HO220 := Aside0.mk (Kd.R_lower (Kd.R_new' ho7 (Kd.R_lt (kR HO217.out))) (below_size tb)); replace HO217 := Aside0.mk (Kd.R_elder' (kR HO217.out) (Kd.R_base ho7) hb); replace HB := Aside0.mk (below_step tb hb); clear hb ho7)))
  go_loopg [5, 6, 7] k (fun kq v5 v6 v7 w' => ∃ (x5_1 : List Int) (x6_1 : List Int) (x7_1 : Int), v7 = .int .i64 x7_1 ∧ Aside0 (spec_BernoulliOf.l0 kq a0 x5_1 x6_1 x7_1 = some (r1, r2, r3)) ∧ Aside0 (kq ≤ k) ∧ Aside0 (Kd.R (Kd.int .i64) 2 w' w.heap.size (fun k_ => some k_ ≠ (v6 : Value).ownBlock) v5 x5_1) ∧ Aside0 (Kd.R (Kd.int .i64) 2 w' w.heap.size (fun k_ => some k_ ≠ (v5 : Value).ownBlock) v6 x6_1) ∧ Aside0 (Below w.heap.size w w'))
  case atStart => exact ⟨(y215), (y218), (1), (by first | rfl | (simp; done) | (simp [*]; done)), H', ⟨Nat.le_refl _⟩, ⟨by (with_reducible repeat (first | apply Kd.R_alloc | apply Kd.R_drewN | apply Kd.R_drew)); exact Kd.R_mono HO217.out (fun _ hk => hk.2)⟩, ⟨by (with_reducible repeat (first | apply Kd.R_alloc | apply Kd.R_drewN | apply Kd.R_drew)); exact Kd.R_mono HO220.out (fun _ hk => hk.2)⟩, ⟨tb⟩⟩
  case round =>
   clear H'
   try clear p2
   try clear c3
   obtain ⟨x5_1, x6_1, x7_1, rfl, HA, HK1, HO_5, HO_6, HB⟩ := hrel
   cases gk with
   | zero => exact absurd HA.out (by simp [spec_BernoulliOf.l0])
   | succ k1 =>
    have H := HA.out
    clear HA
    simp only [spec_BernoulliOf.l0] at H
    by_cases c8 : x7_1 ≤ a0
    ·rw [if_pos c8] at H
     have c8b0 : decide (x7_1 ≤ a0) = true := decide_eq_true c8
     clear c8
     have H' := Aside0.mk H
     clear H
     go_wp2
     repeat (go_quiet (fail); try go_wp2)
     go_loopg [8, 9, 10] k1 (fun kq v8 v9 v10 w' => ∃ (x8_2 : Int) (x9_2 : Int) (x10_2 : Int), v8 = .int .i64 x8_2 ∧ v9 = .int .i64 x9_2 ∧ v10 = .int .i64 x10_2 ∧ Aside0 (spec_BernoulliOf.l1 kq a0 x5_1 x6_1 x7_1 x8_2 x9_2 x10_2 = some (r1, r2, r3)) ∧ Aside0 (kq ≤ k1) ∧ Aside0 (Kd.R (Kd.int .i64) 2 w' w.heap.size (fun k_ => some k_ ≠ (u6 : Value).ownBlock) u5 x5_1) ∧ Aside0 (Kd.R (Kd.int .i64) 2 w' w.heap.size (fun k_ => some k_ ≠ (u5 : Value).ownBlock) u6 x6_1) ∧ Aside0 (Below w.heap.size w w'))
     case atStart => exact ⟨(0), (1), (0), (by first | rfl | (simp; done) | (simp [*]; done)), (by first | rfl | (simp; done) | (simp [*]; done)), (by first | rfl | (simp; done) | (simp [*]; done)), H', ⟨Nat.le_refl _⟩, ⟨kR HO_5.out⟩, ⟨kR HO_6.out⟩, ⟨tb⟩⟩
     case round =>
      clear H'
      try clear p2
      try clear c3
      try clear c8
      try clear c8b0
      try clear p2
      obtain ⟨x8_2, x9_2, x10_2, rfl, rfl, rfl, HA, HK2, HO_5, HO_6, HB⟩ := hrel
      cases gk with
      | zero => exact absurd HA.out (by simp [spec_BernoulliOf.l1])
      | succ k2 =>
       have H := HA.out
       clear HA
       simp only [spec_BernoulliOf.l1] at H
       by_cases c9 : x10_2 < x7_1
       ·rw [if_pos c9] at H
        have c9b0 : decide (x10_2 < x7_1) = true := decide_eq_true c9
        clear c9
        replace H := Option.bind_eq_some_iff.mp H
        obtain ⟨t223, A100, H⟩ := H
        replace H : (if 0 ≤ x10_2 then (if x10_2 < (x6_1.length : Int) then ((spec_l01Gcd.f k2 x9_2 (rd x6_1 x10_2)).bind fun t225 => (if t225 = 0 then (none) else (if x10_2 < (x5_1.length : Int) then ((spec_l01Gcd.f k2 (mx (wrap64 ((wrap64 (x8_2 * (wrap64 (Int.tdiv (rd x6_1 x10_2) t225)))) + (wrap64 ((wrap64 (t223 * (rd x5_1 x10_2))) * (wrap64 (Int.tdiv x9_2 t225)))))) (wrap64 (-(wrap64 ((wrap64 (x8_2 * (wrap64 (Int.tdiv (rd x6_1 x10_2) t225)))) + (wrap64 ((wrap64 (t223 * (rd x5_1 x10_2))) * (wrap64 (Int.tdiv x9_2 t225))))))))) (wrap64 ((wrap64 (Int.tdiv x9_2 t225)) * (rd x6_1 x10_2)))).bind fun t229 => (if t229 = 0 then (none) else (spec_BernoulliOf.l1 k2 a0 x5_1 x6_1 x7_1 (wrap64 (Int.tdiv (wrap64 ((wrap64 (x8_2 * (wrap64 (Int.tdiv (rd x6_1 x10_2) t225)))) + (wrap64 ((wrap64 (t223 * (rd x5_1 x10_2))) * (wrap64 (Int.tdiv x9_2 t225)))))) t229)) (wrap64 (Int.tdiv (wrap64 ((wrap64 (Int.tdiv x9_2 t225)) * (rd x6_1 x10_2))) t229)) (wrap64 (x10_2 + 1))))) else (none)))) else (none)) else (none)) = some (r1, r2, r3) := H
        have A10 := Aside0.mk A100
        clear A100
        by_cases c11 : 0 ≤ x10_2
        ·rw [if_pos c11] at H
         have c11b0 : decide (0 ≤ x10_2) = true := decide_eq_true c11
         clear c11
         by_cases c12 : x10_2 < (x6_1.length : Int)
         ·rw [if_pos c12] at H
          have c12b0 : decide (x10_2 < (x6_1.length : Int)) = true := decide_eq_true c12
          clear c12
          replace H := Option.bind_eq_some_iff.mp H
          obtain ⟨t225, A130, H⟩ := H
          replace H : (if t225 = 0 then (none) else (if x10_2 < (x5_1.length : Int) then ((spec_l01Gcd.f k2 (mx (wrap64 ((wrap64 (x8_2 * (wrap64 (Int.tdiv (rd x6_1 x10_2) t225)))) + (wrap64 ((wrap64 (t223 * (rd x5_1 x10_2))) * (wrap64 (Int.tdiv x9_2 t225)))))) (wrap64 (-(wrap64 ((wrap64 (x8_2 * (wrap64 (Int.tdiv (rd x6_1 x10_2) t225)))) + (wrap64 ((wrap64 (t223 * (rd x5_1 x10_2))) * (wrap64 (Int.tdiv x9_2 t225))))))))) (wrap64 ((wrap64 (Int.tdiv x9_2 t225)) * (rd x6_1 x10_2)))).bind fun t229 => (if t229 = 0 then (none) else (spec_BernoulliOf.l1 k2 a0 x5_1 x6_1 x7_1 (wrap64 (Int.tdiv (wrap64 ((wrap64 (x8_2 * (wrap64 (Int.tdiv (rd x6_1 x10_2) t225)))) + (wrap64 ((wrap64 (t223 * (rd x5_1 x10_2))) * (wrap64 (Int.tdiv x9_2 t225)))))) t229)) (wrap64 (Int.tdiv (wrap64 ((wrap64 (Int.tdiv x9_2 t225)) * (rd x6_1 x10_2))) t229)) (wrap64 (x10_2 + 1))))) else (none))) = some (r1, r2, r3) := H
          have A13 := Aside0.mk A130
          clear A130
          by_cases c14 : t225 = 0
          ·rw [if_pos c14] at H
           exact absurd H (by simp)
          ·rw [if_neg c14] at H
           have c14b0 : (t225 == 0) = false := beq_eq_false_iff_ne.mpr c14
           have c14b1 : (t225 != 0) = true := bne_iff_ne.mpr c14
           by_cases c15 : x10_2 < (x5_1.length : Int)
           ·rw [if_pos c15] at H
            have c15b0 : decide (x10_2 < (x5_1.length : Int)) = true := decide_eq_true c15
            clear c15
            obtain ⟨ji16, hji16⟩ : ∃ j_ : Int, (mx (wrap64 ((wrap64 (x8_2 * (wrap64 (Int.tdiv (rd x6_1 x10_2) t225)))) + (wrap64 ((wrap64 (t223 * (rd x5_1 x10_2))) * (wrap64 (Int.tdiv x9_2 t225)))))) (wrap64 (-(wrap64 ((wrap64 (x8_2 * (wrap64 (Int.tdiv (rd x6_1 x10_2) t225)))) + (wrap64 ((wrap64 (t223 * (rd x5_1 x10_2))) * (wrap64 (Int.tdiv x9_2 t225))))))))) = j_ := ⟨_, rfl⟩
            replace H : ((spec_l01Gcd.f k2 (ji16) (wrap64 ((wrap64 (Int.tdiv x9_2 t225)) * (rd x6_1 x10_2)))).bind fun t229 => (if t229 = 0 then (none) else (spec_BernoulliOf.l1 k2 a0 x5_1 x6_1 x7_1 (wrap64 (Int.tdiv (wrap64 ((wrap64 (x8_2 * (wrap64 (Int.tdiv (rd x6_1 x10_2) t225)))) + (wrap64 ((wrap64 (t223 * (rd x5_1 x10_2))) * (wrap64 (Int.tdiv x9_2 t225)))))) t229)) (wrap64 (Int.tdiv (wrap64 ((wrap64 (Int.tdiv x9_2 t225)) * (rd x6_1 x10_2))) t229)) (wrap64 (x10_2 + 1))))) = some (r1, r2, r3) := by first | (rw [hji16] at H; exact H) | (simp only [hji16] at H ⊢; exact H)
            (try rw [hji16] at A10)
            (try rw [hji16] at A13)
            have hji16_ : (if (wrap64 ((wrap64 (x8_2 * (wrap64 (Int.tdiv (rd x6_1 x10_2) t225)))) + (wrap64 ((wrap64 (t223 * (rd x5_1 x10_2))) * (wrap64 (Int.tdiv x9_2 t225)))))) < (wrap64 (-(wrap64 ((wrap64 (x8_2 * (wrap64 (Int.tdiv (rd x6_1 x10_2) t225)))) + (wrap64 ((wrap64 (t223 * (rd x5_1 x10_2))) * (wrap64 (Int.tdiv x9_2 t225)))))))) then (wrap64 (-(wrap64 ((wrap64 (x8_2 * (wrap64 (Int.tdiv (rd x6_1 x10_2) t225)))) + (wrap64 ((wrap64 (t223 * (rd x5_1 x10_2))) * (wrap64 (Int.tdiv x9_2 t225)))))))) else (wrap64 ((wrap64 (x8_2 * (wrap64 (Int.tdiv (rd x6_1 x10_2) t225)))) + (wrap64 ((wrap64 (t223 * (rd x5_1 x10_2))) * (wrap64 (Int.tdiv x9_2 t225))))))) = ji16 := hji16
            replace H := Option.bind_eq_some_iff.mp H
            obtain ⟨t229, A170, H⟩ := H
            replace H : (if t229 = 0 then (none) else (spec_BernoulliOf.l1 k2 a0 x5_1 x6_1 x7_1 (wrap64 (Int.tdiv (wrap64 ((wrap64 (x8_2 * (wrap64 (Int.tdiv (rd x6_1 x10_2) t225)))) + (wrap64 ((wrap64 (t223 * (rd x5_1 x10_2))) * (wrap64 (Int.tdiv x9_2 t225)))))) t229)) (wrap64 (Int.tdiv (wrap64 ((wrap64 (Int.tdiv x9_2 t225)) * (rd x6_1 x10_2))) t229)) (wrap64 (x10_2 + 1)))) = some (r1, r2, r3) := H
            have A17 := Aside0.mk A170
            clear A170
            by_cases c18 : t229 = 0
            ·rw [if_pos c18] at H
             exact absurd H (by simp)
            ·rw [if_neg c18] at H
             have c18b0 : (t229 == 0) = false := beq_eq_false_iff_ne.mpr c18
             have c18b1 : (t229 != 0) = true := bne_iff_ne.mpr c18
             have H' := Aside0.mk H
             clear H
             go_wp2_with (first | (go_at_call 209; (with_reducible refine (spec_l10Choose.calls k2 (wrap64 (x7_1 + 1)) x10_2 t223 _ A10.out).mono ?_); rintro e w' ⟨rfl, ⟨nd, rfl⟩⟩; (try first | exact ⟨rfl, _, World.drewN_drewN _ _ _⟩ | exact ⟨rfl, _, Eq.trans (World.drewN_drewN _ _ _) (congrArg (World.drewN _) (Nat.add_assoc _ _ _))⟩); obtain ⟨Ao19, co19, eo19⟩ := Kd.R_slice HO_6.out; subst eo19; have p224 : 0 ≤ (x10_2 : Int) := od; have q224 : x10_2 < (x6_1.length : Int) := od; obtain ⟨ad224, e224, hx224_0⟩ := Kd.at_int (Kd.R_reads' HO_6.out).2.2 x10_2 p224 q224; cases e224; replace p224 := eq_true p224; replace q224 := eq_true q224) | (go_at_call 180; (with_reducible refine (spec_l01Gcd.calls k2 x9_2 (rd x6_1 x10_2) t225 _ A13.out).mono ?_); rintro e w20 ⟨rfl, hb⟩; replace HO_5 := Aside0.mk (Kd.R_below (kR HO_5.out) hb); replace HO_6 := Aside0.mk (Kd.R_below (kR HO_6.out) hb); replace HB := Aside0.mk (below_step tb hb); (try clear hb); (try clear hb2); (try clear hk); (try clear hi); have p226 : 0 ≤ (x10_2 : Int) := od; have q226 : x10_2 < (x6_1.length : Int) := od; obtain ⟨ad226, e226, hx226_0⟩ := Kd.at_int (Kd.R_reads' HO_6.out).2.2 x10_2 p226 q226; obtain rfl : ad224 = ad226 := (by injection e226); replace p226 := eq_true p226; replace q226 := eq_true q226; obtain ⟨Ao21, co21, eo21⟩ := Kd.R_slice HO_5.out; subst eo21; have p227 : 0 ≤ (x10_2 : Int) := od; have q227 : x10_2 < (x5_1.length : Int) := od; obtain ⟨ad227, e227, hx227_0⟩ := Kd.at_int (Kd.R_reads' HO_5.out).2.2 x10_2 p227 q227; cases e227; replace p227 := eq_true p227; replace q227 := eq_true q227; have p228 : 0 ≤ (x10_2 : Int) := od; have q228 : x10_2 < (x6_1.length : Int) := od; obtain ⟨ad228, e228, hx228_0⟩ := Kd.at_int (Kd.R_reads' HO_6.out).2.2 x10_2 p228 q228; obtain rfl : ad224 = ad228 := (by injection e228); replace p228 := eq_true p228; replace q228 := eq_true q228) | (go_at_call 180; (with_reducible refine (spec_l01Gcd.calls k2 ji16 (wrap64 ((wrap64 (Int.tdiv x9_2 t225)) * (rd x6_1 x10_2))) t229 _ A17.out).mono ?_); rintro e w22 ⟨rfl, hb⟩; replace HO_5 := Aside0.mk (Kd.R_below (kR HO_5.out) hb); replace HO_6 := Aside0.mk (Kd.R_below (kR HO_6.out) hb); replace HB := Aside0.mk (below_step tb hb); (try clear hb); (try clear hb2); (try clear hk); (try clear hi)))
             repeat (go_quiet (first | (go_at_call 209; (with_reducible refine (spec_l10Choose.calls k2 (wrap64 (x7_1 + 1)) x10_2 t223 _ A10.out).mono ?_); rintro e w' ⟨rfl, ⟨nd, rfl⟩⟩; (try first | exact ⟨rfl, _, World.drewN_drewN _ _ _⟩ | exact ⟨rfl, _, Eq.trans (World.drewN_drewN _ _ _) (congrArg (World.drewN _) (Nat.add_assoc _ _ _))⟩); obtain ⟨Ao19, co19, eo19⟩ := Kd.R_slice HO_6.out; subst eo19; have p224 : 0 ≤ (x10_2 : Int) := od; have q224 : x10_2 < (x6_1.length : Int) := od; obtain ⟨ad224, e224, hx224_0⟩ := Kd.at_int (Kd.R_reads' HO_6.out).2.2 x10_2 p224 q224; cases e224; replace p224 := eq_true p224; replace q224 := eq_true q224) | (go_at_call 180; (with_reducible refine (spec_l01Gcd.calls k2 x9_2 (rd x6_1 x10_2) t225 _ A13.out).mono ?_); rintro e w20 ⟨rfl, hb⟩; replace HO_5 := Aside0.mk (Kd.R_below (kR HO_5.out) hb); replace HO_6 := Aside0.mk (Kd.R_below (kR HO_6.out) hb); replace HB := Aside0.mk (below_step tb hb); (try clear hb); (try clear hb2); (try clear hk); (try clear hi); have p226 : 0 ≤ (x10_2 : Int) := od; have q226 : x10_2 < (x6_1.length : Int) := od; obtain ⟨ad226, e226, hx226_0⟩ := Kd.at_int (Kd.R_reads' HO_6.out).2.2 x10_2 p226 q226; obtain rfl : ad224 = ad226 := (by injection e226); replace p226 := eq_true p226; replace q226 := eq_true q226; obtain ⟨Ao21, co21, eo21⟩ := Kd.R_slice HO_5.out; subst eo21; have p227 : 0 ≤ (x10_2 : Int) := od; have q227 : x10_2 < (x5_1.length : Int) := od; obtain ⟨ad227, e227, hx227_0⟩ := Kd.at_int (Kd.R_reads' HO_5.out).2.2 x10_2 p227 q227; cases e227; replace p227 := eq_true p227; replace q227 := eq_true q227; have p228 : 0 ≤ (x10_2 : Int) := od; have q228 : x10_2 < (x6_1.length : Int) := od; obtain ⟨ad228, e228, hx228_0⟩ := Kd.at_int (Kd.R_reads' HO_6.out).2.2 x10_2 p228 q228; obtain rfl : ad224 = ad228 := (by injection e228); replace p228 := eq_true p228; replace q228 := eq_true q228) | (go_at_call 180; (with_reducible refine (spec_l01Gcd.calls k2 ji16 (wrap64 ((wrap64 (Int.tdiv x9_2 t225)) * (rd x6_1 x10_2))) t229 _ A17.out).mono ?_); rintro e w22 ⟨rfl, hb⟩; replace HO_5 := Aside0.mk (Kd.R_below (kR HO_5.out) hb); replace HO_6 := Aside0.mk (Kd.R_below (kR HO_6.out) hb); replace HB := Aside0.mk (below_step tb hb); (try clear hb); (try clear hb2); (try clear hk); (try clear hi))); try go_wp2_with (first | (go_at_call 209; (with_reducible refine (spec_l10Choose.calls k2 (wrap64 (x7_1 + 1)) x10_2 t223 _ A10.out).mono ?_); rintro e w' ⟨rfl, ⟨nd, rfl⟩⟩; (try first | exact ⟨rfl, _, World.drewN_drewN _ _ _⟩ | exact ⟨rfl, _, Eq.trans (World.drewN_drewN _ _ _) (congrArg (World.drewN _) (Nat.add_assoc _ _ _))⟩); obtain ⟨Ao19, co19, eo19⟩ := Kd.R_slice HO_6.out; subst eo19; have p224 : 0 ≤ (x10_2 : Int) := od; have q224 : x10_2 < (x6_1.length : Int) := od; obtain ⟨ad224, e224, hx224_0⟩ := Kd.at_int (Kd.R_reads' HO_6.out).2.2 x10_2 p224 q224; cases e224; replace p224 := eq_true p224; replace q224 := eq_true q224) | (go_at_call 180; (with_reducible refine (spec_l01Gcd.calls k2 x9_2 (rd x6_1 x10_2) t225 _ A13.out).mono ?_); rintro e w20 ⟨rfl, hb⟩; replace HO_5 := Aside0.mk (Kd.R_below (kR HO_5.out) hb); replace HO_6 := Aside0.mk (Kd.R_below (kR HO_6.out) hb); replace HB := Aside0.mk (below_step tb hb); (try clear hb); (try clear hb2); (try clear hk); (try clear hi); have p226 : 0 ≤ (x10_2 : Int) := od; have q226 : x10_2 < (x6_1.length : Int) := od; obtain ⟨ad226, e226, hx226_0⟩ := Kd.at_int (Kd.R_reads' HO_6.out).2.2 x10_2 p226 q226; obtain rfl : ad224 = ad226 := (by injection e226); replace p226 := eq_true p226; replace q226 := eq_true q226; obtain ⟨Ao21, co21, eo21⟩ := Kd.R_slice HO_5.out; subst eo21; have p227 : 0 ≤ (x10_2 : Int) := od; have q227 : x10_2 < (x5_1.length : Int) := od; obtain ⟨ad227, e227, hx227_0⟩ := Kd.at_int (Kd.R_reads' HO_5.out).2.2 x10_2 p227 q227; cases e227; replace p227 := eq_true p227; replace q227 := eq_true q227; have p228 : 0 ≤ (x10_2 : Int) := od; have q228 : x10_2 < (x6_1.length : Int) := od; obtain ⟨ad228, e228, hx228_0⟩ := Kd.at_int (Kd.R_reads' HO_6.out).2.2 x10_2 p228 q228; obtain rfl : ad224 = ad228 := (by injection e228); replace p228 := eq_true p228; replace q228 := eq_true q228) | (go_at_call 180; (with_reducible refine (spec_l01Gcd.calls k2 ji16 (wrap64 ((wrap64 (Int.tdiv x9_2 t225)) * (rd x6_1 x10_2))) t229 _ A17.out).mono ?_); rintro e w22 ⟨rfl, hb⟩; replace HO_5 := Aside0.mk (Kd.R_below (kR HO_5.out) hb); replace HO_6 := Aside0.mk (Kd.R_below (kR HO_6.out) hb); replace HB := Aside0.mk (below_step tb hb); (try clear hb); (try clear hb2); (try clear hk); (try clear hi))))
             go_roundg k2
             case measure => have := HK1.out; have := HK2.out; omega
             case rel => exact ⟨(wrap64 (Int.tdiv (wrap64 ((wrap64 (x8_2 * (wrap64 (Int.tdiv (rd x6_1 x10_2) t225)))) + (wrap64 ((wrap64 (t223 * (rd x5_1 x10_2))) * (wrap64 (Int.tdiv x9_2 t225)))))) t229)), (wrap64 (Int.tdiv (wrap64 ((wrap64 (Int.tdiv x9_2 t225)) * (rd x6_1 x10_2))) t229)), (wrap64 (x10_2 + 1)), (by first | rfl | (simp; done) | (simp [*]; done)), (by first | rfl | (simp; done) | (simp [*]; done)), (by first | rfl | (simp; done) | (simp [*]; done)), H', ⟨by have := HK1.out; have := HK2.out; omega⟩, ⟨kR HO_5.out⟩, ⟨kR HO_6.out⟩, ⟨tb⟩⟩
           ·rw [if_neg c15] at H
            exact absurd H (by simp)
         ·rw [if_neg c12] at H
          exact absurd H (by simp)
        ·rw [if_neg c11] at H
         exact absurd H (by simp)
       ·rw [if_neg c9] at H
        have c9b0 : decide (x10_2 < x7_1) = false := decide_eq_false c9
        clear c9
        obtain ⟨ji23, hji23⟩ : ∃ j_ : Int, (mx x8_2 (wrap64 (-x8_2))) = j_ := ⟨_, rfl⟩
        replace H : ((spec_l01Gcd.f k2 (ji23) (wrap64 (x9_2 * (wrap64 (x7_1 + 1))))).bind fun t230 => (if t230 = 0 then (none) else (if x5_1.length < 17592186044416 then (if x6_1.length < 17592186044416 then (spec_BernoulliOf.l0 k2 a0 (x5_1 ++ [wrap64 (Int.tdiv (wrap64 (-x8_2)) t230)]) (x6_1 ++ [wrap64 (Int.tdiv (wrap64 (x9_2 * (wrap64 (x7_1 + 1)))) t230)]) (wrap64 (x7_1 + 1))) else (none)) else (none)))) = some (r1, r2, r3) := by first | (rw [hji23] at H; exact H) | (simp only [hji23] at H ⊢; exact H)
        have hji23_ : (if x8_2 < (wrap64 (-x8_2)) then (wrap64 (-x8_2)) else x8_2) = ji23 := hji23
        replace H := Option.bind_eq_some_iff.mp H
        obtain ⟨t230, A240, H⟩ := H
        replace H : (if t230 = 0 then (none) else (if x5_1.length < 17592186044416 then (if x6_1.length < 17592186044416 then (spec_BernoulliOf.l0 k2 a0 (x5_1 ++ [wrap64 (Int.tdiv (wrap64 (-x8_2)) t230)]) (x6_1 ++ [wrap64 (Int.tdiv (wrap64 (x9_2 * (wrap64 (x7_1 + 1)))) t230)]) (wrap64 (x7_1 + 1))) else (none)) else (none))) = some (r1, r2, r3) := H
        have A24 := Aside0.mk A240
        clear A240
        by_cases c25 : t230 = 0
        ·rw [if_pos c25] at H
         exact absurd H (by simp)
        ·rw [if_neg c25] at H
         have c25b0 : (t230 == 0) = false := beq_eq_false_iff_ne.mpr c25
         have c25b1 : (t230 != 0) = true := bne_iff_ne.mpr c25
         by_cases c26 : x5_1.length < 17592186044416
         ·rw [if_pos c26] at H
          have LMc26 := Aside0.mk c26
          clear c26
          obtain ⟨y231, hy231⟩ : ∃ y_ : List Int, y_ = (x5_1 ++ [wrap64 (Int.tdiv (wrap64 (-x8_2)) t230)]) := ⟨_, rfl⟩
          replace H : (if x6_1.length < 17592186044416 then (spec_BernoulliOf.l0 k2 a0 y231 (x6_1 ++ [wrap64 (Int.tdiv (wrap64 (x9_2 * (wrap64 (x7_1 + 1)))) t230)]) (wrap64 (x7_1 + 1))) else (none)) = some (r1, r2, r3) := by first | (rw [hy231]; with_reducible exact H) | (rw [hy231]; with_reducible exact (bs H :)) | with_reducible exact (bs H :) | exact H
          have Ny231 := Aside0.mk hy231
          clear hy231
          by_cases c27 : x6_1.length < 17592186044416
          ·rw [if_pos c27] at H
           have LMc27 := Aside0.mk c27
           clear c27
           obtain ⟨y234, hy234⟩ : ∃ y_ : List Int, y_ = (x6_1 ++ [wrap64 (Int.tdiv (wrap64 (x9_2 * (wrap64 (x7_1 + 1)))) t230)]) := ⟨_, rfl⟩
           replace H : (spec_BernoulliOf.l0 k2 a0 y231 y234 (wrap64 (x7_1 + 1))) = some (r1, r2, r3) := by first | (rw [hy234]; with_reducible exact H) | (rw [hy234]; with_reducible exact (bs H :)) | with_reducible exact (bs H :) | exact H
           have Ny234 := Aside0.mk hy234
           clear hy234
           have H' := Aside0.mk H
           clear H
           go_wp2_with (first | (go_at_call 180; (with_reducible refine (spec_l01Gcd.calls k2 ji23 (wrap64 (x9_2 * (wrap64 (x7_1 + 1)))) t230 _ A24.out).mono ?_); rintro e w28 ⟨rfl, hb⟩; replace HO_5 := Aside0.mk (Kd.R_below (kR HO_5.out) hb); replace HO_6 := Aside0.mk (Kd.R_below (kR HO_6.out) hb); replace HB := Aside0.mk (below_step tb hb); (try clear hb); (try clear hb2); (try clear hk); (try clear hi)) | ((with_reducible refine gate_builtin (b := .append) (xs := #[.tmp 89, .tmp 94]) rfl ?_); at_builtin; refine Kd.R_append (Kd.int .i64) (w0 := w) w.heap.size rfl (.tmp 89) (.tmp 94) 27 2 (.int .i64 0) 8 rfl Try.underlying27 info2 rfl (by decide) (by omega) u5 x5_1 (wrap64 (Int.tdiv (wrap64 (-x8_2)) t230)) [.int .i64 (wrap64 (Int.tdiv (wrap64 (-x8_2)) t230))] (fun k_ => some k_ ≠ (u6 : Value).ownBlock) (fun _ => False) rfl rfl ?aP (fun _ hk => hk.elim) ?aF ?aO ?aB ?aS ?aL ?_; (case aP => exact rfl); (case aB => exact tb); (case aF => exact (fun k_ hk => Kd.fresh' (Kd.R_lt (kR HO_6.out)) k_ hk)); (case aO => exact (kR HO_5.out)); (case aS => exact (below_size tb)); (case aL => have := LMc26.out; omega); intro v232 w29 ho hb hg hat; rw [← Ny231.out] at ho; have n0_ := Aside0.mk (Kd.R_after (ok := (fun _ => True)) (by (with_reducible repeat (first | apply Kd.R_alloc | apply Kd.R_drewN | apply Kd.R_drew)); exact Kd.R_mono HO_6.out (fun _ hk => ⟨trivial, hk⟩)) hg hat); have n1_ := Aside0.mk (hb); have n2_ := Aside0.mk (ho); clear HO_6; clear HB; clear HO_5; have HO_6 := n0_; have HB := n1_; have HO233 := n2_; clear n0_ n1_ n2_; clear ho hb hg hat) | ((with_reducible refine gate_builtin (b := .append) (xs := #[.tmp 96, .tmp 100]) rfl ?_); at_builtin; refine Kd.R_append (Kd.int .i64) (w0 := w) w.heap.size rfl (.tmp 96) (.tmp 100) 27 2 (.int .i64 0) 8 rfl Try.underlying27 info2 rfl (by decide) (by omega) u6 x6_1 (wrap64 (Int.tdiv (wrap64 (x9_2 * (wrap64 (x7_1 + 1)))) t230)) [.int .i64 (wrap64 (Int.tdiv (wrap64 (x9_2 * (wrap64 (x7_1 + 1)))) t230))] (fun k_ => some k_ ≠ (v232 : Value).ownBlock) (fun _ => False) rfl rfl ?aP (fun _ hk => hk.elim) ?aF ?aO ?aB ?aS ?aL ?_; (case aP => exact rfl); (case aB => exact tb); (case aF => exact (fun k_ hk => Kd.fresh' (Kd.R_lt (kR HO233.out)) k_ hk)); (case aO => exact (by (with_reducible repeat (first | apply Kd.R_alloc | apply Kd.R_drewN | apply Kd.R_drew)); exact Kd.R_mono HO_6.out (fun _ hk => hk.2))); (case aS => exact (below_size tb)); (case aL => have := LMc27.out; omega); intro v235 w30 ho hb hg hat; rw [← Ny234.out] at ho; have n0_ := Aside0.mk (Kd.R_after (ok := (fun _ => True)) (by (with_reducible repeat (first | apply Kd.R_alloc | apply Kd.R_drewN | apply Kd.R_drew)); exact Kd.R_mono HO233.out (fun _ hk => ⟨trivial, hk⟩)) hg hat); have n1_ := Aside0.mk (hb); have n2_ := Aside0.mk (ho); clear HO233; clear HB; clear HO_6; have HO233 := n0_; have HB := n1_; have HO236 := n2_; clear n0_ n1_ n2_; clear ho hb hg hat))
           repeat (go_quiet (first | (go_at_call 180; (with_reducible refine (spec_l01Gcd.calls k2 ji23 (wrap64 (x9_2 * (wrap64 (x7_1 + 1)))) t230 _ A24.out).mono ?_); rintro e w28 ⟨rfl, hb⟩; replace HO_5 := Aside0.mk (Kd.R_below (kR HO_5.out) hb); replace HO_6 := Aside0.mk (Kd.R_below (kR HO_6.out) hb); replace HB := Aside0.mk (below_step tb hb); (try clear hb); (try clear hb2); (try clear hk); (try clear hi)) | ((with_reducible refine gate_builtin (b := .append) (xs := #[.tmp 89, .tmp 94]) rfl ?_); at_builtin; refine Kd.R_append (Kd.int .i64) (w0 := w) w.heap.size rfl (.tmp 89) (.tmp 94) 27 2 (.int .i64 0) 8 rfl Try.underlying27 info2 rfl (by decide) (by omega) u5 x5_1 (wrap64 (Int.tdiv (wrap64 (-x8_2)) t230)) [.int .i64 (wrap64 (Int.tdiv (wrap64 (-x8_2)) t230))] (fun k_ => some k_ ≠ (u6 : Value).ownBlock) (fun _ => False) rfl rfl ?aP (fun _ hk => hk.elim) ?aF ?aO ?aB ?aS ?aL ?_; (case aP => exact rfl); (case aB => exact tb); (case aF => exact (fun k_ hk => Kd.fresh' (Kd.R_lt (kR HO_6.out)) k_ hk)); (case aO => exact (kR HO_5.out)); (case aS => exact (below_size tb)); (case aL => have := LMc26.out; omega); intro v232 w29 ho hb hg hat; rw [← Ny231.out] at ho; have n0_ := Aside0.mk (Kd.R_after (ok := (fun _ => True)) (by (with_reducible repeat (first | apply Kd.R_alloc | apply Kd.R_drewN | apply Kd.R_drew)); exact Kd.R_mono HO_6.out (fun _ hk => ⟨trivial, hk⟩)) hg hat); have n1_ := Aside0.mk (hb); have n2_ := Aside0.mk (ho); clear HO_6; clear HB; clear HO_5; have HO_6 := n0_; have HB := n1_; have HO233 := n2_; clear n0_ n1_ n2_; clear ho hb hg hat) | ((with_reducible refine gate_builtin (b := .append) (xs := #[.tmp 96, .tmp 100]) rfl ?_); at_builtin; refine Kd.R_append (Kd.int .i64) (w0 := w) w.heap.size rfl (.tmp 96) (.tmp 100) 27 2 (.int .i64 0) 8 rfl Try.underlying27 info2 rfl (by decide) (by omega) u6 x6_1 (wrap64 (Int.tdiv (wrap64 (x9_2 * (wrap64 (x7_1 + 1)))) t230)) [.int .i64 (wrap64 (Int.tdiv (wrap64 (x9_2 * (wrap64 (x7_1 + 1)))) t230))] (fun k_ => some k_ ≠ (v232 : Value).ownBlock) (fun _ => False) rfl rfl ?aP (fun _ hk => hk.elim) ?aF ?aO ?aB ?aS ?aL ?_; (case aP => exact rfl); (case aB => exact tb); (case aF => exact (fun k_ hk => Kd.fresh' (Kd.R_lt (kR HO233.out)) k_ hk)); (case aO => exact (by (with_reducible repeat (first | apply Kd.R_alloc | apply Kd.R_drewN | apply Kd.R_drew)); exact Kd.R_mono HO_6.out (fun _ hk => hk.2))); (case aS => exact (below_size tb)); (case aL => have := LMc27.out; omega); intro v235 w30 ho hb hg hat; rw [← Ny234.out] at ho; have n0_ := Aside0.mk (Kd.R_after (ok := (fun _ => True)) (by (with_reducible repeat (first | apply Kd.R_alloc | apply Kd.R_drewN | apply Kd.R_drew)); exact Kd.R_mono HO233.out (fun _ hk => ⟨trivial, hk⟩)) hg hat); have n1_ := Aside0.mk (hb); have n2_ := Aside0.mk (ho); clear HO233; clear HB; clear HO_6; have HO233 := n0_; have HB := n1_; have HO236 := n2_; clear n0_ n1_ n2_; clear ho hb hg hat)); try go_wp2_with (first | (go_at_call 180; (with_reducible refine (spec_l01Gcd.calls k2 ji23 (wrap64 (x9_2 * (wrap64 (x7_1 + 1)))) t230 _ A24.out).mono ?_); rintro e w28 ⟨rfl, hb⟩; replace HO_5 := Aside0.mk (Kd.R_below (kR HO_5.out) hb); replace HO_6 := Aside0.mk (Kd.R_below (kR HO_6.out) hb); replace HB := Aside0.mk (below_step tb hb); (try clear hb); (try clear hb2); (try clear hk); (try clear hi)) | ((with_reducible refine gate_builtin (b := .append) (xs := #[.tmp 89, .tmp 94]) rfl ?_); at_builtin; refine Kd.R_append (Kd.int .i64) (w0 := w) w.heap.size rfl (.tmp 89) (.tmp 94) 27 2 (.int .i64 0) 8 rfl Try.underlying27 info2 rfl (by decide) (by omega) u5 x5_1 (wrap64 (Int.tdiv (wrap64 (-x8_2)) t230)) [.int .i64 (wrap64 (Int.tdiv (wrap64 (-x8_2)) t230))] (fun k_ => some k_ ≠ (u6 : Value).ownBlock) (fun _ => False) rfl rfl ?aP (fun _ hk => hk.elim) ?aF ?aO ?aB ?aS ?aL ?_; (case aP => exact rfl); (case aB => exact tb); (case aF => exact (fun k_ hk => Kd.fresh' (Kd.R_lt (kR HO_6.out)) k_ hk)); (case aO => exact (kR HO_5.out)); (case aS => exact (below_size tb)); (case aL => have := LMc26.out; omega); intro v232 w29 ho hb hg hat; rw [← Ny231.out] at ho; have n0_ := Aside0.mk (Kd.R_after (ok := (fun _ => True)) (by (with_reducible repeat (first | apply Kd.R_alloc | apply Kd.R_drewN | apply Kd.R_drew)); exact Kd.R_mono HO_6.out (fun _ hk => ⟨trivial, hk⟩)) hg hat); have n1_ := Aside0.mk (hb); have n2_ := Aside0.mk (ho); clear HO_6; clear HB; clear HO_5; have HO_6 := n0_; have HB := n1_; have HO233 := n2_; clear n0_ n1_ n2_; clear ho hb hg hat) | ((with_reducible refine gate_builtin (b := .append) (xs := #[.tmp 96, .tmp 100]) rfl ?_); at_builtin; refine Kd.R_append (Kd.int .i64) (w0 := w) w.heap.size rfl (.tmp 96) (.tmp 100) 27 2 (.int .i64 0) 8 rfl Try.underlying27 info2 rfl (by decide) (by omega) u6 x6_1 (wrap64 (Int.tdiv (wrap64 (x9_2 * (wrap64 (x7_1 + 1)))) t230)) [.int .i64 (wrap64 (Int.tdiv (wrap64 (x9_2 * (wrap64 (x7_1 + 1)))) t230))] (fun k_ => some k_ ≠ (v232 : Value).ownBlock) (fun _ => False) rfl rfl ?aP (fun _ hk => hk.elim) ?aF ?aO ?aB ?aS ?aL ?_; (case aP => exact rfl); (case aB => exact tb); (case aF => exact (fun k_ hk => Kd.fresh' (Kd.R_lt (kR HO233.out)) k_ hk)); (case aO => exact (by (with_reducible repeat (first | apply Kd.R_alloc | apply Kd.R_drewN | apply Kd.R_drew)); exact Kd.R_mono HO_6.out (fun _ hk => hk.2))); (case aS => exact (below_size tb)); (case aL => have := LMc27.out; omega); intro v235 w30 ho hb hg hat; rw [← Ny234.out] at ho; have n0_ := Aside0.mk (Kd.R_after (ok := (fun _ => True)) (by (with_reducible repeat (first | apply Kd.R_alloc | apply Kd.R_drewN | apply Kd.R_drew)); exact Kd.R_mono HO233.out (fun _ hk => ⟨trivial, hk⟩)) hg hat); have n1_ := Aside0.mk (hb); have n2_ := Aside0.mk (ho); clear HO233; clear HB; clear HO_6; have HO233 := n0_; have HB := n1_; have HO236 := n2_; clear n0_ n1_ n2_; clear ho hb hg hat)))
           go_roundg k2
           case measure => have := HK1.out; have := HK2.out; omega
           case rel => exact ⟨(y231), (y234), (wrap64 (x7_1 + 1)), (by first | rfl | (simp; done) | (simp [*]; done)), H', ⟨by have := HK1.out; have := HK2.out; omega⟩, ⟨by (with_reducible repeat (first | apply Kd.R_alloc | apply Kd.R_drewN | apply Kd.R_drew)); exact Kd.R_mono HO233.out (fun _ hk => hk.2)⟩, ⟨kR HO236.out⟩, ⟨tb⟩⟩
          ·rw [if_neg c27] at H
           exact absurd H (by simp)
         ·rw [if_neg c26] at H
          exact absurd H (by simp)
    ·rw [if_neg c8] at H
     have c8b0 : decide (x7_1 ≤ a0) = false := decide_eq_false c8
     clear c8
     by_cases c31 : 0 ≤ a0
     ·rw [if_pos c31] at H
      have c31b0 : decide (0 ≤ a0) = true := decide_eq_true c31
      clear c31
      by_cases c32 : a0 < (x5_1.length : Int)
      ·rw [if_pos c32] at H
       have c32b0 : decide (a0 < (x5_1.length : Int)) = true := decide_eq_true c32
       clear c32
       by_cases c33 : a0 < (x6_1.length : Int)
       ·rw [if_pos c33] at H
        have c33b0 : decide (a0 < (x6_1.length : Int)) = true := decide_eq_true c33
        clear c33
        simp only [Option.some.injEq, Prod.mk.injEq] at H
        obtain ⟨rfl, rfl, rfl⟩ := H
        obtain ⟨Ao34, co34, eo34⟩ := Kd.R_slice HO_5.out
        subst eo34
        have p221 : 0 ≤ (a0 : Int) := od
        have q221 : a0 < (x5_1.length : Int) := od
        obtain ⟨ad221, e221, hx221_0⟩ := Kd.at_int (Kd.R_reads' HO_5.out).2.2 a0 p221 q221
        cases e221
        replace p221 := eq_true p221
        replace q221 := eq_true q221
        obtain ⟨Ao35, co35, eo35⟩ := Kd.R_slice HO_6.out
        subst eo35
        have p222 : 0 ≤ (a0 : Int) := od
        have q222 : a0 < (x6_1.length : Int) := od
        obtain ⟨ad222, e222, hx222_0⟩ := Kd.at_int (Kd.R_reads' HO_6.out).2.2 a0 p222 q222
        cases e222
        replace p222 := eq_true p222
        replace q222 := eq_true q222
        go_wp2
        repeat (go_quiet (fail); try go_wp2)
        go_ret3
        exact ⟨by first | rfl | (simp [errW_none, errW_some] <;> rfl) | (simp [*, errW_none, errW_some] <;> rfl), tb⟩
       ·rw [if_neg c33] at H
        exact absurd H (by simp)
      ·rw [if_neg c32] at H
       exact absurd H (by simp)
     ·rw [if_neg c31] at H
      exact absurd H (by simp)
 ·replace c3 := Bool.eq_false_iff.mpr c3
  subst c3
  have H1 : (some (0, 0, 2)) = some (r1, r2, r3) := by rw [if_neg (show ¬ (false = true) by decide)] at H; exact H
  clear H
  have H := H1
  clear H1
  simp only [Option.some.injEq, Prod.mk.injEq] at H
  obtain ⟨rfl, rfl, rfl⟩ := H
  go_enter Try.func99, Try.ntmps99
  go_wp2_with (first | (go_at_call 160; (with_reducible refine (spec_l01In.calls a0 0 20 false _ A2.out).mono ?_); rintro e w' ⟨rfl, ⟨nd, rfl⟩⟩; (try first | exact ⟨rfl, _, World.drewN_drewN _ _ _⟩ | exact ⟨rfl, _, Eq.trans (World.drewN_drewN _ _ _) (congrArg (World.drewN _) (Nat.add_assoc _ _ _))⟩)))
  repeat (go_quiet (first | (go_at_call 160; (with_reducible refine (spec_l01In.calls a0 0 20 false _ A2.out).mono ?_); rintro e w' ⟨rfl, ⟨nd, rfl⟩⟩; (try first | exact ⟨rfl, _, World.drewN_drewN _ _ _⟩ | exact ⟨rfl, _, Eq.trans (World.drewN_drewN _ _ _) (congrArg (World.drewN _) (Nat.add_assoc _ _ _))⟩))); try go_wp2_with (first | (go_at_call 160; (with_reducible refine (spec_l01In.calls a0 0 20 false _ A2.out).mono ?_); rintro e w' ⟨rfl, ⟨nd, rfl⟩⟩; (try first | exact ⟨rfl, _, World.drewN_drewN _ _ _⟩ | exact ⟨rfl, _, Eq.trans (World.drewN_drewN _ _ _) (congrArg (World.drewN _) (Nat.add_assoc _ _ _))⟩))))
  go_ret3
  exact ⟨by first | rfl | (simp [errW_none, errW_some] <;> rfl) | (simp [*, errW_none, errW_some] <;> rfl), tb⟩

/-! ### spec_l01Pick: function 161 -/
def spec_l01Pick.f (s0_0 : List Int) (s0_1 : Int) (s0_2 : Int) (l1 : List Int) : Option (Int × Int × Int) := (spec_l01Next.f s0_0 s0_1 s0_2 (l1.length : Int)).bind fun bt237 => (if 0 ≤ bt237.1 then (if bt237.1 < (l1.length : Int) then (some (rd l1 bt237.1, bt237.2.1, bt237.2.2)) else (none)) else (none))
set_option maxHeartbeats 8000000 in
set_option maxRecDepth 100000 in
theorem spec_l01Pick.calls (g : Nat) (s0_0 : List Int) (s0_1 : Int) (s0_2 : Int) (A1 : Option Addr) (c1 : Nat) (l1 : List Int) (r1 : Int) (r2 : Int) (r3 : Int) (w0 w : World) (hI : IsS215 w0 w g s0_0 s0_1 s0_2) (hB : Below w0.heap.size w0 w) (hr1 : Kd.C (Kd.int .i64) w A1 l1.length l1) (hc1 : l1.length ≤ c1) (hf1 : ∀ ad, A1 = some ad → 0 < l1.length → ad.block ≠ g) (h : spec_l01Pick.f s0_0 s0_1 s0_2 l1 = some (r1, r2, r3)) :
  Calls Try.prog 161 #[.pointer (some ⟨g, 0, none⟩), .slice A1 l1.length c1] w fun e w' => e = .returned (.int .i64 r1) ∧ IsS215 w0 w' g s0_0 r2 r3 ∧ Below w0.heap.size w0 w' ∧ KeepBut w w' g none := by
 have HR1 := Aside0.mk hr1
 have HC1 := Aside0.mk hc1
 clear hr1 hc1
 have HI0 := Aside0.mk hI
 have HK := Aside0.mk (KeepBut.refl w g none)
 have HL := Aside0.mk hB.size
 clear hI
 have HW0 := Aside0.mk hB.size
 have HB := Aside0.mk hB
 clear hB
 have H : ((spec_l01Next.f s0_0 s0_1 s0_2 (l1.length : Int)).bind fun bt237 => (if 0 ≤ bt237.1 then (if bt237.1 < (l1.length : Int) then (some (rd l1 bt237.1, bt237.2.1, bt237.2.2)) else (none)) else (none))) = some (r1, r2, r3) := h
 clear h
 replace H := Option.bind_eq_some_iff.mp H
 obtain ⟨⟨t237, t238, t239⟩, A30, H⟩ := H
 replace H : (if 0 ≤ t237 then (if t237 < (l1.length : Int) then (some (rd l1 t237, t238, t239)) else (none)) else (none)) = some (r1, r2, r3) := H
 have A3 := Aside0.mk A30
 clear A30
 by_cases c4 : 0 ≤ t237
 ·rw [if_pos c4] at H
  have c4b0 : decide (0 ≤ t237) = true := decide_eq_true c4
  clear c4
  by_cases c5 : t237 < (l1.length : Int)
  ·rw [if_pos c5] at H
   have c5b0 : decide (t237 < (l1.length : Int)) = true := decide_eq_true c5
   clear c5
   simp only [Option.some.injEq, Prod.mk.injEq] at H
   obtain ⟨rfl, rfl, rfl⟩ := H
   go_enter Try.func161, Try.ntmps161
   go_wp2_with (first | ((with_reducible refine gate_callee (f := 158) rfl ?_); refine goesL_ (some 9) rfl rfl Try.func158 (by kernel_rfl) rfl #[.pointer (some ⟨g, 0, none⟩), .int .i64 (l1.length : Int)] rfl ar ?_; (with_reducible refine (spec_l01Next.calls g s0_0 s0_1 s0_2 (l1.length : Int) t237 t238 t239 w0 _ ?side1 ?side2 A3.out).mono ?_); (case side1 => repeat (first | (with_reducible first | exact HI0.out | apply IsS215.alloc | apply IsS215.drewN | apply IsS215.drew | apply IsS215.set_1 | apply IsS215.set_2) | exact HI0.out)); (case side2 => repeat (first | (with_reducible first | exact HB.out | apply below_alloc | apply pw_below_drewN | apply below_drew1 | refine below_set ?_ (IsS215.ge HI0.out)) | exact HB.out)); rintro e w6 ⟨rfl, hi, hb, hk⟩; refine ⟨_, rfl, ?_⟩; replace HK := Aside0.mk (KeepBut.trans (by repeat (first | (with_reducible first | exact HK.out | apply KeepBut.set_ | apply keep_drewN | apply keep_drew | apply keep_alloc) | exact HK.out)) hk (.inl rfl)); replace HB := Aside0.mk (hb); replace HI0 := Aside0.mk (hi); (try clear hb); (try clear hb2); (try clear hk); (try clear hi); have p240 : 0 ≤ (t237 : Int) := od; have q240 : t237 < (l1.length : Int) := od; obtain ⟨ad240, e240, hx240_0⟩ := Kd.at_int HR1.out t237 p240 q240; cases e240; replace hx240_0 := keep_cell HK.out hx240_0 (by first | (rw [add_block]; exact hf1 _ rfl (by omega)) | exact hf1 _ rfl (by omega) | exact hf1 ad240 rfl (by omega)); replace p240 := eq_true p240; replace q240 := eq_true q240))
   go_ret
   exact ⟨by first | rfl | (simp [errW_none, errW_some] <;> rfl) | (simp [*, errW_none, errW_some] <;> rfl), by repeat (first | (with_reducible first | exact HI0.out | apply IsS215.alloc | apply IsS215.drewN | apply IsS215.drew | apply IsS215.set_1 | apply IsS215.set_2) | exact HI0.out), by repeat (first | (with_reducible first | exact HB.out | apply below_alloc | apply pw_below_drewN | apply below_drew1 | refine below_set ?_ (IsS215.ge HI0.out)) | exact HB.out), by repeat (first | (with_reducible first | exact HK.out | apply KeepBut.set_ | apply keep_drewN | apply keep_drew | apply keep_alloc) | exact HK.out)⟩
  ·rw [if_neg c5] at H
   exact absurd H (by simp)
 ·rw [if_neg c4] at H
  exact absurd H (by simp)

/-! ### spec_l06Primes: function 239 -/
def spec_l06Primes.f  : Option (List Int) := some (([3, 5, 7, 11, 13, 17, 19, 23, 29, 31, 37, 41, 43, 47, 53, 59, 61] : List Int))
set_option maxHeartbeats 8000000 in
set_option maxRecDepth 100000 in
theorem spec_l06Primes.calls  (r : List Int) (w : World) (h : spec_l06Primes.f  = some r) :
  Calls Try.prog 239 #[] w fun e w' => ∃ v0_ : Value, e = .returned (v0_) ∧ Kd.R (Kd.int .i64) 2 w' w.heap.size (fun _ => True) v0_ r ∧ Below w.heap.size w w' := by
 have HB := Aside0.mk (Below.refl w.heap.size w)
 have H : (some (([3, 5, 7, 11, 13, 17, 19, 23, 29, 31, 37, 41, 43, 47, 53, 59, 61] : List Int))) = some r := h
 clear h
 obtain ⟨y241, hy241⟩ : ∃ y_ : List Int, y_ = (([3, 5, 7, 11, 13, 17, 19, 23, 29, 31, 37, 41, 43, 47, 53, 59, 61] : List Int)) := ⟨_, rfl⟩
 replace H : (some y241) = some r := by first | (rw [hy241]; with_reducible exact H) | (rw [hy241]; with_reducible exact (bs H :)) | with_reducible exact (bs H :) | exact H
 have Ny241 := Aside0.mk hy241
 clear hy241
 obtain rfl := Option.some.inj H
 go_enter Try.func239, Try.ntmps239
 go_wp2_with (first | ((with_reducible refine gate_dst (N := 1) rfl ?_); refine Kd.R_lit (Kd.int .i64) _ 2 ?hg (N := 1) ?hd (xs := ([3, 5, 7, 11, 13, 17, 19, 23, 29, 31, 37, 41, 43, 47, 53, 59, 61] : List Int)) (inner := [.int .i64 3, .int .i64 5, .int .i64 7, .int .i64 11, .int .i64 13, .int .i64 17, .int .i64 19, .int .i64 23, .int .i64 29, .int .i64 31, .int .i64 37, .int .i64 41, .int .i64 43, .int .i64 47, .int .i64 53, .int .i64 59, .int .i64 61]) (ok := fun _ => True) (okp := fun _ => True) ?hr ?hp (fun _ hk => hk) trivial (Below.refl _ _) (Nat.le_refl _) (by simp) ?_; (case hd => rfl); (case hg => rfl); (case hr => first | (go_simp; done) | (go_simp; rfl)); (case hp => exact (Reps.one (show Kd.M (Kd.int .i64) _ _ _ 3 [.int .i64 3] from rfl) (Reps.one (show Kd.M (Kd.int .i64) _ _ _ 5 [.int .i64 5] from rfl) (Reps.one (show Kd.M (Kd.int .i64) _ _ _ 7 [.int .i64 7] from rfl) (Reps.one (show Kd.M (Kd.int .i64) _ _ _ 11 [.int .i64 11] from rfl) (Reps.one (show Kd.M (Kd.int .i64) _ _ _ 13 [.int .i64 13] from rfl) (Reps.one (show Kd.M (Kd.int .i64) _ _ _ 17 [.int .i64 17] from rfl) (Reps.one (show Kd.M (Kd.int .i64) _ _ _ 19 [.int .i64 19] from rfl) (Reps.one (show Kd.M (Kd.int .i64) _ _ _ 23 [.int .i64 23] from rfl) (Reps.one (show Kd.M (Kd.int .i64) _ _ _ 29 [.int .i64 29] from rfl) (Reps.one (show Kd.M (Kd.int .i64) _ _ _ 31 [.int .i64 31] from rfl) (Reps.one (show Kd.M (Kd.int .i64) _ _ _ 37 [.int .i64 37] from rfl) (Reps.one (show Kd.M (Kd.int .i64) _ _ _ 41 [.int .i64 41] from rfl) (Reps.one (show Kd.M (Kd.int .i64) _ _ _ 43 [.int .i64 43] from rfl) (Reps.one (show Kd.M (Kd.int .i64) _ _ _ 47 [.int .i64 47] from rfl) (Reps.one (show Kd.M (Kd.int .i64) _ _ _ 53 [.int .i64 53] from rfl) (Reps.one (show Kd.M (Kd.int .i64) _ _ _ 59 [.int .i64 59] from rfl) (Reps.one (show Kd.M (Kd.int .i64) _ _ _ 61 [.int .i64 61] from rfl) (Reps.none _ _))))))))))))))))))); intro v242 w1 ho2 hb hg_ hnew_; clear hg_ hnew_; (first | rw [← Ny241.out] at ho2 | (simp only [Int.reduceToNat] at ho2; rw [← Ny241.out] at ho2)); have HO243 := Aside0.mk (Kd.R_lower ho2 (below_size tb)); replace HB := Aside0.mk (below_step tb hb); clear hb ho2))
 go_ret
 exact ⟨_, by first | rfl | (simp [errW_none, errW_some] <;> rfl) | (simp [*, errW_none, errW_some] <;> rfl), kR HO243.out, tb⟩

/-! ### spec_l08Prime: function 210 -/
def spec_l08Prime.f (s0_0 : List Int) (s0_1 : Int) (s0_2 : Int) : Option (Int × Int × Int) := (spec_l06Primes.f).bind fun t244 => ((spec_l01Next.f s0_0 s0_1 s0_2 30).bind fun bt247 => (if bt247.1 = 0 then ((spec_l01Pick.f s0_0 bt247.2.1 bt247.2.2 (([2, 15, 67] : List Int))).bind fun bt253 => (some (bt253.1, bt253.2.1, bt253.2.2))) else ((spec_l01Pick.f s0_0 bt247.2.1 bt247.2.2 (([6, 17] : List Int))).bind fun bt259 => ((spec_l01Next.f s0_0 bt259.2.1 bt259.2.2 bt259.1).bind fun bt262 => (if 0 ≤ bt262.1 then (if bt262.1 < (t244.length : Int) then (some (rd t244 bt262.1, bt262.2.1, bt262.2.2)) else (none)) else (none))))))
set_option maxHeartbeats 8000000 in
set_option maxRecDepth 100000 in
theorem spec_l08Prime.calls (g : Nat) (s0_0 : List Int) (s0_1 : Int) (s0_2 : Int) (r1 : Int) (r2 : Int) (r3 : Int) (w0 w : World) (hI : IsS215 w0 w g s0_0 s0_1 s0_2) (hB : Below w0.heap.size w0 w) (h : spec_l08Prime.f s0_0 s0_1 s0_2 = some (r1, r2, r3)) :
  Calls Try.prog 210 #[.pointer (some ⟨g, 0, none⟩)] w fun e w' => e = .returned (.int .i64 r1) ∧ IsS215 w0 w' g s0_0 r2 r3 ∧ Below w0.heap.size w0 w' ∧ KeepBut w w' g none := by
 have HI0 := Aside0.mk hI
 have HK := Aside0.mk (KeepBut.refl w g none)
 have HL := Aside0.mk hB.size
 clear hI
 have HW0 := Aside0.mk hB.size
 have HB := Aside0.mk hB
 clear hB
 have H : ((spec_l06Primes.f).bind fun t244 => ((spec_l01Next.f s0_0 s0_1 s0_2 30).bind fun bt247 => (if bt247.1 = 0 then ((spec_l01Pick.f s0_0 bt247.2.1 bt247.2.2 (([2, 15, 67] : List Int))).bind fun bt253 => (some (bt253.1, bt253.2.1, bt253.2.2))) else ((spec_l01Pick.f s0_0 bt247.2.1 bt247.2.2 (([6, 17] : List Int))).bind fun bt259 => ((spec_l01Next.f s0_0 bt259.2.1 bt259.2.2 bt259.1).bind fun bt262 => (if 0 ≤ bt262.1 then (if bt262.1 < (t244.length : Int) then (some (rd t244 bt262.1, bt262.2.1, bt262.2.2)) else (none)) else (none))))))) = some (r1, r2, r3) := h
 clear h
 replace H := Option.bind_eq_some_iff.mp H
 obtain ⟨t244, A20, H⟩ := H
 replace H : ((spec_l01Next.f s0_0 s0_1 s0_2 30).bind fun bt247 => (if bt247.1 = 0 then ((spec_l01Pick.f s0_0 bt247.2.1 bt247.2.2 (([2, 15, 67] : List Int))).bind fun bt253 => (some (bt253.1, bt253.2.1, bt253.2.2))) else ((spec_l01Pick.f s0_0 bt247.2.1 bt247.2.2 (([6, 17] : List Int))).bind fun bt259 => ((spec_l01Next.f s0_0 bt259.2.1 bt259.2.2 bt259.1).bind fun bt262 => (if 0 ≤ bt262.1 then (if bt262.1 < (t244.length : Int) then (some (rd t244 bt262.1, bt262.2.1, bt262.2.2)) else (none)) else (none)))))) = some (r1, r2, r3) := H
 have A2 := Aside0.mk A20
 clear A20
 replace H := Option.bind_eq_some_iff.mp H
 obtain ⟨⟨t247, t248, t249⟩, A30, H⟩ := H
 replace H : (if t247 = 0 then ((spec_l01Pick.f s0_0 t248 t249 (([2, 15, 67] : List Int))).bind fun bt253 => (some (bt253.1, bt253.2.1, bt253.2.2))) else ((spec_l01Pick.f s0_0 t248 t249 (([6, 17] : List Int))).bind fun bt259 => ((spec_l01Next.f s0_0 bt259.2.1 bt259.2.2 bt259.1).bind fun bt262 => (if 0 ≤ bt262.1 then (if bt262.1 < (t244.length : Int) then (some (rd t244 bt262.1, bt262.2.1, bt262.2.2)) else (none)) else (none))))) = some (r1, r2, r3) := H
 have A3 := Aside0.mk A30
 clear A30
 by_cases c4 : t247 = 0
 ·rw [if_pos c4] at H
  have c4b0 : (t247 == 0) = true := beq_iff_eq.mpr c4
  have c4b1 : (t247 != 0) = false := bne_eq_false_iff_eq.mpr c4
  clear c4
  obtain ⟨y250, hy250⟩ : ∃ y_ : List Int, y_ = (([2, 15, 67] : List Int)) := ⟨_, rfl⟩
  replace H : ((spec_l01Pick.f s0_0 t248 t249 y250).bind fun bt253 => (some (bt253.1, bt253.2.1, bt253.2.2))) = some (r1, r2, r3) := by first | (rw [hy250]; with_reducible exact H) | (rw [hy250]; with_reducible exact (bs H :)) | with_reducible exact (bs H :) | exact H
  have Ny250 := Aside0.mk hy250
  clear hy250
  replace H := Option.bind_eq_some_iff.mp H
  obtain ⟨⟨t253, t254, t255⟩, A50, H⟩ := H
  replace H : (some (t253, t254, t255)) = some (r1, r2, r3) := H
  have A5 := Aside0.mk A50
  clear A50
  simp only [Option.some.injEq, Prod.mk.injEq] at H
  obtain ⟨rfl, rfl, rfl⟩ := H
  go_enter Try.func210, Try.ntmps210
  go_wp2_with (first | ((with_reducible refine gate_callee (f := 239) rfl ?_); refine goesL_ (some 4) rfl rfl Try.func239 (by kernel_rfl) rfl #[] rfl ar ?_; (with_reducible refine (spec_l06Primes.calls  t244 _ A2.out).mono ?_); rintro e w6 ⟨v245, rfl, ho0, hb⟩; refine ⟨_, rfl, ?_⟩; have HO246 := Aside0.mk (Kd.R_lower ho0 (keep_size (w := w) (g := g) (row := none) (by repeat (first | (with_reducible first | exact HK.out | apply KeepBut.set_ | apply keep_drewN | apply keep_drew | apply keep_alloc) | exact HK.out)))); replace HK := Aside0.mk (KeepBut.trans (by repeat (first | (with_reducible first | exact HK.out | apply KeepBut.set_ | apply keep_drewN | apply keep_drew | apply keep_alloc) | exact HK.out)) (KeepBut.of_below hb g none) (.inl rfl)); replace HB := Aside0.mk (below_step (by repeat (first | (with_reducible first | exact HB.out | apply below_alloc | apply pw_below_drewN | apply below_drew1 | refine below_set ?_ (IsS215.ge HI0.out)) | exact HB.out)) hb); replace HI0 := Aside0.mk (IsS215.below (by repeat (first | (with_reducible first | exact HI0.out | apply IsS215.alloc | apply IsS215.drewN | apply IsS215.drew | apply IsS215.set_1 | apply IsS215.set_2) | exact HI0.out)) hb); (try clear hb); (try clear hb2); (try clear hk); (try clear hi); (try clear ho0)) | ((with_reducible refine gate_callee (f := 158) rfl ?_); refine goesL_ (some 6) rfl rfl Try.func158 (by kernel_rfl) rfl #[.pointer (some ⟨g, 0, none⟩), .int .i64 30] rfl ar ?_; (with_reducible refine (spec_l01Next.calls g s0_0 s0_1 s0_2 30 t247 t248 t249 w0 _ ?side1 ?side2 A3.out).mono ?_); (case side1 => repeat (first | (with_reducible first | exact HI0.out | apply IsS215.alloc | apply IsS215.drewN | apply IsS215.drew | apply IsS215.set_1 | apply IsS215.set_2) | exact HI0.out)); (case side2 => repeat (first | (with_reducible first | exact HB.out | apply below_alloc | apply pw_below_drewN | apply below_drew1 | refine below_set ?_ (IsS215.ge HI0.out)) | exact HB.out)); rintro e w7 ⟨rfl, hi, hb, hk⟩; refine ⟨_, rfl, ?_⟩; replace HO246 := Aside0.mk (Kd.R_mono (Kd.R_keep (IsS215.apart (show IsS215 w0 _ g s0_0 s0_1 s0_2 from by repeat (first | (with_reducible first | exact HI0.out | apply IsS215.alloc | apply IsS215.drewN | apply IsS215.drew | apply IsS215.set_1 | apply IsS215.set_2) | exact HI0.out)) (kR HO246.out) (by decide)) hk (fun _ h => h.2)) (fun _ h => h.1)); replace HK := Aside0.mk (KeepBut.trans (by repeat (first | (with_reducible first | exact HK.out | apply KeepBut.set_ | apply keep_drewN | apply keep_drew | apply keep_alloc) | exact HK.out)) hk (.inl rfl)); replace HB := Aside0.mk (hb); replace HI0 := Aside0.mk (hi); (try clear hb); (try clear hb2); (try clear hk); (try clear hi)) | ((with_reducible refine gate_dst (N := 9) rfl ?_); refine Kd.R_lit (Kd.int .i64) _ 2 ?hg (N := 9) ?hd (xs := ([2, 15, 67] : List Int)) (inner := [.int .i64 2, .int .i64 15, .int .i64 67]) (ok := fun _ => True) (okp := fun _ => True) ?hr ?hp (fun _ hk => hk) trivial (Below.refl _ _) (Nat.le_refl _) (by simp) ?_; (case hd => rfl); (case hg => rfl); (case hr => first | (go_simp; done) | (go_simp; rfl)); (case hp => exact (Reps.one (show Kd.M (Kd.int .i64) _ _ _ 2 [.int .i64 2] from rfl) (Reps.one (show Kd.M (Kd.int .i64) _ _ _ 15 [.int .i64 15] from rfl) (Reps.one (show Kd.M (Kd.int .i64) _ _ _ 67 [.int .i64 67] from rfl) (Reps.none _ _))))); intro v251 w8 ho9 hb hg_ hnew_; clear hg_ hnew_; (first | rw [← Ny250.out] at ho9 | (simp only [Int.reduceToNat] at ho9; rw [← Ny250.out] at ho9)); have HO252 := Aside0.mk (Kd.R_lower (Kd.R_new' ho9 (Kd.R_lt (kR HO246.out))) (keep_size (w := w) (g := g) (row := none) (by repeat (first | (with_reducible first | exact HK.out | apply KeepBut.set_ | apply keep_drewN | apply keep_drew | apply keep_alloc) | exact HK.out)))); replace HO246 := Aside0.mk (Kd.R_elder' (kR HO246.out) (Kd.R_base ho9) hb); replace HK := Aside0.mk (KeepBut.trans (by repeat (first | (with_reducible first | exact HK.out | apply KeepBut.set_ | apply keep_drewN | apply keep_drew | apply keep_alloc) | exact HK.out)) (KeepBut.of_below hb g none) (.inl rfl)); replace HB := Aside0.mk (below_step (by repeat (first | (with_reducible first | exact HB.out | apply below_alloc | apply pw_below_drewN | apply below_drew1 | refine below_set ?_ (IsS215.ge HI0.out)) | exact HB.out)) hb); replace HI0 := Aside0.mk (IsS215.below (by repeat (first | (with_reducible first | exact HI0.out | apply IsS215.alloc | apply IsS215.drewN | apply IsS215.drew | apply IsS215.set_1 | apply IsS215.set_2) | exact HI0.out)) hb); clear hb ho9; obtain ⟨Ao10, co10, eo10⟩ := Kd.R_slice HO252.out; subst eo10) | ((with_reducible refine gate_callee (f := 161) rfl ?_); refine goesL_ (some 10) rfl rfl Try.func161 (by kernel_rfl) rfl #[.pointer (some ⟨g, 0, none⟩), .slice Ao10 y250.length co10] rfl ar ?_; (with_reducible refine (spec_l01Pick.calls g s0_0 t248 t249 _ _ y250 t253 t254 t255 w0 _ ?side1 ?side2 ?side3 ?side4 ?side5 A5.out).mono ?_); (case side1 => repeat (first | (with_reducible first | exact HI0.out | apply IsS215.alloc | apply IsS215.drewN | apply IsS215.drew | apply IsS215.set_1 | apply IsS215.set_2) | exact HI0.out)); (case side2 => repeat (first | (with_reducible first | exact HB.out | apply below_alloc | apply pw_below_drewN | apply below_drew1 | refine below_set ?_ (IsS215.ge HI0.out)) | exact HB.out)); (case side3 => exact kC (Kd.R_reads' HO252.out).2.2); (case side4 => exact (Kd.R_reads' HO252.out).2.1); (case side5 => exact far_slice (IsS215.own_ne HI0.out HO252.out (by decide))); rintro e w11 ⟨rfl, hi, hb, hk⟩; refine ⟨_, rfl, ?_⟩; replace HO246 := Aside0.mk (Kd.R_mono (Kd.R_keep (IsS215.apart (show IsS215 w0 _ g s0_0 t248 t249 from by repeat (first | (with_reducible first | exact HI0.out | apply IsS215.alloc | apply IsS215.drewN | apply IsS215.drew | apply IsS215.set_1 | apply IsS215.set_2) | exact HI0.out)) (kR HO246.out) (by decide)) hk (fun _ h => h.2)) (fun _ h => h.1)); replace HO252 := Aside0.mk (Kd.R_mono (Kd.R_keep (IsS215.apart (show IsS215 w0 _ g s0_0 t248 t249 from by repeat (first | (with_reducible first | exact HI0.out | apply IsS215.alloc | apply IsS215.drewN | apply IsS215.drew | apply IsS215.set_1 | apply IsS215.set_2) | exact HI0.out)) (kR HO252.out) (by decide)) hk (fun _ h => h.2)) (fun _ h => h.1)); replace HK := Aside0.mk (KeepBut.trans (by repeat (first | (with_reducible first | exact HK.out | apply KeepBut.set_ | apply keep_drewN | apply keep_drew | apply keep_alloc) | exact HK.out)) hk (.inl rfl)); replace HB := Aside0.mk (hb); replace HI0 := Aside0.mk (hi); (try clear hb); (try clear hb2); (try clear hk); (try clear hi)))
  go_ret
  exact ⟨by first | rfl | (simp [errW_none, errW_some] <;> rfl) | (simp [*, errW_none, errW_some] <;> rfl), by repeat (first | (with_reducible first | exact HI0.out | apply IsS215.alloc | apply IsS215.drewN | apply IsS215.drew | apply IsS215.set_1 | apply IsS215.set_2) | exact HI0.out), by repeat (first | (with_reducible first | exact HB.out | apply below_alloc | apply pw_below_drewN | apply below_drew1 | refine below_set ?_ (IsS215.ge HI0.out)) | exact HB.out), by repeat (first | (with_reducible first | exact HK.out | apply KeepBut.set_ | apply keep_drewN | apply keep_drew | apply keep_alloc) | exact HK.out)⟩
 ·rw [if_neg c4] at H
  have c4b0 : (t247 == 0) = false := beq_eq_false_iff_ne.mpr c4
  have c4b1 : (t247 != 0) = true := bne_iff_ne.mpr c4
  obtain ⟨y256, hy256⟩ : ∃ y_ : List Int, y_ = (([6, 17] : List Int)) := ⟨_, rfl⟩
  replace H : ((spec_l01Pick.f s0_0 t248 t249 y256).bind fun bt259 => ((spec_l01Next.f s0_0 bt259.2.1 bt259.2.2 bt259.1).bind fun bt262 => (if 0 ≤ bt262.1 then (if bt262.1 < (t244.length : Int) then (some (rd t244 bt262.1, bt262.2.1, bt262.2.2)) else (none)) else (none)))) = some (r1, r2, r3) := by first | (rw [hy256]; with_reducible exact H) | (rw [hy256]; with_reducible exact (bs H :)) | with_reducible exact (bs H :) | exact H
  have Ny256 := Aside0.mk hy256
  clear hy256
  replace H := Option.bind_eq_some_iff.mp H
  obtain ⟨⟨t259, t260, t261⟩, A120, H⟩ := H
  replace H : ((spec_l01Next.f s0_0 t260 t261 t259).bind fun bt262 => (if 0 ≤ bt262.1 then (if bt262.1 < (t244.length : Int) then (some (rd t244 bt262.1, bt262.2.1, bt262.2.2)) else (none)) else (none))) = some (r1, r2, r3) := H
  have A12 := Aside0.mk A120
  clear A120
  replace H := Option.bind_eq_some_iff.mp H
  obtain ⟨⟨t262, t263, t264⟩, A130, H⟩ := H
  replace H : (if 0 ≤ t262 then (if t262 < (t244.length : Int) then (some (rd t244 t262, t263, t264)) else (none)) else (none)) = some (r1, r2, r3) := H
  have A13 := Aside0.mk A130
  clear A130
  by_cases c14 : 0 ≤ t262
  ·rw [if_pos c14] at H
   have c14b0 : decide (0 ≤ t262) = true := decide_eq_true c14
   clear c14
   by_cases c15 : t262 < (t244.length : Int)
   ·rw [if_pos c15] at H
    have c15b0 : decide (t262 < (t244.length : Int)) = true := decide_eq_true c15
    clear c15
    simp only [Option.some.injEq, Prod.mk.injEq] at H
    obtain ⟨rfl, rfl, rfl⟩ := H
    go_enter Try.func210, Try.ntmps210
    go_wp2_with (first | ((with_reducible refine gate_callee (f := 239) rfl ?_); refine goesL_ (some 4) rfl rfl Try.func239 (by kernel_rfl) rfl #[] rfl ar ?_; (with_reducible refine (spec_l06Primes.calls  t244 _ A2.out).mono ?_); rintro e w16 ⟨v245, rfl, ho0, hb⟩; refine ⟨_, rfl, ?_⟩; have HO246 := Aside0.mk (Kd.R_lower ho0 (keep_size (w := w) (g := g) (row := none) (by repeat (first | (with_reducible first | exact HK.out | apply KeepBut.set_ | apply keep_drewN | apply keep_drew | apply keep_alloc) | exact HK.out)))); replace HK := Aside0.mk (KeepBut.trans (by repeat (first | (with_reducible first | exact HK.out | apply KeepBut.set_ | apply keep_drewN | apply keep_drew | apply keep_alloc) | exact HK.out)) (KeepBut.of_below hb g none) (.inl rfl)); replace HB := Aside0.mk (below_step (by repeat (first | (with_reducible first | exact HB.out | apply below_alloc | apply pw_below_drewN | apply below_drew1 | refine below_set ?_ (IsS215.ge HI0.out)) | exact HB.out)) hb); replace HI0 := Aside0.mk (IsS215.below (by repeat (first | (with_reducible first | exact HI0.out | apply IsS215.alloc | apply IsS215.drewN | apply IsS215.drew | apply IsS215.set_1 | apply IsS215.set_2) | exact HI0.out)) hb); (try clear hb); (try clear hb2); (try clear hk); (try clear hi); (try clear ho0)) | ((with_reducible refine gate_callee (f := 158) rfl ?_); refine goesL_ (some 6) rfl rfl Try.func158 (by kernel_rfl) rfl #[.pointer (some ⟨g, 0, none⟩), .int .i64 30] rfl ar ?_; (with_reducible refine (spec_l01Next.calls g s0_0 s0_1 s0_2 30 t247 t248 t249 w0 _ ?side1 ?side2 A3.out).mono ?_); (case side1 => repeat (first | (with_reducible first | exact HI0.out | apply IsS215.alloc | apply IsS215.drewN | apply IsS215.drew | apply IsS215.set_1 | apply IsS215.set_2) | exact HI0.out)); (case side2 => repeat (first | (with_reducible first | exact HB.out | apply below_alloc | apply pw_below_drewN | apply below_drew1 | refine below_set ?_ (IsS215.ge HI0.out)) | exact HB.out)); rintro e w17 ⟨rfl, hi, hb, hk⟩; refine ⟨_, rfl, ?_⟩; replace HO246 := Aside0.mk (Kd.R_mono (Kd.R_keep (IsS215.apart (show IsS215 w0 _ g s0_0 s0_1 s0_2 from by repeat (first | (with_reducible first | exact HI0.out | apply IsS215.alloc | apply IsS215.drewN | apply IsS215.drew | apply IsS215.set_1 | apply IsS215.set_2) | exact HI0.out)) (kR HO246.out) (by decide)) hk (fun _ h => h.2)) (fun _ h => h.1)); replace HK := Aside0.mk (KeepBut.trans (by repeat (first | (with_reducible first | exact HK.out | apply KeepBut.set_ | apply keep_drewN | apply keep_drew | apply keep_alloc) | exact HK.out)) hk (.inl rfl)); replace HB := Aside0.mk (hb); replace HI0 := Aside0.mk (hi); (try clear hb); (try clear hb2); (try clear hk); (try clear hi)) | ((with_reducible refine gate_dst (N := 14) rfl ?_); refine Kd.R_lit (Kd.int .i64) _ 2 ?hg (N := 14) ?hd (xs := ([6, 17] : List Int)) (inner := [.int .i64 6, .int .i64 17]) (ok := fun _ => True) (okp := fun _ => True) ?hr ?hp (fun _ hk => hk) trivial (Below.refl _ _) (Nat.le_refl _) (by simp) ?_; (case hd => rfl); (case hg => rfl); (case hr => first | (go_simp; done) | (go_simp; rfl)); (case hp => exact (Reps.one (show Kd.M (Kd.int .i64) _ _ _ 6 [.int .i64 6] from rfl) (Reps.one (show Kd.M (Kd.int .i64) _ _ _ 17 [.int .i64 17] from rfl) (Reps.none _ _)))); intro v257 w18 ho19 hb hg_ hnew_; clear hg_ hnew_; (first | rw [← Ny256.out] at ho19 | (simp only [Int.reduceToNat] at ho19; rw [← Ny256.out] at ho19)); have HO258 := Aside0.mk (Kd.R_lower (Kd.R_new' ho19 (Kd.R_lt (kR HO246.out))) (keep_size (w := w) (g := g) (row := none) (by repeat (first | (with_reducible first | exact HK.out | apply KeepBut.set_ | apply keep_drewN | apply keep_drew | apply keep_alloc) | exact HK.out)))); replace HO246 := Aside0.mk (Kd.R_elder' (kR HO246.out) (Kd.R_base ho19) hb); replace HK := Aside0.mk (KeepBut.trans (by repeat (first | (with_reducible first | exact HK.out | apply KeepBut.set_ | apply keep_drewN | apply keep_drew | apply keep_alloc) | exact HK.out)) (KeepBut.of_below hb g none) (.inl rfl)); replace HB := Aside0.mk (below_step (by repeat (first | (with_reducible first | exact HB.out | apply below_alloc | apply pw_below_drewN | apply below_drew1 | refine below_set ?_ (IsS215.ge HI0.out)) | exact HB.out)) hb); replace HI0 := Aside0.mk (IsS215.below (by repeat (first | (with_reducible first | exact HI0.out | apply IsS215.alloc | apply IsS215.drewN | apply IsS215.drew | apply IsS215.set_1 | apply IsS215.set_2) | exact HI0.out)) hb); clear hb ho19; obtain ⟨Ao20, co20, eo20⟩ := Kd.R_slice HO258.out; subst eo20) | ((with_reducible refine gate_callee (f := 161) rfl ?_); refine goesL_ (some 15) rfl rfl Try.func161 (by kernel_rfl) rfl #[.pointer (some ⟨g, 0, none⟩), .slice Ao20 y256.length co20] rfl ar ?_; (with_reducible refine (spec_l01Pick.calls g s0_0 t248 t249 _ _ y256 t259 t260 t261 w0 _ ?side1 ?side2 ?side3 ?side4 ?side5 A12.out).mono ?_); (case side1 => repeat (first | (with_reducible first | exact HI0.out | apply IsS215.alloc | apply IsS215.drewN | apply IsS215.drew | apply IsS215.set_1 | apply IsS215.set_2) | exact HI0.out)); (case side2 => repeat (first | (with_reducible first | exact HB.out | apply below_alloc | apply pw_below_drewN | apply below_drew1 | refine below_set ?_ (IsS215.ge HI0.out)) | exact HB.out)); (case side3 => exact kC (Kd.R_reads' HO258.out).2.2); (case side4 => exact (Kd.R_reads' HO258.out).2.1); (case side5 => exact far_slice (IsS215.own_ne HI0.out HO258.out (by decide))); rintro e w21 ⟨rfl, hi, hb, hk⟩; refine ⟨_, rfl, ?_⟩; replace HO246 := Aside0.mk (Kd.R_mono (Kd.R_keep (IsS215.apart (show IsS215 w0 _ g s0_0 t248 t249 from by repeat (first | (with_reducible first | exact HI0.out | apply IsS215.alloc | apply IsS215.drewN | apply IsS215.drew | apply IsS215.set_1 | apply IsS215.set_2) | exact HI0.out)) (kR HO246.out) (by decide)) hk (fun _ h => h.2)) (fun _ h => h.1)); replace HO258 := Aside0.mk (Kd.R_mono (Kd.R_keep (IsS215.apart (show IsS215 w0 _ g s0_0 t248 t249 from by repeat (first | (with_reducible first | exact HI0.out | apply IsS215.alloc | apply IsS215.drewN | apply IsS215.drew | apply IsS215.set_1 | apply IsS215.set_2) | exact HI0.out)) (kR HO258.out) (by decide)) hk (fun _ h => h.2)) (fun _ h => h.1)); replace HK := Aside0.mk (KeepBut.trans (by repeat (first | (with_reducible first | exact HK.out | apply KeepBut.set_ | apply keep_drewN | apply keep_drew | apply keep_alloc) | exact HK.out)) hk (.inl rfl)); replace HB := Aside0.mk (hb); replace HI0 := Aside0.mk (hi); (try clear hb); (try clear hb2); (try clear hk); (try clear hi)) | ((with_reducible refine gate_callee (f := 158) rfl ?_); refine goesL_ (some 16) rfl rfl Try.func158 (by kernel_rfl) rfl #[.pointer (some ⟨g, 0, none⟩), .int .i64 t259] rfl ar ?_; (with_reducible refine (spec_l01Next.calls g s0_0 t260 t261 t259 t262 t263 t264 w0 _ ?side1 ?side2 A13.out).mono ?_); (case side1 => repeat (first | (with_reducible first | exact HI0.out | apply IsS215.alloc | apply IsS215.drewN | apply IsS215.drew | apply IsS215.set_1 | apply IsS215.set_2) | exact HI0.out)); (case side2 => repeat (first | (with_reducible first | exact HB.out | apply below_alloc | apply pw_below_drewN | apply below_drew1 | refine below_set ?_ (IsS215.ge HI0.out)) | exact HB.out)); rintro e w22 ⟨rfl, hi, hb, hk⟩; refine ⟨_, rfl, ?_⟩; replace HO246 := Aside0.mk (Kd.R_mono (Kd.R_keep (IsS215.apart (show IsS215 w0 _ g s0_0 t260 t261 from by repeat (first | (with_reducible first | exact HI0.out | apply IsS215.alloc | apply IsS215.drewN | apply IsS215.drew | apply IsS215.set_1 | apply IsS215.set_2) | exact HI0.out)) (kR HO246.out) (by decide)) hk (fun _ h => h.2)) (fun _ h => h.1)); replace HO258 := Aside0.mk (Kd.R_mono (Kd.R_keep (IsS215.apart (show IsS215 w0 _ g s0_0 t260 t261 from by repeat (first | (with_reducible first | exact HI0.out | apply IsS215.alloc | apply IsS215.drewN | apply IsS215.drew | apply IsS215.set_1 | apply IsS215.set_2) | exact HI0.out)) (kR HO258.out) (by decide)) hk (fun _ h => h.2)) (fun _ h => h.1)); replace HK := Aside0.mk (KeepBut.trans (by repeat (first | (with_reducible first | exact HK.out | apply KeepBut.set_ | apply keep_drewN | apply keep_drew | apply keep_alloc) | exact HK.out)) hk (.inl rfl)); replace HB := Aside0.mk (hb); replace HI0 := Aside0.mk (hi); (try clear hb); (try clear hb2); (try clear hk); (try clear hi); obtain ⟨Ao23, co23, eo23⟩ := Kd.R_slice HO246.out; subst eo23; have p265 : 0 ≤ (t262 : Int) := od; have q265 : t262 < (t244.length : Int) := od; obtain ⟨ad265, e265, hx265_0⟩ := Kd.at_int (Kd.R_reads' HO246.out).2.2 t262 p265 q265; cases e265; replace p265 := eq_true p265; replace q265 := eq_true q265))
    go_ret
    exact ⟨by first | rfl | (simp [errW_none, errW_some] <;> rfl) | (simp [*, errW_none, errW_some] <;> rfl), by repeat (first | (with_reducible first | exact HI0.out | apply IsS215.alloc | apply IsS215.drewN | apply IsS215.drew | apply IsS215.set_1 | apply IsS215.set_2) | exact HI0.out), by repeat (first | (with_reducible first | exact HB.out | apply below_alloc | apply pw_below_drewN | apply below_drew1 | refine below_set ?_ (IsS215.ge HI0.out)) | exact HB.out), by repeat (first | (with_reducible first | exact HK.out | apply KeepBut.set_ | apply keep_drewN | apply keep_drew | apply keep_alloc) | exact HK.out)⟩
   ·rw [if_neg c15] at H
    exact absurd H (by simp)
  ·rw [if_neg c14] at H
   exact absurd H (by simp)

/-! ### spec_DrawBernoulliModulo: function 100 -/
def spec_DrawBernoulliModulo.f (k : Nat) (l0 : List Int) : Option (Int × Int) := (spec_l01From.f k l0).bind fun bt266 => ((spec_l08Prime.f bt266.1 bt266.2.1 bt266.2.2).bind fun bt270 => ((spec_l01Next.f bt266.1 bt270.2.1 bt270.2.2 (mx (wrap64 (Int.tdiv bt270.1 2)) 1)).bind fun bt273 => ((spec_l01Next.f bt266.1 bt273.2.1 bt273.2.2 12).bind fun bt276 => (some (bt270.1, wrap64 ((wrap64 (2 * bt273.1)) + (wrap64 (Int.tdiv bt276.1 11))))))))
set_option maxHeartbeats 8000000 in
set_option maxRecDepth 100000 in
theorem spec_DrawBernoulliModulo.calls (k : Nat) (A0 : Option Addr) (c0 : Nat) (l0 : List Int) (r1 : Int) (r2 : Int) (w : World) (hr0 : Kd.C (Kd.int .u8) w A0 l0.length l0) (hc0 : l0.length ≤ c0) (h : spec_DrawBernoulliModulo.f k l0 = some (r1, r2)) :
  Calls Try.prog 100 #[.slice A0 l0.length c0] w fun e w' => e = .returned (.tuple #[.int .i64 r1, .int .i64 r2]) ∧ Below w.heap.size w w' := by
 have HR0 := Aside0.mk hr0
 have HC0 := Aside0.mk hc0
 clear hr0 hc0
 have HB := Aside0.mk (Below.refl w.heap.size w)
 have H : ((spec_l01From.f k l0).bind fun bt266 => ((spec_l08Prime.f bt266.1 bt266.2.1 bt266.2.2).bind fun bt270 => ((spec_l01Next.f bt266.1 bt270.2.1 bt270.2.2 (mx (wrap64 (Int.tdiv bt270.1 2)) 1)).bind fun bt273 => ((spec_l01Next.f bt266.1 bt273.2.1 bt273.2.2 12).bind fun bt276 => (some (bt270.1, wrap64 ((wrap64 (2 * bt273.1)) + (wrap64 (Int.tdiv bt276.1 11))))))))) = some (r1, r2) := h
 clear h
 replace H := Option.bind_eq_some_iff.mp H
 obtain ⟨⟨t266, t267, t268⟩, A20, H⟩ := H
 replace H : ((spec_l08Prime.f t266 t267 t268).bind fun bt270 => ((spec_l01Next.f t266 bt270.2.1 bt270.2.2 (mx (wrap64 (Int.tdiv bt270.1 2)) 1)).bind fun bt273 => ((spec_l01Next.f t266 bt273.2.1 bt273.2.2 12).bind fun bt276 => (some (bt270.1, wrap64 ((wrap64 (2 * bt273.1)) + (wrap64 (Int.tdiv bt276.1 11)))))))) = some (r1, r2) := H
 have A2 := Aside0.mk A20
 clear A20
 replace H := Option.bind_eq_some_iff.mp H
 obtain ⟨⟨t270, t271, t272⟩, A30, H⟩ := H
 replace H : ((spec_l01Next.f t266 t271 t272 (mx (wrap64 (Int.tdiv t270 2)) 1)).bind fun bt273 => ((spec_l01Next.f t266 bt273.2.1 bt273.2.2 12).bind fun bt276 => (some (t270, wrap64 ((wrap64 (2 * bt273.1)) + (wrap64 (Int.tdiv bt276.1 11))))))) = some (r1, r2) := H
 have A3 := Aside0.mk A30
 clear A30
 obtain ⟨ji4, hji4⟩ : ∃ j_ : Int, (mx (wrap64 (Int.tdiv t270 2)) 1) = j_ := ⟨_, rfl⟩
 replace H : ((spec_l01Next.f t266 t271 t272 (ji4)).bind fun bt273 => ((spec_l01Next.f t266 bt273.2.1 bt273.2.2 12).bind fun bt276 => (some (t270, wrap64 ((wrap64 (2 * bt273.1)) + (wrap64 (Int.tdiv bt276.1 11))))))) = some (r1, r2) := by first | (rw [hji4] at H; exact H) | (simp only [hji4] at H ⊢; exact H)
 (try rw [hji4] at A2)
 (try rw [hji4] at A3)
 (try (have hji4l : 1 ≤ ji4 := by (rw [← hji4]; unfold mx; (repeat' split) <;> omega)))
 (try (have hji4m : 0 ≤ ji4 := by omega))
 have hji4_ : (if (wrap64 (Int.tdiv t270 2)) < 1 then 1 else (wrap64 (Int.tdiv t270 2))) = ji4 := hji4
 replace H := Option.bind_eq_some_iff.mp H
 obtain ⟨⟨t273, t274, t275⟩, A50, H⟩ := H
 replace H : ((spec_l01Next.f t266 t274 t275 12).bind fun bt276 => (some (t270, wrap64 ((wrap64 (2 * t273)) + (wrap64 (Int.tdiv bt276.1 11)))))) = some (r1, r2) := H
 have A5 := Aside0.mk A50
 clear A50
 replace H := Option.bind_eq_some_iff.mp H
 obtain ⟨⟨t276, t277, t278⟩, A60, H⟩ := H
 replace H : (some (t270, wrap64 ((wrap64 (2 * t273)) + (wrap64 (Int.tdiv t276 11))))) = some (r1, r2) := H
 have A6 := Aside0.mk A60
 clear A60
 simp only [Option.some.injEq, Prod.mk.injEq] at H
 obtain ⟨rfl, rfl⟩ := H
 go_enter Try.func100, Try.ntmps100
 go_wp2_with (first | ((with_reducible refine gate_callee (f := 150) rfl ?_); refine goesL_ (some 7) rfl rfl Try.func150 (by kernel_rfl) rfl #[.slice A0 l0.length c0] rfl ar ?_; (with_reducible refine (spec_l01From.calls k _ _ l0 t266 t267 t268 w _ ?side1 ?side2 ?side3 A2.out).mono ?_); (case side1 => exact tb); (case side2 => exact HR0.out); (case side3 => exact HC0.out); rintro e w7 ⟨g269, rfl, hi, hb, hb2⟩; refine ⟨_, rfl, ?_⟩; replace HB := Aside0.mk (hb); have HI269 := Aside0.mk (hi); (try clear hb); (try clear hb2); (try clear hk); (try clear hi)) | ((with_reducible refine gate_callee (f := 210) rfl ?_); refine goesL_ (some 9) rfl rfl Try.func210 (by kernel_rfl) rfl #[.pointer (some ⟨g269, 0, none⟩)] rfl ar ?_; (with_reducible refine (spec_l08Prime.calls g269 t266 t267 t268 t270 t271 t272 w _ ?side1 ?side2 A3.out).mono ?_); (case side1 => repeat (first | (with_reducible first | exact HI269.out | apply IsS215.alloc | apply IsS215.drewN | apply IsS215.drew | apply IsS215.set_1 | apply IsS215.set_2) | exact HI269.out)); (case side2 => repeat (first | (with_reducible first | exact HB.out | apply below_alloc | apply pw_below_drewN | apply below_drew1 | refine below_set ?_ (IsS215.ge HI269.out)) | exact HB.out)); rintro e w8 ⟨rfl, hi, hb, hk⟩; refine ⟨_, rfl, ?_⟩; replace HB := Aside0.mk (hb); replace HI269 := Aside0.mk (hi); (try clear hb); (try clear hb2); (try clear hk); (try clear hi)) | ((with_reducible refine gate_callee (f := 158) rfl ?_); refine goesL_ (some 15) rfl rfl Try.func158 (by kernel_rfl) rfl #[.pointer (some ⟨g269, 0, none⟩), .int .i64 ji4] rfl (by (try simp only [List.map_toArray, List.map_cons, List.map_nil]); first | done | (simp only [hji4]; rfl) | rfl | (simp only [List.length_drop, List.length_take]; rfl)) ?_; (with_reducible refine (spec_l01Next.calls g269 t266 t271 t272 ji4 t273 t274 t275 w _ ?side1 ?side2 A5.out).mono ?_); (case side1 => repeat (first | (with_reducible first | exact HI269.out | apply IsS215.alloc | apply IsS215.drewN | apply IsS215.drew | apply IsS215.set_1 | apply IsS215.set_2) | exact HI269.out)); (case side2 => repeat (first | (with_reducible first | exact HB.out | apply below_alloc | apply pw_below_drewN | apply below_drew1 | refine below_set ?_ (IsS215.ge HI269.out)) | exact HB.out)); rintro e w9 ⟨rfl, hi, hb, hk⟩; refine ⟨_, rfl, ?_⟩; replace HB := Aside0.mk (hb); replace HI269 := Aside0.mk (hi); (try clear hb); (try clear hb2); (try clear hk); (try clear hi)) | ((with_reducible refine gate_callee (f := 158) rfl ?_); refine goesL_ (some 18) rfl rfl Try.func158 (by kernel_rfl) rfl #[.pointer (some ⟨g269, 0, none⟩), .int .i64 12] rfl ar ?_; (with_reducible refine (spec_l01Next.calls g269 t266 t274 t275 12 t276 t277 t278 w _ ?side1 ?side2 A6.out).mono ?_); (case side1 => repeat (first | (with_reducible first | exact HI269.out | apply IsS215.alloc | apply IsS215.drewN | apply IsS215.drew | apply IsS215.set_1 | apply IsS215.set_2) | exact HI269.out)); (case side2 => repeat (first | (with_reducible first | exact HB.out | apply below_alloc | apply pw_below_drewN | apply below_drew1 | refine below_set ?_ (IsS215.ge HI269.out)) | exact HB.out)); rintro e w10 ⟨rfl, hi, hb, hk⟩; refine ⟨_, rfl, ?_⟩; replace HB := Aside0.mk (hb); replace HI269 := Aside0.mk (hi); (try clear hb); (try clear hb2); (try clear hk); (try clear hi)))
 go_ret2
 exact ⟨by first | rfl | (simp [errW_none, errW_some] <;> rfl) | (simp only [← hji4]; first | rfl | (simp [errW_none, errW_some] <;> rfl)) | (simp [*, errW_none, errW_some] <;> rfl), by repeat (first | (with_reducible first | exact HB.out | apply below_alloc | apply pw_below_drewN | apply below_drew1 | refine below_set ?_ (IsS215.ge HI269.out)) | exact HB.out)⟩

/-! ### impl_BernoulliModulo: function 101 -/
def impl_BernoulliModulo.f (k : Nat) (a0 : Int) (a1 : Int) : Option (Int × Int) := (impl_isPrime.f k a0).bind fun t279 => (if t279 = true then ((impl_within.f a1 2 (wrap64 (a0 - 3))).bind fun t280 => (if t280 = true then (if (Int.tmod a1 2) = 0 then ((impl_bernoulliBy.f k a0 a1).bind fun t281 => (if 0 ≤ a1 then (if a1 < (t281.length : Int) then (some (rd t281 a1, 0)) else (none)) else (none))) else (some (0, 2))) else (some (0, 2)))) else (some (0, 2)))
set_option maxHeartbeats 8000000 in
set_option maxRecDepth 100000 in
theorem impl_BernoulliModulo.calls (k : Nat) (a0 : Int) (a1 : Int) (r1 : Int) (r2 : Int) (w : World) (h : impl_BernoulliModulo.f k a0 a1 = some (r1, r2)) :
  Calls Try.prog 101 #[.int .i64 a0, .int .i64 a1] w fun e w' => e = .returned (.tuple #[.int .i64 r1, .int .i64 r2]) ∧ Below w.heap.size w w' := by
 have HB := Aside0.mk (Below.refl w.heap.size w)
 have H : ((impl_isPrime.f k a0).bind fun t279 => (if t279 = true then ((impl_within.f a1 2 (wrap64 (a0 - 3))).bind fun t280 => (if t280 = true then (if (Int.tmod a1 2) = 0 then ((impl_bernoulliBy.f k a0 a1).bind fun t281 => (if 0 ≤ a1 then (if a1 < (t281.length : Int) then (some (rd t281 a1, 0)) else (none)) else (none))) else (some (0, 2))) else (some (0, 2)))) else (some (0, 2)))) = some (r1, r2) := h
 clear h
 replace H := Option.bind_eq_some_iff.mp H
 obtain ⟨t279, A30, H⟩ := H
 replace H : (if t279 = true then ((impl_within.f a1 2 (wrap64 (a0 - 3))).bind fun t280 => (if t280 = true then (if (Int.tmod a1 2) = 0 then ((impl_bernoulliBy.f k a0 a1).bind fun t281 => (if 0 ≤ a1 then (if a1 < (t281.length : Int) then (some (rd t281 a1, 0)) else (none)) else (none))) else (some (0, 2))) else (some (0, 2)))) else (some (0, 2))) = some (r1, r2) := H
 have A3 := Aside0.mk A30
 clear A30
 by_cases c4 : t279 = true
 ·subst c4
  have H1 : ((impl_within.f a1 2 (wrap64 (a0 - 3))).bind fun t280 => (if t280 = true then (if (Int.tmod a1 2) = 0 then ((impl_bernoulliBy.f k a0 a1).bind fun t281 => (if 0 ≤ a1 then (if a1 < (t281.length : Int) then (some (rd t281 a1, 0)) else (none)) else (none))) else (some (0, 2))) else (some (0, 2)))) = some (r1, r2) := by rw [if_pos rfl] at H; exact H
  clear H
  have H := H1
  clear H1
  replace H := Option.bind_eq_some_iff.mp H
  obtain ⟨t280, A50, H⟩ := H
  replace H : (if t280 = true then (if (Int.tmod a1 2) = 0 then ((impl_bernoulliBy.f k a0 a1).bind fun t281 => (if 0 ≤ a1 then (if a1 < (t281.length : Int) then (some (rd t281 a1, 0)) else (none)) else (none))) else (some (0, 2))) else (some (0, 2))) = some (r1, r2) := H
  have A5 := Aside0.mk A50
  clear A50
  by_cases c6 : t280 = true
  ·subst c6
   have H1 : (if (Int.tmod a1 2) = 0 then ((impl_bernoulliBy.f k a0 a1).bind fun t281 => (if 0 ≤ a1 then (if a1 < (t281.length : Int) then (some (rd t281 a1, 0)) else (none)) else (none))) else (some (0, 2))) = some (r1, r2) := by rw [if_pos rfl] at H; exact H
   clear H
   have H := H1
   clear H1
   by_cases c7 : (Int.tmod a1 2) = 0
   ·rw [if_pos c7] at H
    have c7b0 : ((Int.tmod a1 2) == 0) = true := beq_iff_eq.mpr c7
    have c7b1 : ((Int.tmod a1 2) != 0) = false := bne_eq_false_iff_eq.mpr c7
    clear c7
    replace H := Option.bind_eq_some_iff.mp H
    obtain ⟨t281, A80, H⟩ := H
    replace H : (if 0 ≤ a1 then (if a1 < (t281.length : Int) then (some (rd t281 a1, 0)) else (none)) else (none)) = some (r1, r2) := H
    have A8 := Aside0.mk A80
    clear A80
    by_cases c9 : 0 ≤ a1
    ·rw [if_pos c9] at H
     have c9b0 : decide (0 ≤ a1) = true := decide_eq_true c9
     clear c9
     by_cases c10 : a1 < (t281.length : Int)
     ·rw [if_pos c10] at H
      have c10b0 : decide (a1 < (t281.length : Int)) = true := decide_eq_true c10
      clear c10
      simp only [Option.some.injEq, Prod.mk.injEq] at H
      obtain ⟨rfl, rfl⟩ := H
      go_enter Try.func101, Try.ntmps101
      go_wp2_with (first | ((with_reducible refine gate_callee (f := 118) rfl ?_); refine goesL_ (some 7) rfl rfl Try.func118 (by kernel_rfl) rfl #[.int .i64 a0] rfl ar ?_; (with_reducible refine (impl_isPrime.calls k a0 true _ A3.out).mono ?_); rintro e w' ⟨rfl, ⟨nd, rfl⟩⟩; refine ⟨_, rfl, ?_⟩) | (go_at_call 159; (with_reducible refine (impl_within.calls a1 2 (wrap64 (a0 - 3)) true _ A5.out).mono ?_); rintro e w' ⟨rfl, ⟨nd, rfl⟩⟩) | ((with_reducible refine gate_callee (f := 169) rfl ?_); refine goesL_ (some 23) rfl rfl Try.func169 (by kernel_rfl) rfl #[.int .i64 a0, .int .i64 a1] rfl ar ?_; (with_reducible refine (impl_bernoulliBy.calls k a0 a1 t281 _ A8.out).mono ?_); rintro e w11 ⟨v282, rfl, ho0, hb⟩; refine ⟨_, rfl, ?_⟩; have HO283 := Aside0.mk (Kd.R_lower ho0 (below_size tb)); replace HB := Aside0.mk (below_step tb hb); (try clear hb); (try clear hb2); (try clear hk); (try clear hi); (try clear ho0); obtain ⟨Ao12, co12, eo12⟩ := Kd.R_slice HO283.out; subst eo12; have p284 : 0 ≤ (a1 : Int) := od; have q284 : a1 < (t281.length : Int) := od; obtain ⟨ad284, e284, hx284_0⟩ := Kd.at_int (Kd.R_reads' HO283.out).2.2 a1 p284 q284; cases e284; replace p284 := eq_true p284; replace q284 := eq_true q284))
      go_ret2
      exact ⟨by first | rfl | (simp [errW_none, errW_some] <;> rfl) | (simp [*, errW_none, errW_some] <;> rfl), tb⟩
     ·rw [if_neg c10] at H
      exact absurd H (by simp)
    ·rw [if_neg c9] at H
     exact absurd H (by simp)
   ·rw [if_neg c7] at H
    have c7b0 : ((Int.tmod a1 2) == 0) = false := beq_eq_false_iff_ne.mpr c7
    have c7b1 : ((Int.tmod a1 2) != 0) = true := bne_iff_ne.mpr c7
    simp only [Option.some.injEq, Prod.mk.injEq] at H
    obtain ⟨rfl, rfl⟩ := H
    go_enter Try.func101, Try.ntmps101
    go_wp2_with (first | ((with_reducible refine gate_callee (f := 118) rfl ?_); refine goesL_ (some 7) rfl rfl Try.func118 (by kernel_rfl) rfl #[.int .i64 a0] rfl ar ?_; (with_reducible refine (impl_isPrime.calls k a0 true _ A3.out).mono ?_); rintro e w' ⟨rfl, ⟨nd, rfl⟩⟩; refine ⟨_, rfl, ?_⟩) | (go_at_call 159; (with_reducible refine (impl_within.calls a1 2 (wrap64 (a0 - 3)) true _ A5.out).mono ?_); rintro e w' ⟨rfl, ⟨nd, rfl⟩⟩))
    go_ret2
    exact ⟨by first | rfl | (simp [errW_none, errW_some] <;> rfl) | (simp [*, errW_none, errW_some] <;> rfl), tb⟩
  ·replace c6 := Bool.eq_false_iff.mpr c6
   subst c6
   have H1 : (some (0, 2)) = some (r1, r2) := by rw [if_neg (show ¬ (false = true) by decide)] at H; exact H
   clear H
   have H := H1
   clear H1
   simp only [Option.some.injEq, Prod.mk.injEq] at H
   obtain ⟨rfl, rfl⟩ := H
   go_enter Try.func101, Try.ntmps101
   go_wp2_with (first | ((with_reducible refine gate_callee (f := 118) rfl ?_); refine goesL_ (some 7) rfl rfl Try.func118 (by kernel_rfl) rfl #[.int .i64 a0] rfl ar ?_; (with_reducible refine (impl_isPrime.calls k a0 true _ A3.out).mono ?_); rintro e w' ⟨rfl, ⟨nd, rfl⟩⟩; refine ⟨_, rfl, ?_⟩) | (go_at_call 159; (with_reducible refine (impl_within.calls a1 2 (wrap64 (a0 - 3)) false _ A5.out).mono ?_); rintro e w' ⟨rfl, ⟨nd, rfl⟩⟩))
   go_ret2
   exact ⟨by first | rfl | (simp [errW_none, errW_some] <;> rfl) | (simp [*, errW_none, errW_some] <;> rfl), tb⟩
 ·replace c4 := Bool.eq_false_iff.mpr c4
  subst c4
  have H1 : (some (0, 2)) = some (r1, r2) := by rw [if_neg (show ¬ (false = true) by decide)] at H; exact H
  clear H
  have H := H1
  clear H1
  simp only [Option.some.injEq, Prod.mk.injEq] at H
  obtain ⟨rfl, rfl⟩ := H
  go_enter Try.func101, Try.ntmps101
  go_wp2_with (first | ((with_reducible refine gate_callee (f := 118) rfl ?_); refine goesL_ (some 7) rfl rfl Try.func118 (by kernel_rfl) rfl #[.int .i64 a0] rfl ar ?_; (with_reducible refine (impl_isPrime.calls k a0 false _ A3.out).mono ?_); rintro e w' ⟨rfl, ⟨nd, rfl⟩⟩; refine ⟨_, rfl, ?_⟩))
  go_ret2
  exact ⟨by first | rfl | (simp [errW_none, errW_some] <;> rfl) | (simp [*, errW_none, errW_some] <;> rfl), tb⟩

/-! ### spec_BernoulliModulo: function 102 -/
def spec_BernoulliModulo.f (k : Nat) (a0 : Int) (a1 : Int) : Option (Int × Int) := (spec_l06Prime.f k a0).bind fun t285 => (if t285 = true then ((spec_l01In.f a1 2 (wrap64 (a0 - 3))).bind fun t286 => (if t286 = true then (if (Int.tmod a1 2) = 1 then (some (0, 2)) else ((spec_l10Bernoulli.f k a0).bind fun t287 => (if 0 ≤ a1 then (if a1 < (t287.length : Int) then (some (rd t287 a1, 0)) else (none)) else (none)))) else (some (0, 2)))) else (some (0, 2)))
set_option maxHeartbeats 8000000 in
set_option maxRecDepth 100000 in
theorem spec_BernoulliModulo.calls (k : Nat) (a0 : Int) (a1 : Int) (r1 : Int) (r2 : Int) (w : World) (h : spec_BernoulliModulo.f k a0 a1 = some (r1, r2)) :
  Calls Try.prog 102 #[.int .i64 a0, .int .i64 a1] w fun e w' => e = .returned (.tuple #[.int .i64 r1, .int .i64 r2]) ∧ Below w.heap.size w w' := by
 have HB := Aside0.mk (Below.refl w.heap.size w)
 have H : ((spec_l06Prime.f k a0).bind fun t285 => (if t285 = true then ((spec_l01In.f a1 2 (wrap64 (a0 - 3))).bind fun t286 => (if t286 = true then (if (Int.tmod a1 2) = 1 then (some (0, 2)) else ((spec_l10Bernoulli.f k a0).bind fun t287 => (if 0 ≤ a1 then (if a1 < (t287.length : Int) then (some (rd t287 a1, 0)) else (none)) else (none)))) else (some (0, 2)))) else (some (0, 2)))) = some (r1, r2) := h
 clear h
 replace H := Option.bind_eq_some_iff.mp H
 obtain ⟨t285, A30, H⟩ := H
 replace H : (if t285 = true then ((spec_l01In.f a1 2 (wrap64 (a0 - 3))).bind fun t286 => (if t286 = true then (if (Int.tmod a1 2) = 1 then (some (0, 2)) else ((spec_l10Bernoulli.f k a0).bind fun t287 => (if 0 ≤ a1 then (if a1 < (t287.length : Int) then (some (rd t287 a1, 0)) else (none)) else (none)))) else (some (0, 2)))) else (some (0, 2))) = some (r1, r2) := H
 have A3 := Aside0.mk A30
 clear A30
 by_cases c4 : t285 = true
 ·subst c4
  have H1 : ((spec_l01In.f a1 2 (wrap64 (a0 - 3))).bind fun t286 => (if t286 = true then (if (Int.tmod a1 2) = 1 then (some (0, 2)) else ((spec_l10Bernoulli.f k a0).bind fun t287 => (if 0 ≤ a1 then (if a1 < (t287.length : Int) then (some (rd t287 a1, 0)) else (none)) else (none)))) else (some (0, 2)))) = some (r1, r2) := by rw [if_pos rfl] at H; exact H
  clear H
  have H := H1
  clear H1
  replace H := Option.bind_eq_some_iff.mp H
  obtain ⟨t286, A50, H⟩ := H
  replace H : (if t286 = true then (if (Int.tmod a1 2) = 1 then (some (0, 2)) else ((spec_l10Bernoulli.f k a0).bind fun t287 => (if 0 ≤ a1 then (if a1 < (t287.length : Int) then (some (rd t287 a1, 0)) else (none)) else (none)))) else (some (0, 2))) = some (r1, r2) := H
  have A5 := Aside0.mk A50
  clear A50
  by_cases c6 : t286 = true
  ·subst c6
   have H1 : (if (Int.tmod a1 2) = 1 then (some (0, 2)) else ((spec_l10Bernoulli.f k a0).bind fun t287 => (if 0 ≤ a1 then (if a1 < (t287.length : Int) then (some (rd t287 a1, 0)) else (none)) else (none)))) = some (r1, r2) := by rw [if_pos rfl] at H; exact H
   clear H
   have H := H1
   clear H1
   by_cases c7 : (Int.tmod a1 2) = 1
   ·rw [if_pos c7] at H
    have c7b0 : ((Int.tmod a1 2) == 1) = true := beq_iff_eq.mpr c7
    have c7b1 : ((Int.tmod a1 2) != 1) = false := bne_eq_false_iff_eq.mpr c7
    clear c7
    simp only [Option.some.injEq, Prod.mk.injEq] at H
    obtain ⟨rfl, rfl⟩ := H
    go_enter Try.func102, Try.ntmps102
    go_wp2_with (first | ((with_reducible refine gate_callee (f := 167) rfl ?_); refine goesL_ (some 7) rfl rfl Try.func167 (by kernel_rfl) rfl #[.int .i64 a0] rfl ar ?_; (with_reducible refine (spec_l06Prime.calls k a0 true _ A3.out).mono ?_); rintro e w' ⟨rfl, ⟨nd, rfl⟩⟩; refine ⟨_, rfl, ?_⟩) | (go_at_call 160; (with_reducible refine (spec_l01In.calls a1 2 (wrap64 (a0 - 3)) true _ A5.out).mono ?_); rintro e w' ⟨rfl, ⟨nd, rfl⟩⟩))
    go_ret2
    exact ⟨by first | rfl | (simp [errW_none, errW_some] <;> rfl) | (simp [*, errW_none, errW_some] <;> rfl), tb⟩
   ·rw [if_neg c7] at H
    have c7b0 : ((Int.tmod a1 2) == 1) = false := beq_eq_false_iff_ne.mpr c7
    have c7b1 : ((Int.tmod a1 2) != 1) = true := bne_iff_ne.mpr c7
    replace H := Option.bind_eq_some_iff.mp H
    obtain ⟨t287, A80, H⟩ := H
    replace H : (if 0 ≤ a1 then (if a1 < (t287.length : Int) then (some (rd t287 a1, 0)) else (none)) else (none)) = some (r1, r2) := H
    have A8 := Aside0.mk A80
    clear A80
    by_cases c9 : 0 ≤ a1
    ·rw [if_pos c9] at H
     have c9b0 : decide (0 ≤ a1) = true := decide_eq_true c9
     clear c9
     by_cases c10 : a1 < (t287.length : Int)
     ·rw [if_pos c10] at H
      have c10b0 : decide (a1 < (t287.length : Int)) = true := decide_eq_true c10
      clear c10
      simp only [Option.some.injEq, Prod.mk.injEq] at H
      obtain ⟨rfl, rfl⟩ := H
      go_enter Try.func102, Try.ntmps102
      go_wp2_with (first | ((with_reducible refine gate_callee (f := 167) rfl ?_); refine goesL_ (some 7) rfl rfl Try.func167 (by kernel_rfl) rfl #[.int .i64 a0] rfl ar ?_; (with_reducible refine (spec_l06Prime.calls k a0 true _ A3.out).mono ?_); rintro e w' ⟨rfl, ⟨nd, rfl⟩⟩; refine ⟨_, rfl, ?_⟩) | (go_at_call 160; (with_reducible refine (spec_l01In.calls a1 2 (wrap64 (a0 - 3)) true _ A5.out).mono ?_); rintro e w' ⟨rfl, ⟨nd, rfl⟩⟩) | ((with_reducible refine gate_callee (f := 168) rfl ?_); refine goesL_ (some 22) rfl rfl Try.func168 (by kernel_rfl) rfl #[.int .i64 a0] rfl ar ?_; (with_reducible refine (spec_l10Bernoulli.calls k a0 t287 _ A8.out).mono ?_); rintro e w11 ⟨v288, rfl, ho0, hb⟩; refine ⟨_, rfl, ?_⟩; have HO289 := Aside0.mk (Kd.R_lower ho0 (below_size tb)); replace HB := Aside0.mk (below_step tb hb); (try clear hb); (try clear hb2); (try clear hk); (try clear hi); (try clear ho0); obtain ⟨Ao12, co12, eo12⟩ := Kd.R_slice HO289.out; subst eo12; have p290 : 0 ≤ (a1 : Int) := od; have q290 : a1 < (t287.length : Int) := od; obtain ⟨ad290, e290, hx290_0⟩ := Kd.at_int (Kd.R_reads' HO289.out).2.2 a1 p290 q290; cases e290; replace p290 := eq_true p290; replace q290 := eq_true q290))
      go_ret2
      exact ⟨by first | rfl | (simp [errW_none, errW_some] <;> rfl) | (simp [*, errW_none, errW_some] <;> rfl), tb⟩
     ·rw [if_neg c10] at H
      exact absurd H (by simp)
    ·rw [if_neg c9] at H
     exact absurd H (by simp)
  ·replace c6 := Bool.eq_false_iff.mpr c6
   subst c6
   have H1 : (some (0, 2)) = some (r1, r2) := by rw [if_neg (show ¬ (false = true) by decide)] at H; exact H
   clear H
   have H := H1
   clear H1
   simp only [Option.some.injEq, Prod.mk.injEq] at H
   obtain ⟨rfl, rfl⟩ := H
   go_enter Try.func102, Try.ntmps102
   go_wp2_with (first | ((with_reducible refine gate_callee (f := 167) rfl ?_); refine goesL_ (some 7) rfl rfl Try.func167 (by kernel_rfl) rfl #[.int .i64 a0] rfl ar ?_; (with_reducible refine (spec_l06Prime.calls k a0 true _ A3.out).mono ?_); rintro e w' ⟨rfl, ⟨nd, rfl⟩⟩; refine ⟨_, rfl, ?_⟩) | (go_at_call 160; (with_reducible refine (spec_l01In.calls a1 2 (wrap64 (a0 - 3)) false _ A5.out).mono ?_); rintro e w' ⟨rfl, ⟨nd, rfl⟩⟩))
   go_ret2
   exact ⟨by first | rfl | (simp [errW_none, errW_some] <;> rfl) | (simp [*, errW_none, errW_some] <;> rfl), tb⟩
 ·replace c4 := Bool.eq_false_iff.mpr c4
  subst c4
  have H1 : (some (0, 2)) = some (r1, r2) := by rw [if_neg (show ¬ (false = true) by decide)] at H; exact H
  clear H
  have H := H1
  clear H1
  simp only [Option.some.injEq, Prod.mk.injEq] at H
  obtain ⟨rfl, rfl⟩ := H
  go_enter Try.func102, Try.ntmps102
  go_wp2_with (first | ((with_reducible refine gate_callee (f := 167) rfl ?_); refine goesL_ (some 7) rfl rfl Try.func167 (by kernel_rfl) rfl #[.int .i64 a0] rfl ar ?_; (with_reducible refine (spec_l06Prime.calls k a0 false _ A3.out).mono ?_); rintro e w' ⟨rfl, ⟨nd, rfl⟩⟩; refine ⟨_, rfl, ?_⟩))
  go_ret2
  exact ⟨by first | rfl | (simp [errW_none, errW_some] <;> rfl) | (simp [*, errW_none, errW_some] <;> rfl), tb⟩

/-! ### spec_DrawIrregularOf: function 103 -/
def spec_DrawIrregularOf.f (k : Nat) (l0 : List Int) : Option (Int) := (spec_l01From.f k l0).bind fun bt291 => ((spec_l08Prime.f bt291.1 bt291.2.1 bt291.2.2).bind fun bt295 => ((spec_l08Prime.f bt291.1 bt295.2.1 bt295.2.2).bind fun bt298 => ((spec_l01Pick.f bt291.1 bt298.2.1 bt298.2.2 (([37, 59, bt295.1, bt298.1] : List Int))).bind fun bt304 => (some bt304.1))))
set_option maxHeartbeats 8000000 in
set_option maxRecDepth 100000 in
theorem spec_DrawIrregularOf.calls (k : Nat) (A0 : Option Addr) (c0 : Nat) (l0 : List Int) (r : Int) (w : World) (hr0 : Kd.C (Kd.int .u8) w A0 l0.length l0) (hc0 : l0.length ≤ c0) (h : spec_DrawIrregularOf.f k l0 = some r) :
  Calls Try.prog 103 #[.slice A0 l0.length c0] w fun e w' => e = .returned (.int .i64 r) ∧ Below w.heap.size w w' := by
 have HR0 := Aside0.mk hr0
 have HC0 := Aside0.mk hc0
 clear hr0 hc0
 have HB := Aside0.mk (Below.refl w.heap.size w)
 have H : ((spec_l01From.f k l0).bind fun bt291 => ((spec_l08Prime.f bt291.1 bt291.2.1 bt291.2.2).bind fun bt295 => ((spec_l08Prime.f bt291.1 bt295.2.1 bt295.2.2).bind fun bt298 => ((spec_l01Pick.f bt291.1 bt298.2.1 bt298.2.2 (([37, 59, bt295.1, bt298.1] : List Int))).bind fun bt304 => (some bt304.1))))) = some r := h
 clear h
 replace H := Option.bind_eq_some_iff.mp H
 obtain ⟨⟨t291, t292, t293⟩, A20, H⟩ := H
 replace H : ((spec_l08Prime.f t291 t292 t293).bind fun bt295 => ((spec_l08Prime.f t291 bt295.2.1 bt295.2.2).bind fun bt298 => ((spec_l01Pick.f t291 bt298.2.1 bt298.2.2 (([37, 59, bt295.1, bt298.1] : List Int))).bind fun bt304 => (some bt304.1)))) = some r := H
 have A2 := Aside0.mk A20
 clear A20
 replace H := Option.bind_eq_some_iff.mp H
 obtain ⟨⟨t295, t296, t297⟩, A30, H⟩ := H
 replace H : ((spec_l08Prime.f t291 t296 t297).bind fun bt298 => ((spec_l01Pick.f t291 bt298.2.1 bt298.2.2 (([37, 59, t295, bt298.1] : List Int))).bind fun bt304 => (some bt304.1))) = some r := H
 have A3 := Aside0.mk A30
 clear A30
 replace H := Option.bind_eq_some_iff.mp H
 obtain ⟨⟨t298, t299, t300⟩, A40, H⟩ := H
 replace H : ((spec_l01Pick.f t291 t299 t300 (([37, 59, t295, t298] : List Int))).bind fun bt304 => (some bt304.1)) = some r := H
 have A4 := Aside0.mk A40
 clear A40
 obtain ⟨y301, hy301⟩ : ∃ y_ : List Int, y_ = (([37, 59, t295, t298] : List Int)) := ⟨_, rfl⟩
 replace H : ((spec_l01Pick.f t291 t299 t300 y301).bind fun bt304 => (some bt304.1)) = some r := by first | (rw [hy301]; with_reducible exact H) | (rw [hy301]; with_reducible exact (bs H :)) | with_reducible exact (bs H :) | exact H
 have Ny301 := Aside0.mk hy301
 clear hy301
 replace H := Option.bind_eq_some_iff.mp H
 obtain ⟨⟨t304, t305, t306⟩, A50, H⟩ := H
 replace H : (some t304) = some r := H
 have A5 := Aside0.mk A50
 clear A50
 obtain rfl := Option.some.inj H
 go_enter Try.func103, Try.ntmps103
 go_wp2_with (first | ((with_reducible refine gate_callee (f := 150) rfl ?_); refine goesL_ (some 5) rfl rfl Try.func150 (by kernel_rfl) rfl #[.slice A0 l0.length c0] rfl ar ?_; (with_reducible refine (spec_l01From.calls k _ _ l0 t291 t292 t293 w _ ?side1 ?side2 ?side3 A2.out).mono ?_); (case side1 => exact tb); (case side2 => exact HR0.out); (case side3 => exact HC0.out); rintro e w6 ⟨g294, rfl, hi, hb, hb2⟩; refine ⟨_, rfl, ?_⟩; replace HB := Aside0.mk (hb); have HI294 := Aside0.mk (hi); (try clear hb); (try clear hb2); (try clear hk); (try clear hi)) | ((with_reducible refine gate_callee (f := 210) rfl ?_); refine goesL_ (some 8) rfl rfl Try.func210 (by kernel_rfl) rfl #[.pointer (some ⟨g294, 0, none⟩)] rfl ar ?_; (with_reducible refine (spec_l08Prime.calls g294 t291 t292 t293 t295 t296 t297 w _ ?side1 ?side2 A3.out).mono ?_); (case side1 => repeat (first | (with_reducible first | exact HI294.out | apply IsS215.alloc | apply IsS215.drewN | apply IsS215.drew | apply IsS215.set_1 | apply IsS215.set_2) | exact HI294.out)); (case side2 => repeat (first | (with_reducible first | exact HB.out | apply below_alloc | apply pw_below_drewN | apply below_drew1 | refine below_set ?_ (IsS215.ge HI294.out)) | exact HB.out)); rintro e w7 ⟨rfl, hi, hb, hk⟩; refine ⟨_, rfl, ?_⟩; replace HB := Aside0.mk (hb); replace HI294 := Aside0.mk (hi); (try clear hb); (try clear hb2); (try clear hk); (try clear hi)) | ((with_reducible refine gate_callee (f := 210) rfl ?_); refine goesL_ (some 10) rfl rfl Try.func210 (by kernel_rfl) rfl #[.pointer (some ⟨g294, 0, none⟩)] rfl ar ?_; (with_reducible refine (spec_l08Prime.calls g294 t291 t296 t297 t298 t299 t300 w _ ?side1 ?side2 A4.out).mono ?_); (case side1 => repeat (first | (with_reducible first | exact HI294.out | apply IsS215.alloc | apply IsS215.drewN | apply IsS215.drew | apply IsS215.set_1 | apply IsS215.set_2) | exact HI294.out)); (case side2 => repeat (first | (with_reducible first | exact HB.out | apply below_alloc | apply pw_below_drewN | apply below_drew1 | refine below_set ?_ (IsS215.ge HI294.out)) | exact HB.out)); rintro e w8 ⟨rfl, hi, hb, hk⟩; refine ⟨_, rfl, ?_⟩; replace HB := Aside0.mk (hb); replace HI294 := Aside0.mk (hi); (try clear hb); (try clear hb2); (try clear hk); (try clear hi)) | ((with_reducible refine gate_dst (N := 11) rfl ?_); refine Kd.R_lit (Kd.int .i64) _ 2 ?hg (N := 11) ?hd (xs := ([37, 59, t295, t298] : List Int)) (inner := [.int .i64 37, .int .i64 59, .int .i64 t295, .int .i64 t298]) (ok := fun _ => True) (okp := fun _ => True) ?hr ?hp (fun _ hk => hk) trivial (Below.refl _ _) (Nat.le_refl _) (by simp) ?_; (case hd => rfl); (case hg => rfl); (case hr => first | (go_simp; done) | (go_simp; rfl)); (case hp => exact (Reps.one (show Kd.M (Kd.int .i64) _ _ _ 37 [.int .i64 37] from rfl) (Reps.one (show Kd.M (Kd.int .i64) _ _ _ 59 [.int .i64 59] from rfl) (Reps.one (show Kd.M (Kd.int .i64) _ _ _ t295 [.int .i64 t295] from rfl) (Reps.one (show Kd.M (Kd.int .i64) _ _ _ t298 [.int .i64 t298] from rfl) (Reps.none _ _)))))); intro v302 w9 ho10 hb hg_ hnew_; clear hg_ hnew_; (first | rw [← Ny301.out] at ho10 | (simp only [Int.reduceToNat] at ho10; rw [← Ny301.out] at ho10)); have HO303 := Aside0.mk (Kd.R_lower ho10 (below_size (by repeat (first | (with_reducible first | exact HB.out | apply below_alloc | apply pw_below_drewN | apply below_drew1 | refine below_set ?_ (IsS215.ge HI294.out)) | exact HB.out)))); replace HB := Aside0.mk (below_step (by repeat (first | (with_reducible first | exact HB.out | apply below_alloc | apply pw_below_drewN | apply below_drew1 | refine below_set ?_ (IsS215.ge HI294.out)) | exact HB.out)) hb); replace HI294 := Aside0.mk (IsS215.below (by repeat (first | (with_reducible first | exact HI294.out | apply IsS215.alloc | apply IsS215.drewN | apply IsS215.drew | apply IsS215.set_1 | apply IsS215.set_2) | exact HI294.out)) hb); clear hb ho10; obtain ⟨Ao11, co11, eo11⟩ := Kd.R_slice HO303.out; subst eo11) | ((with_reducible refine gate_callee (f := 161) rfl ?_); refine goesL_ (some 12) rfl rfl Try.func161 (by kernel_rfl) rfl #[.pointer (some ⟨g294, 0, none⟩), .slice Ao11 y301.length co11] rfl ar ?_; (with_reducible refine (spec_l01Pick.calls g294 t291 t299 t300 _ _ y301 t304 t305 t306 w _ ?side1 ?side2 ?side3 ?side4 ?side5 A5.out).mono ?_); (case side1 => repeat (first | (with_reducible first | exact HI294.out | apply IsS215.alloc | apply IsS215.drewN | apply IsS215.drew | apply IsS215.set_1 | apply IsS215.set_2) | exact HI294.out)); (case side2 => repeat (first | (with_reducible first | exact HB.out | apply below_alloc | apply pw_below_drewN | apply below_drew1 | refine below_set ?_ (IsS215.ge HI294.out)) | exact HB.out)); (case side3 => exact kC (Kd.R_reads' HO303.out).2.2); (case side4 => exact (Kd.R_reads' HO303.out).2.1); (case side5 => exact far_slice (IsS215.own_ne HI294.out HO303.out (by decide))); rintro e w12 ⟨rfl, hi, hb, hk⟩; refine ⟨_, rfl, ?_⟩; replace HO303 := Aside0.mk (Kd.R_mono (Kd.R_keep (IsS215.apart (show IsS215 w _ g294 t291 t299 t300 from by repeat (first | (with_reducible first | exact HI294.out | apply IsS215.alloc | apply IsS215.drewN | apply IsS215.drew | apply IsS215.set_1 | apply IsS215.set_2) | exact HI294.out)) (kR HO303.out) (by decide)) hk (fun _ h => h.2)) (fun _ h => h.1)); replace HB := Aside0.mk (hb); replace HI294 := Aside0.mk (hi); (try clear hb); (try clear hb2); (try clear hk); (try clear hi)))
 go_ret
 exact ⟨by first | rfl | (simp [errW_none, errW_some] <;> rfl) | (simp [*, errW_none, errW_some] <;> rfl), by repeat (first | (with_reducible first | exact HB.out | apply below_alloc | apply pw_below_drewN | apply below_drew1 | refine below_set ?_ (IsS215.ge HI294.out)) | exact HB.out)⟩

/-! ### spec_l01DrawOrder: function 194 -/
def spec_l01DrawOrder.f (s0_0 : List Int) (s0_1 : Int) (s0_2 : Int) : Option (Int × Int × Int) := (spec_l01Next.f s0_0 s0_1 s0_2 16).bind fun bt307 => ((spec_l01Pick.f s0_0 bt307.2.1 bt307.2.2 (([1, 2, 3, 3, 4, 4, 5, 5, 6, 7, 8, 9, 10, 12, wrap64 (1 + bt307.1)] : List Int))).bind fun bt313 => (some (bt313.1, bt313.2.1, bt313.2.2)))
set_option maxHeartbeats 8000000 in
set_option maxRecDepth 100000 in
theorem spec_l01DrawOrder.calls (g : Nat) (s0_0 : List Int) (s0_1 : Int) (s0_2 : Int) (r1 : Int) (r2 : Int) (r3 : Int) (w0 w : World) (hI : IsS215 w0 w g s0_0 s0_1 s0_2) (hB : Below w0.heap.size w0 w) (h : spec_l01DrawOrder.f s0_0 s0_1 s0_2 = some (r1, r2, r3)) :
  Calls Try.prog 194 #[.pointer (some ⟨g, 0, none⟩)] w fun e w' => e = .returned (.int .i64 r1) ∧ IsS215 w0 w' g s0_0 r2 r3 ∧ Below w0.heap.size w0 w' ∧ KeepBut w w' g none := by
 have HI0 := Aside0.mk hI
 have HK := Aside0.mk (KeepBut.refl w g none)
 have HL := Aside0.mk hB.size
 clear hI
 have HW0 := Aside0.mk hB.size
 have HB := Aside0.mk hB
 clear hB
 have H : ((spec_l01Next.f s0_0 s0_1 s0_2 16).bind fun bt307 => ((spec_l01Pick.f s0_0 bt307.2.1 bt307.2.2 (([1, 2, 3, 3, 4, 4, 5, 5, 6, 7, 8, 9, 10, 12, wrap64 (1 + bt307.1)] : List Int))).bind fun bt313 => (some (bt313.1, bt313.2.1, bt313.2.2)))) = some (r1, r2, r3) := h
 clear h
 replace H := Option.bind_eq_some_iff.mp H
 obtain ⟨⟨t307, t308, t309⟩, A20, H⟩ := H
 replace H : ((spec_l01Pick.f s0_0 t308 t309 (([1, 2, 3, 3, 4, 4, 5, 5, 6, 7, 8, 9, 10, 12, wrap64 (1 + t307)] : List Int))).bind fun bt313 => (some (bt313.1, bt313.2.1, bt313.2.2))) = some (r1, r2, r3) := H
 have A2 := Aside0.mk A20
 clear A20
 obtain ⟨y310, hy310⟩ : ∃ y_ : List Int, y_ = (([1, 2, 3, 3, 4, 4, 5, 5, 6, 7, 8, 9, 10, 12, wrap64 (1 + t307)] : List Int)) := ⟨_, rfl⟩
 replace H : ((spec_l01Pick.f s0_0 t308 t309 y310).bind fun bt313 => (some (bt313.1, bt313.2.1, bt313.2.2))) = some (r1, r2, r3) := by first | (rw [hy310]; with_reducible exact H) | (rw [hy310]; with_reducible exact (bs H :)) | with_reducible exact (bs H :) | exact H
 have Ny310 := Aside0.mk hy310
 clear hy310
 replace H := Option.bind_eq_some_iff.mp H
 obtain ⟨⟨t313, t314, t315⟩, A30, H⟩ := H
 replace H : (some (t313, t314, t315)) = some (r1, r2, r3) := H
 have A3 := Aside0.mk A30
 clear A30
 simp only [Option.some.injEq, Prod.mk.injEq] at H
 obtain ⟨rfl, rfl, rfl⟩ := H
 go_enter Try.func194, Try.ntmps194
 go_wp2_with (first | ((with_reducible refine gate_callee (f := 158) rfl ?_); refine goesL_ (some 5) rfl rfl Try.func158 (by kernel_rfl) rfl #[.pointer (some ⟨g, 0, none⟩), .int .i64 16] rfl ar ?_; (with_reducible refine (spec_l01Next.calls g s0_0 s0_1 s0_2 16 t307 t308 t309 w0 _ ?side1 ?side2 A2.out).mono ?_); (case side1 => repeat (first | (with_reducible first | exact HI0.out | apply IsS215.alloc | apply IsS215.drewN | apply IsS215.drew | apply IsS215.set_1 | apply IsS215.set_2) | exact HI0.out)); (case side2 => repeat (first | (with_reducible first | exact HB.out | apply below_alloc | apply pw_below_drewN | apply below_drew1 | refine below_set ?_ (IsS215.ge HI0.out)) | exact HB.out)); rintro e w4 ⟨rfl, hi, hb, hk⟩; refine ⟨_, rfl, ?_⟩; replace HK := Aside0.mk (KeepBut.trans (by repeat (first | (with_reducible first | exact HK.out | apply KeepBut.set_ | apply keep_drewN | apply keep_drew | apply keep_alloc) | exact HK.out)) hk (.inl rfl)); replace HB := Aside0.mk (hb); replace HI0 := Aside0.mk (hi); (try clear hb); (try clear hb2); (try clear hk); (try clear hi)) | ((with_reducible refine gate_dst (N := 7) rfl ?_); refine Kd.R_lit (Kd.int .i64) _ 2 ?hg (N := 7) ?hd (xs := ([1, 2, 3, 3, 4, 4, 5, 5, 6, 7, 8, 9, 10, 12, wrap64 (1 + t307)] : List Int)) (inner := [.int .i64 1, .int .i64 2, .int .i64 3, .int .i64 3, .int .i64 4, .int .i64 4, .int .i64 5, .int .i64 5, .int .i64 6, .int .i64 7, .int .i64 8, .int .i64 9, .int .i64 10, .int .i64 12, .int .i64 (wrap64 (1 + t307))]) (ok := fun _ => True) (okp := fun _ => True) ?hr ?hp (fun _ hk => hk) trivial (Below.refl _ _) (Nat.le_refl _) (by simp) ?_; (case hd => rfl); (case hg => rfl); (case hr => first | (go_simp; done) | (go_simp; rfl)); (case hp => exact (Reps.one (show Kd.M (Kd.int .i64) _ _ _ 1 [.int .i64 1] from rfl) (Reps.one (show Kd.M (Kd.int .i64) _ _ _ 2 [.int .i64 2] from rfl) (Reps.one (show Kd.M (Kd.int .i64) _ _ _ 3 [.int .i64 3] from rfl) (Reps.one (show Kd.M (Kd.int .i64) _ _ _ 3 [.int .i64 3] from rfl) (Reps.one (show Kd.M (Kd.int .i64) _ _ _ 4 [.int .i64 4] from rfl) (Reps.one (show Kd.M (Kd.int .i64) _ _ _ 4 [.int .i64 4] from rfl) (Reps.one (show Kd.M (Kd.int .i64) _ _ _ 5 [.int .i64 5] from rfl) (Reps.one (show Kd.M (Kd.int .i64) _ _ _ 5 [.int .i64 5] from rfl) (Reps.one (show Kd.M (Kd.int .i64) _ _ _ 6 [.int .i64 6] from rfl) (Reps.one (show Kd.M (Kd.int .i64) _ _ _ 7 [.int .i64 7] from rfl) (Reps.one (show Kd.M (Kd.int .i64) _ _ _ 8 [.int .i64 8] from rfl) (Reps.one (show Kd.M (Kd.int .i64) _ _ _ 9 [.int .i64 9] from rfl) (Reps.one (show Kd.M (Kd.int .i64) _ _ _ 10 [.int .i64 10] from rfl) (Reps.one (show Kd.M (Kd.int .i64) _ _ _ 12 [.int .i64 12] from rfl) (Reps.one (show Kd.M (Kd.int .i64) _ _ _ (wrap64 (1 + t307)) [.int .i64 (wrap64 (1 + t307))] from rfl) (Reps.none _ _))))))))))))))))); intro v311 w5 ho6 hb hg_ hnew_; clear hg_ hnew_; (first | rw [← Ny310.out] at ho6 | (simp only [Int.reduceToNat] at ho6; rw [← Ny310.out] at ho6)); have HO312 := Aside0.mk (Kd.R_lower ho6 (keep_size (w := w) (g := g) (row := none) (by repeat (first | (with_reducible first | exact HK.out | apply KeepBut.set_ | apply keep_drewN | apply keep_drew | apply keep_alloc) | exact HK.out)))); replace HK := Aside0.mk (KeepBut.trans (by repeat (first | (with_reducible first | exact HK.out | apply KeepBut.set_ | apply keep_drewN | apply keep_drew | apply keep_alloc) | exact HK.out)) (KeepBut.of_below hb g none) (.inl rfl)); replace HB := Aside0.mk (below_step (by repeat (first | (with_reducible first | exact HB.out | apply below_alloc | apply pw_below_drewN | apply below_drew1 | refine below_set ?_ (IsS215.ge HI0.out)) | exact HB.out)) hb); replace HI0 := Aside0.mk (IsS215.below (by repeat (first | (with_reducible first | exact HI0.out | apply IsS215.alloc | apply IsS215.drewN | apply IsS215.drew | apply IsS215.set_1 | apply IsS215.set_2) | exact HI0.out)) hb); clear hb ho6; obtain ⟨Ao7, co7, eo7⟩ := Kd.R_slice HO312.out; subst eo7) | ((with_reducible refine gate_callee (f := 161) rfl ?_); refine goesL_ (some 8) rfl rfl Try.func161 (by kernel_rfl) rfl #[.pointer (some ⟨g, 0, none⟩), .slice Ao7 y310.length co7] rfl ar ?_; (with_reducible refine (spec_l01Pick.calls g s0_0 t308 t309 _ _ y310 t313 t314 t315 w0 _ ?side1 ?side2 ?side3 ?side4 ?side5 A3.out).mono ?_); (case side1 => repeat (first | (with_reducible first | exact HI0.out | apply IsS215.alloc | apply IsS215.drewN | apply IsS215.drew | apply IsS215.set_1 | apply IsS215.set_2) | exact HI0.out)); (case side2 => repeat (first | (with_reducible first | exact HB.out | apply below_alloc | apply pw_below_drewN | apply below_drew1 | refine below_set ?_ (IsS215.ge HI0.out)) | exact HB.out)); (case side3 => exact kC (Kd.R_reads' HO312.out).2.2); (case side4 => exact (Kd.R_reads' HO312.out).2.1); (case side5 => exact far_slice (IsS215.own_ne HI0.out HO312.out (by decide))); rintro e w8 ⟨rfl, hi, hb, hk⟩; refine ⟨_, rfl, ?_⟩; replace HO312 := Aside0.mk (Kd.R_mono (Kd.R_keep (IsS215.apart (show IsS215 w0 _ g s0_0 t308 t309 from by repeat (first | (with_reducible first | exact HI0.out | apply IsS215.alloc | apply IsS215.drewN | apply IsS215.drew | apply IsS215.set_1 | apply IsS215.set_2) | exact HI0.out)) (kR HO312.out) (by decide)) hk (fun _ h => h.2)) (fun _ h => h.1)); replace HK := Aside0.mk (KeepBut.trans (by repeat (first | (with_reducible first | exact HK.out | apply KeepBut.set_ | apply keep_drewN | apply keep_drew | apply keep_alloc) | exact HK.out)) hk (.inl rfl)); replace HB := Aside0.mk (hb); replace HI0 := Aside0.mk (hi); (try clear hb); (try clear hb2); (try clear hk); (try clear hi)))
 go_ret
 exact ⟨by first | rfl | (simp [errW_none, errW_some] <;> rfl) | (simp [*, errW_none, errW_some] <;> rfl), by repeat (first | (with_reducible first | exact HI0.out | apply IsS215.alloc | apply IsS215.drewN | apply IsS215.drew | apply IsS215.set_1 | apply IsS215.set_2) | exact HI0.out), by repeat (first | (with_reducible first | exact HB.out | apply below_alloc | apply pw_below_drewN | apply below_drew1 | refine below_set ?_ (IsS215.ge HI0.out)) | exact HB.out), by repeat (first | (with_reducible first | exact HK.out | apply KeepBut.set_ | apply keep_drewN | apply keep_drew | apply keep_alloc) | exact HK.out)⟩

/-! ### spec_DrawCyclotomicUnit: function 104 -/
def spec_DrawCyclotomicUnit.f (k : Nat) (l0 : List Int) : Option (Int × Int) := (spec_l01From.f k l0).bind fun bt316 => ((spec_l01DrawOrder.f bt316.1 bt316.2.1 bt316.2.2).bind fun bt320 => ((spec_l01Next.f bt316.1 bt320.2.1 bt320.2.2 40).bind fun bt323 => ((spec_l01Next.f bt316.1 bt323.2.1 bt323.2.2 (wrap64 ((wrap64 (bt320.1 + (wrap64 ((wrap64 (Int.tdiv bt323.1 39)) * 20)))) + 2))).bind fun bt326 => (some (wrap64 (bt320.1 + (wrap64 ((wrap64 (Int.tdiv bt323.1 39)) * 20))), bt326.1)))))
set_option maxHeartbeats 8000000 in
set_option maxRecDepth 100000 in
theorem spec_DrawCyclotomicUnit.calls (k : Nat) (A0 : Option Addr) (c0 : Nat) (l0 : List Int) (r1 : Int) (r2 : Int) (w : World) (hr0 : Kd.C (Kd.int .u8) w A0 l0.length l0) (hc0 : l0.length ≤ c0) (h : spec_DrawCyclotomicUnit.f k l0 = some (r1, r2)) :
  Calls Try.prog 104 #[.slice A0 l0.length c0] w fun e w' => e = .returned (.tuple #[.int .i64 r1, .int .i64 r2]) ∧ Below w.heap.size w w' := by
 have HR0 := Aside0.mk hr0
 have HC0 := Aside0.mk hc0
 clear hr0 hc0
 have HB := Aside0.mk (Below.refl w.heap.size w)
 have H : ((spec_l01From.f k l0).bind fun bt316 => ((spec_l01DrawOrder.f bt316.1 bt316.2.1 bt316.2.2).bind fun bt320 => ((spec_l01Next.f bt316.1 bt320.2.1 bt320.2.2 40).bind fun bt323 => ((spec_l01Next.f bt316.1 bt323.2.1 bt323.2.2 (wrap64 ((wrap64 (bt320.1 + (wrap64 ((wrap64 (Int.tdiv bt323.1 39)) * 20)))) + 2))).bind fun bt326 => (some (wrap64 (bt320.1 + (wrap64 ((wrap64 (Int.tdiv bt323.1 39)) * 20))), bt326.1)))))) = some (r1, r2) := h
 clear h
 replace H := Option.bind_eq_some_iff.mp H
 obtain ⟨⟨t316, t317, t318⟩, A20, H⟩ := H
 replace H : ((spec_l01DrawOrder.f t316 t317 t318).bind fun bt320 => ((spec_l01Next.f t316 bt320.2.1 bt320.2.2 40).bind fun bt323 => ((spec_l01Next.f t316 bt323.2.1 bt323.2.2 (wrap64 ((wrap64 (bt320.1 + (wrap64 ((wrap64 (Int.tdiv bt323.1 39)) * 20)))) + 2))).bind fun bt326 => (some (wrap64 (bt320.1 + (wrap64 ((wrap64 (Int.tdiv bt323.1 39)) * 20))), bt326.1))))) = some (r1, r2) := H
 have A2 := Aside0.mk A20
 clear A20
 replace H := Option.bind_eq_some_iff.mp H
 obtain ⟨⟨t320, t321, t322⟩, A30, H⟩ := H
 replace H : ((spec_l01Next.f t316 t321 t322 40).bind fun bt323 => ((spec_l01Next.f t316 bt323.2.1 bt323.2.2 (wrap64 ((wrap64 (t320 + (wrap64 ((wrap64 (Int.tdiv bt323.1 39)) * 20)))) + 2))).bind fun bt326 => (some (wrap64 (t320 + (wrap64 ((wrap64 (Int.tdiv bt323.1 39)) * 20))), bt326.1)))) = some (r1, r2) := H
 have A3 := Aside0.mk A30
 clear A30
 replace H := Option.bind_eq_some_iff.mp H
 obtain ⟨⟨t323, t324, t325⟩, A40, H⟩ := H
 replace H : ((spec_l01Next.f t316 t324 t325 (wrap64 ((wrap64 (t320 + (wrap64 ((wrap64 (Int.tdiv t323 39)) * 20)))) + 2))).bind fun bt326 => (some (wrap64 (t320 + (wrap64 ((wrap64 (Int.tdiv t323 39)) * 20))), bt326.1))) = some (r1, r2) := H
 have A4 := Aside0.mk A40
 clear A40
 replace H := Option.bind_eq_some_iff.mp H
 obtain ⟨⟨t326, t327, t328⟩, A50, H⟩ := H
 replace H : (some (wrap64 (t320 + (wrap64 ((wrap64 (Int.tdiv t323 39)) * 20))), t326)) = some (r1, r2) := H
 have A5 := Aside0.mk A50
 clear A50
 simp only [Option.some.injEq, Prod.mk.injEq] at H
 obtain ⟨rfl, rfl⟩ := H
 go_enter Try.func104, Try.ntmps104
 go_wp2_with (first | ((with_reducible refine gate_callee (f := 150) rfl ?_); refine goesL_ (some 7) rfl rfl Try.func150 (by kernel_rfl) rfl #[.slice A0 l0.length c0] rfl ar ?_; (with_reducible refine (spec_l01From.calls k _ _ l0 t316 t317 t318 w _ ?side1 ?side2 ?side3 A2.out).mono ?_); (case side1 => exact tb); (case side2 => exact HR0.out); (case side3 => exact HC0.out); rintro e w6 ⟨g319, rfl, hi, hb, hb2⟩; refine ⟨_, rfl, ?_⟩; replace HB := Aside0.mk (hb); have HI319 := Aside0.mk (hi); (try clear hb); (try clear hb2); (try clear hk); (try clear hi)) | ((with_reducible refine gate_callee (f := 194) rfl ?_); refine goesL_ (some 9) rfl rfl Try.func194 (by kernel_rfl) rfl #[.pointer (some ⟨g319, 0, none⟩)] rfl ar ?_; (with_reducible refine (spec_l01DrawOrder.calls g319 t316 t317 t318 t320 t321 t322 w _ ?side1 ?side2 A3.out).mono ?_); (case side1 => repeat (first | (with_reducible first | exact HI319.out | apply IsS215.alloc | apply IsS215.drewN | apply IsS215.drew | apply IsS215.set_1 | apply IsS215.set_2) | exact HI319.out)); (case side2 => repeat (first | (with_reducible first | exact HB.out | apply below_alloc | apply pw_below_drewN | apply below_drew1 | refine below_set ?_ (IsS215.ge HI319.out)) | exact HB.out)); rintro e w7 ⟨rfl, hi, hb, hk⟩; refine ⟨_, rfl, ?_⟩; replace HB := Aside0.mk (hb); replace HI319 := Aside0.mk (hi); (try clear hb); (try clear hb2); (try clear hk); (try clear hi)) | ((with_reducible refine gate_callee (f := 158) rfl ?_); refine goesL_ (some 11) rfl rfl Try.func158 (by kernel_rfl) rfl #[.pointer (some ⟨g319, 0, none⟩), .int .i64 40] rfl ar ?_; (with_reducible refine (spec_l01Next.calls g319 t316 t321 t322 40 t323 t324 t325 w _ ?side1 ?side2 A4.out).mono ?_); (case side1 => repeat (first | (with_reducible first | exact HI319.out | apply IsS215.alloc | apply IsS215.drewN | apply IsS215.drew | apply IsS215.set_1 | apply IsS215.set_2) | exact HI319.out)); (case side2 => repeat (first | (with_reducible first | exact HB.out | apply below_alloc | apply pw_below_drewN | apply below_drew1 | refine below_set ?_ (IsS215.ge HI319.out)) | exact HB.out)); rintro e w8 ⟨rfl, hi, hb, hk⟩; refine ⟨_, rfl, ?_⟩; replace HB := Aside0.mk (hb); replace HI319 := Aside0.mk (hi); (try clear hb); (try clear hb2); (try clear hk); (try clear hi)) | ((with_reducible refine gate_callee (f := 158) rfl ?_); refine goesL_ (some 19) rfl rfl Try.func158 (by kernel_rfl) rfl #[.pointer (some ⟨g319, 0, none⟩), .int .i64 (wrap64 ((wrap64 (t320 + (wrap64 ((wrap64 (Int.tdiv t323 39)) * 20)))) + 2))] rfl ar ?_; (with_reducible refine (spec_l01Next.calls g319 t316 t324 t325 (wrap64 ((wrap64 (t320 + (wrap64 ((wrap64 (Int.tdiv t323 39)) * 20)))) + 2)) t326 t327 t328 w _ ?side1 ?side2 A5.out).mono ?_); (case side1 => repeat (first | (with_reducible first | exact HI319.out | apply IsS215.alloc | apply IsS215.drewN | apply IsS215.drew | apply IsS215.set_1 | apply IsS215.set_2) | exact HI319.out)); (case side2 => repeat (first | (with_reducible first | exact HB.out | apply below_alloc | apply pw_below_drewN | apply below_drew1 | refine below_set ?_ (IsS215.ge HI319.out)) | exact HB.out)); rintro e w9 ⟨rfl, hi, hb, hk⟩; refine ⟨_, rfl, ?_⟩; replace HB := Aside0.mk (hb); replace HI319 := Aside0.mk (hi); (try clear hb); (try clear hb2); (try clear hk); (try clear hi)))
 go_ret2
 exact ⟨by first | rfl | (simp [errW_none, errW_some] <;> rfl) | (simp [*, errW_none, errW_some] <;> rfl), by repeat (first | (with_reducible first | exact HB.out | apply below_alloc | apply pw_below_drewN | apply below_drew1 | refine below_set ?_ (IsS215.ge HI319.out)) | exact HB.out)⟩

/-! ### slices_Clone_int64_int64: function 183 -/
def slices_Clone_int64_int64.f (l0 : List Int) : Option (List Int) := if l0.length < 17592186044416 then some l0 else none

set_option maxHeartbeats 8000000 in
set_option maxRecDepth 100000 in
theorem slices_Clone_int64_int64.calls (A0 : Option Addr) (c0 : Nat) (l0 : List Int) (r : List Int) (w : World) (hr0 : Kd.C (Kd.int .i64) w A0 l0.length l0) (hc0 : l0.length ≤ c0) (h : slices_Clone_int64_int64.f l0 = some r) :
  Calls Try.prog 183 #[.slice A0 l0.length c0] w fun e w' => ∃ v0_ : Value, e = .returned (v0_) ∧ Kd.R (Kd.int .i64) 2 w' w.heap.size (fun _ => True) v0_ r ∧ Below w.heap.size w w' := by
 unfold slices_Clone_int64_int64.f at h
 by_cases c2 : l0.length < 17592186044416
 ·rw [if_pos c2] at h
  obtain rfl := Option.some.inj h
  clear h
  have q22 : ∀ (w : World) (a : Option Addr) (n c n' c' : Nat), (binOp .eql 27 (.slice a n c) (.slice none n' c')).run Try.prog w = .ok (.bool a.isNone) w := fun w a n c n' c' => Lib.run_eql_slice_nil w _ _ a n c n' c' Try.underlying27
  cases A0 with
  | none =>
   have hl : l0 = [] := by
    rcases Nat.eq_zero_or_pos l0.length with h0 | h0
    ·exact List.length_eq_zero_iff.mp h0
    ·obtain ⟨ad, he, _⟩ := hr0.2.2 h0
     cases he
   subst hl
   clear hr0 hc0 c2
   go_enter Try.func183, Try.ntmps183
   go_wp2
   go_ret
   exact ⟨_, rfl, Kd.R_nil _ _ _ _ _, Below.refl _ _⟩
  | some ad =>
   have HR0 := Aside0.mk hr0
   clear hr0 hc0
   have HB := Aside0.mk (Below.refl w.heap.size w)
   have LMc2 := Aside0.mk c2
   clear c2
   obtain ⟨y216, hy216⟩ : ∃ y_ : List Int, y_ = (([] : List Int)) := ⟨_, rfl⟩
   have Ny216 := Aside0.mk hy216
   have hy219 : l0 = y216 ++ l0 := by rw [hy216]; rfl
   have Ny219 := Aside0.mk hy219
   clear hy219 hy216
   go_enter Try.func183, Try.ntmps183
   go_wp2_with (first | ((with_reducible refine gate_dst (N := 5) rfl ?_); refine Kd.R_lit (Kd.int .i64) _ 2 ?hg (N := 5) ?hd (xs := ([] : List Int)) (inner := []) (ok := fun _ => True) (okp := fun _ => True) ?hr ?hp (fun _ hk => hk) trivial (Below.refl _ _) (Nat.le_refl _) (by simp) ?_; (case hd => rfl); (case hg => rfl); (case hr => first | (go_simp; done) | (go_simp; rfl)); (case hp => exact (Reps.none _ _)); intro v217 w3 ho4 hb hg_ hnew_; clear hg_ hnew_; (first | rw [← Ny216.out] at ho4 | (simp only [Int.reduceToNat] at ho4; rw [← Ny216.out] at ho4)); have HO218 := Aside0.mk (Kd.R_lower ho4 (below_size tb)); replace HB := Aside0.mk (below_step tb hb); clear hb ho4) | ((with_reducible refine gate_builtin (b := .append) (xs := #[.tmp 5, .tmp 6]) rfl ?_); at_builtin; refine Kd.R_append_rows (Kd.int .i64) (w0 := w) w.heap.size rfl (.tmp 5) (.tmp 6) 27 2 (.int .i64 0) 8 rfl Try.underlying27 info2 rfl (by decide) (by omega) v217 y216 l0 _ _ _ (fun _ => True) (fun _ => False) rfl rfl ?aO ?aR (fun _ _ h => h) (fun _ h => h.elim) ?aF ?aB ?aS ?aL ?_; (case aR => repeat (first | exact (Kd.C_below HR0.out HB.out) | (with_reducible refine Kd.C_alloc ?_ _) | (with_reducible refine Kd.C_drewN ?_ _) | (with_reducible refine Kd.C_drew ?_))); (case aB => exact tb); (case aF => exact (fun _ _ => trivial)); (case aO => exact (kR HO218.out)); (case aS => exact (below_size tb)); (case aL => have := LMc2.out; have := Ny216.out; subst this; simp; omega); intro v220 w5 ho hb hg hat; rw [← Ny219.out] at ho; have n0_ := Aside0.mk (hb); have n1_ := Aside0.mk (ho); clear HB; clear HO218; have HB := n0_; have HO221 := n1_; clear n0_ n1_; clear ho hb hg hat))
   go_ret
   exact ⟨_, rfl, kR HO221.out, tb⟩
 ·rw [if_neg c2] at h
  exact absurd h (by simp)

end Go.Proofs.Ytgcggngleiggiaa.Pr
