-- Printed by a program of this session, hand-proved contracts among it.
import Derived.Test.YtgcggngleiggiaaPr0
import Derived.Test.YtgcggngleiggiaaPr2
import Derived.Test.YtgcggngleiggiaaPr4
import Derived.Test.YtgcggngleiggiaaPr5
namespace Go.Proofs.Ytgcggngleiggiaa.Pr
open Go.RowKit Go.Proofs.YtgcggngleiggiaaW.PrintWords Go.Proofs.YtgcggngleiggiaaW.PrintLast Go.Proofs.YtgcggngleiggiaaW.PrintMore Go.Proofs.Ytgcggngleiggiaa.Sq
attribute [local go_sem] max2_int min2_int max_two min_two max_three min_three max_four min_four   -- for this text's walks alone
set_option linter.unusedVariables false
set_option linter.unusedSimpArgs false

/-! ### impl_BernoulliOf: function 98 -/
mutual
def impl_BernoulliOf.l0 : Nat → Int → List (S191) → Int → Option (Int × Int × Int)
 | 0, _, _, _ => none
 | k + 1, x0, x5, x6 => if x6 ≤ x0 then ((impl_row.f k (wrap64 (x6 + 1))).bind fun t198 => (impl_BernoulliOf.l1 k x0 x5 x6 t198 x5 (x5.length : Int) 0 0 1)) else (if 0 ≤ x0 then (if x0 < (x5.length : Int) then (some ((rd_T191 x5 x0).f0, (rd_T191 x5 x0).f1, 0)) else (none)) else (none))
def impl_BernoulliOf.l1 : Nat → Int → List (S191) → Int → List Int → List (S191) → Int → Int → Int → Int → Option (Int × Int × Int)
 | 0, _, _, _, _, _, _, _, _, _ => none
 | k + 1, x0, x5, x6, x7, x25, x26, x27, x202000, x202001 => if x27 < x26 then (if 0 ≤ x27 then (if x27 < (x25.length : Int) then (if x27 < (x7.length : Int) then ((impl_fractionOf.f k (wrap64 ((rd x7 x27) * ((rd_T191 x25 x27).f0))) ((rd_T191 x25 x27).f1)).bind fun bt205 => ((impl_fraction_and.f k x202000 x202001 bt205.1 bt205.2).bind fun bt207 => (impl_BernoulliOf.l1 k x0 x5 x6 x7 x25 x26 (wrap64 (x27 + 1)) bt207.1 bt207.2))) else (none)) else (none)) else (none)) else ((impl_fractionOf.f k (wrap64 (-x202000)) (wrap64 (x202001 * (wrap64 (x6 + 1))))).bind fun bt209 => (if x5.length < 8796093022208 then (impl_BernoulliOf.l0 k x0 (x5 ++ [(⟨bt209.1, bt209.2⟩ : S191)]) (wrap64 (x6 + 1))) else (none)))
end
def impl_BernoulliOf.f (k : Nat) (a0 : Int) : Option (Int × Int × Int) := (impl_within.f a0 0 20).bind fun t192 => (if t192 = true then (impl_BernoulliOf.l0 k a0 (([(⟨1, 1⟩ : S191)] : List (S191))) 1) else (some (0, 0, 2)))
def impl_BernoulliOf.T11 : Bool × List (List Nat × List Nat) := (true, [([], []), ([], []), ([], []), ([1, 2], [1, 2]), ([3], [3]), ([], []), ([5], [5]), ([4, 6], [4, 6]), ([], []), ([8], [8]), ([7, 9], [7, 9]), ([0, 10, 10], [0, 10]), ([11, 11, 0, 1, 2, 3, 4, 5, 6, 7, 8, 9, 10, 11], [11])])
def impl_BernoulliOf.B11 : List Nat := [0, 0, 0, 6, 14, 0, 32, 126, 0, 256, 1022, 2047, 4095]
theorem impl_BernoulliOf.tab11 : rtab .any (opsOf Try.f98 11) = impl_BernoulliOf.T11 := by kernel_rfl
theorem impl_BernoulliOf.bits11 : waitsOk impl_BernoulliOf.T11.2 impl_BernoulliOf.B11 = true := by kernel_rfl
def impl_BernoulliOf.T14 : Bool × List (List Nat × List Nat) := (true, [([], []), ([], []), ([0, 1], [0, 1]), ([2], [2]), ([3], [3]), ([], []), ([], []), ([5, 6], [5, 6]), ([7], [7]), ([8], [8]), ([4, 0, 1, 2, 3, 4], [4]), ([9, 10, 0, 1, 2, 3, 4, 5, 6, 7, 8, 9, 10], [9]), ([11, 0, 1, 2, 3, 4, 5, 6, 7, 8, 9, 10, 11], [])])
def impl_BernoulliOf.B14 : List Nat := [0, 0, 3, 7, 15, 0, 0, 96, 224, 480, 31, 2047, 4095]
theorem impl_BernoulliOf.tab14 : rtab .any (opsOf Try.f98 14) = impl_BernoulliOf.T14 := by kernel_rfl
theorem impl_BernoulliOf.bits14 : waitsOk impl_BernoulliOf.T14.2 impl_BernoulliOf.B14 = true := by kernel_rfl
set_option maxHeartbeats 8000000 in
set_option maxRecDepth 100000 in
theorem impl_BernoulliOf.calls (k : Nat) (a0 : Int) (r1 : Int) (r2 : Int) (r3 : Int) (w : World) (h : impl_BernoulliOf.f k a0 = some (r1, r2, r3)) :
  Calls Try.prog 98 #[.int .i64 a0] w fun e w' => e = .returned (.tuple #[.int .i64 r1, .int .i64 r2, .int .i64 r3]) ∧ Below w.heap.size w w' := by
 have hu191 := Try.underlying191
 have HB := Aside0.mk (Below.refl w.heap.size w)
 have H : ((impl_within.f a0 0 20).bind fun t192 => (if t192 = true then (impl_BernoulliOf.l0 k a0 (([(⟨1, 1⟩ : S191)] : List (S191))) 1) else (some (0, 0, 2)))) = some (r1, r2, r3) := h
 clear h
 replace H := Option.bind_eq_some_iff.mp H
 obtain ⟨t192, A20, H⟩ := H
 replace H : (if t192 = true then (impl_BernoulliOf.l0 k a0 (([(⟨1, 1⟩ : S191)] : List (S191))) 1) else (some (0, 0, 2))) = some (r1, r2, r3) := H
 have A2 := Aside0.mk A20
 clear A20
 by_cases c3 : t192 = true
 ·subst c3
  have H1 : (impl_BernoulliOf.l0 k a0 (([(⟨1, 1⟩ : S191)] : List (S191))) 1) = some (r1, r2, r3) := by rw [if_pos rfl] at H; exact H
  clear H
  have H := H1
  clear H1
  obtain ⟨y193, hy193⟩ : ∃ y_ : List (S191), y_ = (([(⟨1, 1⟩ : S191)] : List (S191))) := ⟨_, rfl⟩
  replace H : (impl_BernoulliOf.l0 k a0 y193 1) = some (r1, r2, r3) := by first | (rw [hy193]; with_reducible exact H) | (rw [hy193]; with_reducible exact (bs H :)) | with_reducible exact (bs H :) | exact H
  have Ny193 := Aside0.mk hy193
  clear hy193
  have H' := Aside0.mk H
  clear H
  go_enter Try.func98, Try.ntmps98
  go_wp2_with (first | ((with_reducible refine gate_callee (f := 159) rfl ?_); refine goesL_ (some 12) rfl rfl Try.func159 (by kernel_rfl) rfl #[.int .i64 a0, .int .i64 0, .int .i64 20] rfl ar ?_; (with_reducible refine (impl_within.calls a0 0 20 true _ A2.out).mono ?_); rintro e w' ⟨rfl, ⟨nd, rfl⟩⟩; refine ⟨_, rfl, ?_⟩) | ((with_reducible refine gate_dst (N := 15) rfl ?_); refine Kd.R_lit k191 _ 191 ?hg (N := 15) ?hd (xs := ([(⟨1, 1⟩ : S191)] : List (S191))) (inner := [.int .i64 1, .int .i64 1]) (ok := fun _ => True) (okp := fun _ => True) ?hr ?hp (fun _ hk => hk) trivial (Below.refl _ _) (Nat.le_refl _) (by simp) ?_; (case hd => rfl); (case hg => rfl); (case hr => first | (go_simp; done) | (go_simp; rfl)); (case hp => exact (Reps.c2 (show Kd.M k191 _ _ _ (⟨1, 1⟩ : S191) [.int .i64 1, .int .i64 1] from (k191_mkM _ _ _ (⟨1, 1⟩ : S191) )) (Reps.none _ _))); intro v194 w4 ho5 hb hg_ hnew_; clear hg_ hnew_; (first | rw [← Ny193.out] at ho5 | (simp only [Int.reduceToNat] at ho5; rw [← Ny193.out] at ho5)); have HO195 := Aside0.mk (Kd.R_lower ho5 (below_size tb)); replace HB := Aside0.mk (below_step tb hb); clear hb ho5))
  go_loopg [5, 6] k (fun kq v5 v6 w' => ∃ (x5_1 : List (S191)) (x6_1 : Int), v6 = .int .i64 x6_1 ∧ Aside0 (impl_BernoulliOf.l0 kq a0 x5_1 x6_1 = some (r1, r2, r3)) ∧ Aside0 (kq ≤ k) ∧ Aside0 (Kd.R k191 191 w' w.heap.size (fun _ => True) v5 x5_1) ∧ Aside0 (Below w.heap.size w w'))
  case atStart => exact ⟨(y193), (1), (by first | rfl | (simp; done) | (simp [*]; done)), H', ⟨Nat.le_refl _⟩, ⟨kR HO195.out⟩, ⟨tb⟩⟩
  case round =>
   clear H'
   try clear c1
   try clear c2
   try clear p2
   try clear c3
   obtain ⟨x5_1, x6_1, rfl, HA, HK1, HO_5, HB⟩ := hrel
   cases gk with
   | zero => exact absurd HA.out (by simp [impl_BernoulliOf.l0])
   | succ k1 =>
    have H := HA.out
    clear HA
    simp only [impl_BernoulliOf.l0] at H
    by_cases c6 : x6_1 ≤ a0
    ·rw [if_pos c6] at H
     have c6b0 : decide (x6_1 ≤ a0) = true := decide_eq_true c6
     clear c6
     replace H := Option.bind_eq_some_iff.mp H
     obtain ⟨t198, A70, H⟩ := H
     replace H : (impl_BernoulliOf.l1 k1 a0 x5_1 x6_1 t198 x5_1 (x5_1.length : Int) 0 0 1) = some (r1, r2, r3) := H
     have A7 := Aside0.mk A70
     clear A70
     have H' := Aside0.mk H
     clear H
     go_wp2_with (first | ((with_reducible refine gate_callee (f := 206) rfl ?_); refine goesL_ (some 23) rfl rfl Try.func206 (by kernel_rfl) rfl #[.int .i64 (wrap64 (x6_1 + 1))] rfl ar ?_; (with_reducible refine (impl_row.calls k1 (wrap64 (x6_1 + 1)) t198 _ A7.out).mono ?_); rintro e w8 ⟨v199, rfl, ho0, hb⟩; refine ⟨_, rfl, ?_⟩; replace HO_5 := Aside0.mk (Kd.R_below (kR HO_5.out) hb); have HO200 := Aside0.mk (Kd.R_lower ho0 (below_size tb)); replace HB := Aside0.mk (below_step tb hb); (try clear hb); (try clear hb2); (try clear hk); (try clear hi); (try clear ho0)) | ((with_reducible refine gate_dst (N := 8) rfl ?_); refine box_event ?hg (N := 8) ?hd (cs := #[.int .i64 0, .int .i64 0]) (t := 191) ?hr ?_; (case hd => rfl); (case hg => rfl); (case hr => first | (go_simp; done) | (go_simp; rfl)); intro gb201 hg w9 hbox hb; replace HO_5 := Aside0.mk (Kd.R_below (Kd.R_elderB (kR HO_5.out) gb201 (Nat.le_of_eq hg.symm)) hb); replace HO200 := Aside0.mk (Kd.R_below (kR HO200.out) hb); have BK201 := Aside0.mk (hbox); have GW201 := Aside0.mk ((by rw [hg]; exact (below_size tb) : w.heap.size ≤ gb201)); have GE201 := Aside0.mk ((by rw [hg]; exact (below_size tb) : w.heap.size ≤ gb201)); replace HB := Aside0.mk (below_step tb hb); clear hb hbox hg; have hcz10_0 : w9.cell? ⟨gb201, 0, none⟩ = some (.int .i64 0) := (blk_cell BK201.out 0).trans rfl; have hcz10_1 : w9.cell? ⟨gb201, 1, none⟩ = some (.int .i64 0) := (blk_cell BK201.out 1).trans rfl; have hfz10_0 := blk_frozen BK201.out 0; have hfz10_1 := blk_frozen BK201.out 1; obtain ⟨Ao11, co11, eo11⟩ := Kd.R_slice HO_5.out; subst eo11))
     go_loopg [27] k1 (fun kq v27 w' => ∃ (x27_2 : Int) (x202000_2 : Int) (x202001_2 : Int), v27 = .int .i64 x27_2 ∧ Aside0 (impl_BernoulliOf.l1 kq a0 x5_1 x6_1 t198 x5_1 (x5_1.length : Int) x27_2 x202000_2 x202001_2 = some (r1, r2, r3)) ∧ Aside0 (kq ≤ k1) ∧ Aside0 (Kd.R k191 191 w' w.heap.size (fun k_ => k_ ≠ gb201) (.slice Ao11 x5_1.length co11) x5_1) ∧ Aside0 (Kd.R (Kd.int .i64) 2 w' w.heap.size (fun _ => True) v199 t198) ∧ Aside0 (Kd.R k191 191 w' w.heap.size (fun k_ => k_ ≠ gb201) (.slice Ao11 x5_1.length co11) x5_1) ∧ Aside0 (w'.heap[gb201]? = some (.cells #[.int .i64 x202000_2, .int .i64 x202001_2] 191 (0, 0))) ∧ Aside0 (Below w.heap.size w w'))
     case atStart => exact ⟨(0), (0), (1), (by first | rfl | (simp; done) | (simp [*]; done)), H', ⟨Nat.le_refl _⟩, ⟨by (with_reducible repeat (first | apply Kd.R_alloc | apply Kd.R_drewN | apply Kd.R_drew)); exact Kd.R_mono (Kd.R_far (p := ⟨gb201, 1, none⟩) (Kd.R_far (p := ⟨gb201, 0, none⟩) (Kd.R_mono HO_5.out (fun k_ hk => (⟨hk, hk.2⟩ : _ ∧ k_ ≠ gb201))) (fun _ hk => hk.2) (.int .i64 0)) (fun _ hk => hk.2) (.int .i64 1)) (fun _ hk => hk.1.2)⟩, ⟨by (with_reducible repeat (first | apply Kd.R_alloc | apply Kd.R_drewN | apply Kd.R_drew)); exact Kd.R_mono (Kd.R_far (p := ⟨gb201, 1, none⟩) (Kd.R_far (p := ⟨gb201, 0, none⟩) (Kd.R_types HO200.out BK201.out (by decide)) (fun _ hk => hk.2) (.int .i64 0)) (fun _ hk => hk.2) (.int .i64 1)) (fun _ hk => trivial)⟩, ⟨by (with_reducible repeat (first | apply Kd.R_alloc | apply Kd.R_drewN | apply Kd.R_drew)); exact Kd.R_mono (Kd.R_far (p := ⟨gb201, 1, none⟩) (Kd.R_far (p := ⟨gb201, 0, none⟩) (Kd.R_mono HO_5.out (fun k_ hk => (⟨hk, hk.2⟩ : _ ∧ k_ ≠ gb201))) (fun _ hk => hk.2) (.int .i64 0)) (fun _ hk => hk.2) (.int .i64 1)) (fun _ hk => hk.1.2)⟩, ⟨by (with_reducible repeat (first | refine blk_drewN ?_ _ | refine blk_drew ?_ | refine blk_alloc ?_ _)); refine blk_put (cs := #[.int .i64 0, .int .i64 0]) ?_ 1 _ rfl; (with_reducible repeat (first | refine blk_drewN ?_ _ | refine blk_drew ?_ | refine blk_alloc ?_ _)); refine blk_put (cs := #[.int .i64 0, .int .i64 0]) ?_ 0 _ rfl; (with_reducible repeat (first | refine blk_drewN ?_ _ | refine blk_drew ?_ | refine blk_alloc ?_ _)); exact BK201.out⟩, ⟨tb⟩⟩
     case round =>
      clear H'
      try clear c1
      try clear c2
      try clear p2
      try clear c3
      try clear c6
      try clear c6b0
      try clear p6
      try clear c9
      try clear hcz10_0
      try clear hcz10_1
      try clear hfz10_0
      try clear hfz10_1
      try clear p2
      obtain ⟨x27_2, x202000_2, x202001_2, rfl, HA, HK2, HO_5, HO_7, HO_25, BK201, HB⟩ := hrel
      cases gk with
      | zero => exact absurd HA.out (by simp [impl_BernoulliOf.l1])
      | succ k2 =>
       have H := HA.out
       clear HA
       simp only [impl_BernoulliOf.l1] at H
       by_cases c12 : x27_2 < (x5_1.length : Int)
       ·rw [if_pos c12] at H
        have c12b0 : decide (x27_2 < (x5_1.length : Int)) = true := decide_eq_true c12
        clear c12
        by_cases c13 : 0 ≤ x27_2
        ·rw [if_pos c13] at H
         have c13b0 : decide (0 ≤ x27_2) = true := decide_eq_true c13
         clear c13
         by_cases c14 : x27_2 < (x5_1.length : Int)
         ·rw [if_pos c14] at H
          have c14b0 : decide (x27_2 < (x5_1.length : Int)) = true := decide_eq_true c14
          clear c14
          by_cases c15 : x27_2 < (t198.length : Int)
          ·rw [if_pos c15] at H
           have c15b0 : decide (x27_2 < (t198.length : Int)) = true := decide_eq_true c15
           clear c15
           replace H := Option.bind_eq_some_iff.mp H
           obtain ⟨⟨t205, t206⟩, A160, H⟩ := H
           replace H : ((impl_fraction_and.f k2 x202000_2 x202001_2 t205 t206).bind fun bt207 => (impl_BernoulliOf.l1 k2 a0 x5_1 x6_1 t198 x5_1 (x5_1.length : Int) (wrap64 (x27_2 + 1)) bt207.1 bt207.2)) = some (r1, r2, r3) := H
           have A16 := Aside0.mk A160
           clear A160
           replace H := Option.bind_eq_some_iff.mp H
           obtain ⟨⟨t207, t208⟩, A170, H⟩ := H
           replace H : (impl_BernoulliOf.l1 k2 a0 x5_1 x6_1 t198 x5_1 (x5_1.length : Int) (wrap64 (x27_2 + 1)) t207 t208) = some (r1, r2, r3) := H
           have A17 := Aside0.mk A170
           clear A170
           have H' := Aside0.mk H
           clear H
           have p202 : 0 ≤ (x27_2 : Int) := od
           have q202 : x27_2 < (x5_1.length : Int) := od
           obtain ⟨ad202, e202, hx202_0, hx202_1⟩ := at_T191 (Kd.R_reads' HO_25.out).2.2 x27_2 p202 q202
           cases e202
           replace p202 := eq_true p202
           replace q202 := eq_true q202
           try go_wp2_with (first | ((with_reducible refine gate_dst (N := 10) rfl ?_); refine box_event ?hg (N := 10) ?hd (cs := #[.int .i64 0, .int .i64 0]) (t := 191) ?hr ?_; (case hd => rfl); (case hg => rfl); (case hr => first | (go_simp; done) | (go_simp; rfl)); intro gb203 hg w18 hbox hb; replace HO_5 := Aside0.mk (Kd.R_below (Kd.R_elderB (kR HO_5.out) gb203 (Nat.le_of_eq hg.symm)) hb); replace HO_7 := Aside0.mk (Kd.R_below (kR HO_7.out) hb); replace HO_25 := Aside0.mk (Kd.R_below (Kd.R_elderB (kR HO_25.out) gb203 (Nat.le_of_eq hg.symm)) hb); have BK203 := Aside0.mk (hbox); have GW203 := Aside0.mk ((by rw [hg]; exact (below_size tb) : w.heap.size ≤ gb203)); have GE203 := Aside0.mk ((by rw [hg]; exact (below_size tb) : w.heap.size ≤ gb203)); replace HB := Aside0.mk (below_step tb hb); have NB201_203 := Aside0.mk ((by rw [hg]; exact Nat.ne_of_lt (blk_lt (kb BK201.out)) : gb201 ≠ gb203)); have NB203_201 := Aside0.mk ((by rw [hg]; exact Nat.ne_of_gt (blk_lt (kb BK201.out)) : gb203 ≠ gb201)); replace BK201 := Aside0.mk (blk_below (kb BK201.out) hb); clear hb hbox hg; have hnb19 := NB203_201.out; have hnc19 := NB201_203.out; have hcz20_0 : w18.cell? ⟨gb203, 0, none⟩ = some (.int .i64 0) := (blk_cell BK203.out 0).trans rfl; have hcz20_1 : w18.cell? ⟨gb203, 1, none⟩ = some (.int .i64 0) := (blk_cell BK203.out 1).trans rfl; have hfz20_0 := blk_frozen BK203.out 0; have hfz20_1 := blk_frozen BK203.out 1))
           have n0_ : Aside0 (Kd.R k191 191 ((w18.setCell ⟨gb203, 0, none⟩ (.int .i64 ((rd_T191 x5_1 x27_2).f0))).setCell ⟨gb203, 1, none⟩ (.int .i64 ((rd_T191 x5_1 x27_2).f1))) w.heap.size (fun k_ => k_ ≠ gb201 ∧ k_ ≠ gb203) (.slice (some ad202) x5_1.length co11) x5_1) := ⟨by (with_reducible repeat (first | apply Kd.R_alloc | apply Kd.R_drewN | apply Kd.R_drew)); exact Kd.R_mono (Kd.R_far (p := ⟨gb203, 1, none⟩) (Kd.R_far (p := ⟨gb203, 0, none⟩) (Kd.R_mono HO_5.out (fun k_ hk => (⟨hk, hk.2⟩ : _ ∧ k_ ≠ gb203))) (fun _ hk => hk.2) (.int .i64 ((rd_T191 x5_1 x27_2).f0))) (fun _ hk => hk.2) (.int .i64 ((rd_T191 x5_1 x27_2).f1))) (fun _ hk => ⟨hk.1.1, hk.1.2⟩)⟩
           have n1_ : Aside0 (Kd.R (Kd.int .i64) 2 ((w18.setCell ⟨gb203, 0, none⟩ (.int .i64 ((rd_T191 x5_1 x27_2).f0))).setCell ⟨gb203, 1, none⟩ (.int .i64 ((rd_T191 x5_1 x27_2).f1))) w.heap.size (fun _ => True) v199 t198) := ⟨by (with_reducible repeat (first | apply Kd.R_alloc | apply Kd.R_drewN | apply Kd.R_drew)); exact Kd.R_mono (Kd.R_far (p := ⟨gb203, 1, none⟩) (Kd.R_far (p := ⟨gb203, 0, none⟩) (Kd.R_types HO_7.out BK203.out (by decide)) (fun _ hk => hk.2) (.int .i64 ((rd_T191 x5_1 x27_2).f0))) (fun _ hk => hk.2) (.int .i64 ((rd_T191 x5_1 x27_2).f1))) (fun _ hk => trivial)⟩
           have n2_ : Aside0 (Kd.R k191 191 ((w18.setCell ⟨gb203, 0, none⟩ (.int .i64 ((rd_T191 x5_1 x27_2).f0))).setCell ⟨gb203, 1, none⟩ (.int .i64 ((rd_T191 x5_1 x27_2).f1))) w.heap.size (fun k_ => k_ ≠ gb201 ∧ k_ ≠ gb203) (.slice (some ad202) x5_1.length co11) x5_1) := ⟨by (with_reducible repeat (first | apply Kd.R_alloc | apply Kd.R_drewN | apply Kd.R_drew)); exact Kd.R_mono (Kd.R_far (p := ⟨gb203, 1, none⟩) (Kd.R_far (p := ⟨gb203, 0, none⟩) (Kd.R_mono HO_25.out (fun k_ hk => (⟨hk, hk.2⟩ : _ ∧ k_ ≠ gb203))) (fun _ hk => hk.2) (.int .i64 ((rd_T191 x5_1 x27_2).f0))) (fun _ hk => hk.2) (.int .i64 ((rd_T191 x5_1 x27_2).f1))) (fun _ hk => ⟨hk.1.1, hk.1.2⟩)⟩
           have n3_ : Aside0 (((w18.setCell ⟨gb203, 0, none⟩ (.int .i64 ((rd_T191 x5_1 x27_2).f0))).setCell ⟨gb203, 1, none⟩ (.int .i64 ((rd_T191 x5_1 x27_2).f1))).heap[gb201]? = some (.cells #[.int .i64 x202000_2, .int .i64 x202001_2] 191 (0, 0))) := ⟨by (with_reducible repeat (first | refine blk_drewN ?_ _ | refine blk_drew ?_ | refine blk_alloc ?_ _)); refine blk_far ?_ NB201_203.out _; (with_reducible repeat (first | refine blk_drewN ?_ _ | refine blk_drew ?_ | refine blk_alloc ?_ _)); refine blk_far ?_ NB201_203.out _; (with_reducible repeat (first | refine blk_drewN ?_ _ | refine blk_drew ?_ | refine blk_alloc ?_ _)); exact BK201.out⟩
           have n4_ : Aside0 (((w18.setCell ⟨gb203, 0, none⟩ (.int .i64 ((rd_T191 x5_1 x27_2).f0))).setCell ⟨gb203, 1, none⟩ (.int .i64 ((rd_T191 x5_1 x27_2).f1))).heap[gb203]? = some (.cells #[.int .i64 ((rd_T191 x5_1 x27_2).f0), .int .i64 ((rd_T191 x5_1 x27_2).f1)] 191 (0, 0))) := ⟨by (with_reducible repeat (first | refine blk_drewN ?_ _ | refine blk_drew ?_ | refine blk_alloc ?_ _)); refine blk_put (cs := #[.int .i64 ((rd_T191 x5_1 x27_2).f0), .int .i64 0]) ?_ 1 _ rfl; (with_reducible repeat (first | refine blk_drewN ?_ _ | refine blk_drew ?_ | refine blk_alloc ?_ _)); refine blk_put (cs := #[.int .i64 0, .int .i64 0]) ?_ 0 _ rfl; (with_reducible repeat (first | refine blk_drewN ?_ _ | refine blk_drew ?_ | refine blk_alloc ?_ _)); exact BK203.out⟩
           have n5_ : Aside0 (Below w.heap.size w ((w18.setCell ⟨gb203, 0, none⟩ (.int .i64 ((rd_T191 x5_1 x27_2).f0))).setCell ⟨gb203, 1, none⟩ (.int .i64 ((rd_T191 x5_1 x27_2).f1)))) := ⟨tb⟩
           (try clear HO_5)
           (try clear HO_7)
           (try clear HO_25)
           (try clear BK201)
           (try clear BK203)
           (try clear HB)
           generalize ((w18.setCell ⟨gb203, 0, none⟩ (.int .i64 ((rd_T191 x5_1 x27_2).f0))).setCell ⟨gb203, 1, none⟩ (.int .i64 ((rd_T191 x5_1 x27_2).f1))) = w21 at n0_ n1_ n2_ n3_ n4_ n5_ ⊢
           have HO_5 := n0_
           have HO_7 := n1_
           have HO_25 := n2_
           have BK201 := n3_
           have BK203 := n4_
           have HB := n5_
           clear n0_ n1_ n2_ n3_ n4_ n5_
           replace HO_5 := Aside0.mk (Kd.R_drew HO_5.out)
           replace HO_7 := Aside0.mk (Kd.R_drew HO_7.out)
           replace HO_25 := Aside0.mk (Kd.R_drew HO_25.out)
           replace BK201 := Aside0.mk (blk_drew BK201.out)
           replace BK203 := Aside0.mk (blk_drew BK203.out)
           replace HB := Aside0.mk (below_drew1 HB.out)
           obtain ⟨Ao23, co23, eo23⟩ := Kd.R_slice HO_7.out
           (first | subst eo23 | (injection eo23 with f1_ f2_ f3_; have f4_ := f1_.symm; have f5_ := f3_.symm; clear f1_ f2_ f3_; subst f4_; subst f5_))
           have p204 : 0 ≤ (x27_2 : Int) := od
           have q204 : x27_2 < (t198.length : Int) := od
           obtain ⟨ad204, e204, hx204_0⟩ := Kd.at_int (Kd.R_reads' HO_7.out).2.2 x27_2 p204 q204
           cases e204
           replace p204 := eq_true p204
           replace q204 := eq_true q204
           refine start_ (n := 13) (S := fun w' => w'.cell? ⟨gb201, 0, none⟩ = some (.int .i64 x202000_2) ∧ w'.cell? ⟨gb201, 1, none⟩ = some (.int .i64 x202001_2) ∧ w'.cell? ⟨gb203, 0, none⟩ = some (.int .i64 ((rd_T191 x5_1 x27_2).f0)) ∧ w'.cell? ⟨gb203, 1, none⟩ = some (.int .i64 ((rd_T191 x5_1 x27_2).f1)) ∧ w'.cell? (ad204.add (x27_2).toNat) = some (.int .i64 (rd t198 x27_2))) (ds := [12]) #[false, false, false, false, false, false, false, false, false, false, false, false, false] (by kernel_rfl) rfl rfl ⟨(blk_cell BK201.out 0).trans rfl, (blk_cell BK201.out 1).trans rfl, (blk_cell BK203.out 0).trans rfl, (blk_cell BK203.out 1).trans rfl, hx204_0⟩ (fun hHeld => ?_); refine with_tabW impl_BernoulliOf.tab11 impl_BernoulliOf.bits11 (fun HT_ HW_ => ?_)
           generalize w21.drew = w22 at HO_5 HO_7 HO_25 BK201 BK203 HB hx204_0 hHeld ⊢
           refine pu 1 (some 33) #[false, true, false, false, false, false, false, false, false, false, false, false, false] ?_
           refine pu 2 (some 34) #[false, true, true, false, false, false, false, false, false, false, false, false, false] ?_
           refine pu 3 (some 35) #[false, true, true, true, false, false, false, false, false, false, false, false, false] ?_
           refine pu 5 (some 37) #[false, true, true, true, false, true, false, false, false, false, false, false, false] ?_
           refine pu 8 (some 40) #[false, true, true, true, false, true, false, false, true, false, false, false, false] ?_
           refine tk 0 (some 32) #[true, true, true, true, false, true, false, false, true, false, false, false, false] hHeld ?_
           refine tk 4 (some 36) #[true, true, true, true, true, true, false, false, true, false, false, false, false] hHeld ?_
           refine tk 6 (some 38) #[true, true, true, true, true, true, true, false, true, false, false, false, false] hHeld ?_
           refine pu 7 (some 39) #[true, true, true, true, true, true, true, true, true, false, false, false, false] ?_
           refine tk 9 (some 41) #[true, true, true, true, true, true, true, true, true, true, false, false, false] hHeld ?_
           refine one_ (i := 10) (N := some 42) #[true, true, true, true, true, true, true, true, true, true, true, false, false] rfl rfl (one_of HT_.out (by kernel_rfl)) (by decide) (fun K hK => ?_)
           refine goes_ Try.func208 (by kernel_rfl) rfl #[.int .i64 (wrap64 ((rd t198 x27_2) * ((rd_T191 x5_1 x27_2).f0))), .int .i64 ((rd_T191 x5_1 x27_2).f1)] (by rfl) rfl rfl ar ?_
           with_reducible refine (impl_fractionOf.calls k2 (wrap64 ((rd t198 x27_2) * ((rd_T191 x5_1 x27_2).f0))) ((rd_T191 x5_1 x27_2).f1) t205 t206 _ A16.out).mono ?_
           rintro e w24 ⟨rfl, hb⟩
           have HS4_ := (hb.cell (World.block_lt_of_cell? _ _ (hHeld.2.2.2.2))).trans (hHeld.2.2.2.2)
           refine ⟨_, rfl, ?_⟩
           replace HO_5 := Aside0.mk (Kd.R_below (kR HO_5.out) hb)
           replace HO_7 := Aside0.mk (Kd.R_below (kR HO_7.out) hb)
           replace HO_25 := Aside0.mk (Kd.R_below (kR HO_25.out) hb)
           replace BK201 := Aside0.mk (blk_below (kb BK201.out) hb)
           replace BK203 := Aside0.mk (blk_below (kb BK203.out) hb)
           replace HB := Aside0.mk (below_step tb hb)
           (try clear hb)
           (try clear hb2)
           (try clear hk)
           (try clear hi)
           refine hK.out _ _ ⟨(blk_cell BK201.out 0).trans rfl, (blk_cell BK201.out 1).trans rfl, (blk_cell BK203.out 0).trans rfl, (blk_cell BK203.out 1).trans rfl, HS4_⟩ (fun hHeld => ?_)
           clear hK K
           refine nr ?_
           refine one_ (i := 11) (N := some 43) #[true, true, true, true, true, true, true, true, true, true, true, true, false] rfl rfl (one_of HT_.out (by kernel_rfl)) (by decide) (fun K hK => ?_)
           refine goes_ Try.func207 (by kernel_rfl) rfl #[.agg #[.int .i64 x202000_2, .int .i64 x202001_2], .agg #[.int .i64 t205, .int .i64 t206]] (by rfl) rfl rfl ar ?_
           with_reducible refine (impl_fraction_and.calls k2 x202000_2 x202001_2 t205 t206 t207 t208 _ A17.out).mono ?_
           rintro e w25 ⟨rfl, hb⟩
           have HS4_ := (hb.cell (World.block_lt_of_cell? _ _ (hHeld.2.2.2.2))).trans (hHeld.2.2.2.2)
           refine ⟨_, rfl, ?_⟩
           replace HO_5 := Aside0.mk (Kd.R_below (kR HO_5.out) hb)
           replace HO_7 := Aside0.mk (Kd.R_below (kR HO_7.out) hb)
           replace HO_25 := Aside0.mk (Kd.R_below (kR HO_25.out) hb)
           replace BK201 := Aside0.mk (blk_below (kb BK201.out) hb)
           replace BK203 := Aside0.mk (blk_below (kb BK203.out) hb)
           replace HB := Aside0.mk (below_step tb hb)
           (try clear hb)
           (try clear hb2)
           (try clear hk)
           (try clear hi)
           refine hK.out _ _ ⟨(blk_cell BK201.out 0).trans rfl, (blk_cell BK201.out 1).trans rfl, (blk_cell BK203.out 0).trans rfl, (blk_cell BK203.out 1).trans rfl, HS4_⟩ (fun hHeld => ?_)
           clear hK K
           refine nr ?_
           refine last_ (i := 12) (N := none) #[true, true, true, true, true, true, true, true, true, true, true, true, true] rfl rfl (one_of HT_.out (by kernel_rfl)) (by decide) (fun K hK => ?_)
           have hs26 : w25.cell? ⟨gb201, 0, none⟩ = some (.int .i64 x202000_2) := (blk_cell BK201.out 0).trans rfl
           have hfs26 := blk_frozen BK201.out 0
           have hns26_1 := NB203_201.out
           have hms26_1 := NB201_203.out
           have hs27 : w25.cell? ⟨gb201, 1, none⟩ = some (.int .i64 x202001_2) := (blk_cell BK201.out 1).trans rfl
           have hfs27 := blk_frozen BK201.out 1
           have hns27_1 := NB203_201.out
           have hms27_1 := NB201_203.out
           refine skip_ (w1 := ?_) (by rfl) rfl ?_ ?_
           rotate_left
           ·go_simp
            rfl
           refine hK.out _ _ ?_
           clear hK K
           refine done_ (done_of HT_.out (by kernel_rfl)) ?_
           try go_wp2
           go_roundg k2
           case measure => have := HK1.out; have := HK2.out; omega
           case rel => exact ⟨(wrap64 (x27_2 + 1)), (t207), (t208), (by first | rfl | (simp; done) | (simp [*]; done)), H', ⟨by have := HK1.out; have := HK2.out; omega⟩, ⟨by (with_reducible repeat (first | apply Kd.R_alloc | apply Kd.R_drewN | apply Kd.R_drew)); exact Kd.R_mono (Kd.R_far (p := ⟨gb201, 1, none⟩) (Kd.R_far (p := ⟨gb201, 0, none⟩) (Kd.R_mono HO_5.out (fun k_ hk => (⟨hk, hk.1⟩ : _ ∧ k_ ≠ gb201))) (fun _ hk => hk.2) (.int .i64 t207)) (fun _ hk => hk.2) (.int .i64 t208)) (fun _ hk => hk.1.1)⟩, ⟨by (with_reducible repeat (first | apply Kd.R_alloc | apply Kd.R_drewN | apply Kd.R_drew)); exact Kd.R_mono (Kd.R_far (p := ⟨gb201, 1, none⟩) (Kd.R_far (p := ⟨gb201, 0, none⟩) (Kd.R_types HO_7.out BK201.out (by decide)) (fun _ hk => hk.2) (.int .i64 t207)) (fun _ hk => hk.2) (.int .i64 t208)) (fun _ hk => trivial)⟩, ⟨by (with_reducible repeat (first | apply Kd.R_alloc | apply Kd.R_drewN | apply Kd.R_drew)); exact Kd.R_mono (Kd.R_far (p := ⟨gb201, 1, none⟩) (Kd.R_far (p := ⟨gb201, 0, none⟩) (Kd.R_mono HO_25.out (fun k_ hk => (⟨hk, hk.1⟩ : _ ∧ k_ ≠ gb201))) (fun _ hk => hk.2) (.int .i64 t207)) (fun _ hk => hk.2) (.int .i64 t208)) (fun _ hk => hk.1.1)⟩, ⟨by (with_reducible repeat (first | refine blk_drewN ?_ _ | refine blk_drew ?_ | refine blk_alloc ?_ _)); refine blk_put (cs := #[.int .i64 t207, .int .i64 x202001_2]) ?_ 1 _ rfl; (with_reducible repeat (first | refine blk_drewN ?_ _ | refine blk_drew ?_ | refine blk_alloc ?_ _)); refine blk_put (cs := #[.int .i64 x202000_2, .int .i64 x202001_2]) ?_ 0 _ rfl; (with_reducible repeat (first | refine blk_drewN ?_ _ | refine blk_drew ?_ | refine blk_alloc ?_ _)); exact BK201.out⟩, ⟨tb⟩⟩
          ·rw [if_neg c15] at H
           exact absurd H (by simp)
         ·rw [if_neg c14] at H
          exact absurd H (by simp)
        ·rw [if_neg c13] at H
         exact absurd H (by simp)
       ·rw [if_neg c12] at H
        have c12b0 : decide (x27_2 < (x5_1.length : Int)) = false := decide_eq_false c12
        clear c12
        replace H := Option.bind_eq_some_iff.mp H
        obtain ⟨⟨t209, t210⟩, A280, H⟩ := H
        replace H : (if x5_1.length < 8796093022208 then (impl_BernoulliOf.l0 k2 a0 (x5_1 ++ [(⟨t209, t210⟩ : S191)]) (wrap64 (x6_1 + 1))) else (none)) = some (r1, r2, r3) := H
        have A28 := Aside0.mk A280
        clear A280
        by_cases c29 : x5_1.length < 8796093022208
        ·rw [if_pos c29] at H
         have LMc29 := Aside0.mk c29
         clear c29
         obtain ⟨y211, hy211⟩ : ∃ y_ : List (S191), y_ = (x5_1 ++ [(⟨t209, t210⟩ : S191)]) := ⟨_, rfl⟩
         replace H : (impl_BernoulliOf.l0 k2 a0 y211 (wrap64 (x6_1 + 1))) = some (r1, r2, r3) := by first | (rw [hy211]; with_reducible exact H) | (rw [hy211]; with_reducible exact (bs H :)) | with_reducible exact (bs H :) | exact H
         have Ny211 := Aside0.mk hy211
         clear hy211
         have H' := Aside0.mk H
         clear H
         have hcz30_0 : wr.cell? ⟨gb201, 0, none⟩ = some (.int .i64 x202000_2) := (blk_cell BK201.out 0).trans rfl
         have hcz30_1 : wr.cell? ⟨gb201, 1, none⟩ = some (.int .i64 x202001_2) := (blk_cell BK201.out 1).trans rfl
         have hfz30_0 := blk_frozen BK201.out 0
         have hfz30_1 := blk_frozen BK201.out 1
         go_wp2_with (first | ((with_reducible refine gate_callee (f := 208) rfl ?_); refine goesL_ (some 54) rfl rfl Try.func208 (by kernel_rfl) rfl #[.int .i64 (wrap64 (-x202000_2)), .int .i64 (wrap64 (x202001_2 * (wrap64 (x6_1 + 1))))] rfl ar ?_; (with_reducible refine (impl_fractionOf.calls k2 (wrap64 (-x202000_2)) (wrap64 (x202001_2 * (wrap64 (x6_1 + 1)))) t209 t210 _ A28.out).mono ?_); rintro e w31 ⟨rfl, hb⟩; refine ⟨_, rfl, ?_⟩; replace HO_5 := Aside0.mk (Kd.R_below (kR HO_5.out) hb); replace HO_7 := Aside0.mk (Kd.R_below (kR HO_7.out) hb); replace HO_25 := Aside0.mk (Kd.R_below (kR HO_25.out) hb); replace BK201 := Aside0.mk (blk_below (kb BK201.out) hb); replace HB := Aside0.mk (below_step tb hb); (try clear hb); (try clear hb2); (try clear hk); (try clear hi)) | ((with_reducible refine gate_builtin (b := .append) (xs := #[.tmp 45, .tmp 55]) rfl ?_); at_builtin; refine Kd.R_append k191 (w0 := w) w.heap.size rfl (.tmp 45) (.tmp 55) 192 191 (.agg #[(.int .i64 0), (.int .i64 0)]) 16 rfl Try.underlying192 info191 rfl (by decide) (by omega) (.slice Ao11 x5_1.length co11) x5_1 (⟨t209, t210⟩ : S191) [.int .i64 t209, .int .i64 t210] (fun k_ => k_ ≠ gb201) (fun _ => False) rfl rfl ?aP (fun _ hk => hk.elim) ?aF ?aO ?aB ?aS ?aL ?_; (case aP => exact k191_mkM _ _ _ (⟨t209, t210⟩ : S191)); (case aB => exact tb); (case aF => exact (fun k_ hk => Kd.freshB (kb BK201.out) k_ hk)); (case aO => exact (kR HO_5.out)); (case aS => exact (below_size tb)); (case aL => have := LMc29.out; omega); intro v212 w32 ho hb hg hat; rw [← Ny211.out] at ho; have n0_ := Aside0.mk (Kd.R_over' (kR HO_7.out) (Kd.R_typed (kR HO_5.out)) (by decide) hg); have n1_ := Aside0.mk (blk_grown (kb BK201.out) hg (Kd.R_away HO_5.out (fun _ hk => hk))); have n2_ := Aside0.mk (hb); have n3_ := Aside0.mk (ho); clear HO_7; clear BK201; clear HB; clear HO_5; have HO_7 := n0_; have BK201 := n1_; have HB := n2_; have HO213 := n3_; clear n0_ n1_ n2_ n3_; clear ho hb hg hat))
         go_roundg k2
         case measure => have := HK1.out; have := HK2.out; omega
         case rel => exact ⟨(y211), (wrap64 (x6_1 + 1)), (by first | rfl | (simp; done) | (simp [*]; done)), H', ⟨by have := HK1.out; have := HK2.out; omega⟩, ⟨by (with_reducible repeat (first | apply Kd.R_alloc | apply Kd.R_drewN | apply Kd.R_drew)); exact Kd.R_mono HO213.out (fun _ hk => trivial)⟩, ⟨tb⟩⟩
        ·rw [if_neg c29] at H
         exact absurd H (by simp)
    ·rw [if_neg c6] at H
     have c6b0 : decide (x6_1 ≤ a0) = false := decide_eq_false c6
     clear c6
     by_cases c33 : 0 ≤ a0
     ·rw [if_pos c33] at H
      have c33b0 : decide (0 ≤ a0) = true := decide_eq_true c33
      clear c33
      by_cases c34 : a0 < (x5_1.length : Int)
      ·rw [if_pos c34] at H
       have c34b0 : decide (a0 < (x5_1.length : Int)) = true := decide_eq_true c34
       clear c34
       simp only [Option.some.injEq, Prod.mk.injEq] at H
       obtain ⟨rfl, rfl, rfl⟩ := H
       try go_wp2
       replace HO_5 := Aside0.mk (Kd.R_drew HO_5.out)
       replace HB := Aside0.mk (below_drew1 HB.out)
       obtain ⟨Ao36, co36, eo36⟩ := Kd.R_slice HO_5.out
       (first | subst eo36 | (injection eo36 with f1_ f2_ f3_; have f4_ := f1_.symm; have f5_ := f3_.symm; clear f1_ f2_ f3_; subst f4_; subst f5_))
       have p196 : 0 ≤ (a0 : Int) := od
       have q196 : a0 < (x5_1.length : Int) := od
       obtain ⟨ad196, e196, hx196_0, hx196_1⟩ := at_T191 (Kd.R_reads' HO_5.out).2.2 a0 p196 q196
       cases e196
       replace p196 := eq_true p196
       replace q196 := eq_true q196
       have p197 : 0 ≤ (a0 : Int) := od
       have q197 : a0 < (x5_1.length : Int) := od
       obtain ⟨ad197, e197, hx197_0, hx197_1⟩ := at_T191 (Kd.R_reads' HO_5.out).2.2 a0 p197 q197
       obtain rfl : ad196 = ad197 := (by injection e197)
       replace p197 := eq_true p197
       replace q197 := eq_true q197
       refine start_ (n := 13) (S := fun w' => w'.cell? (ad196.add ((a0).toNat * 2)) = some (.int .i64 ((rd_T191 x5_1 a0).f0)) ∧ w'.cell? ⟨(ad196.add ((a0).toNat * 2)).block, (ad196.add ((a0).toNat * 2)).off + 1, none⟩ = some (.int .i64 ((rd_T191 x5_1 a0).f1)) ∧ w'.cell? (ad196.add ((a0).toNat * 2)) = some (.int .i64 ((rd_T191 x5_1 a0).f0)) ∧ w'.cell? ⟨(ad196.add ((a0).toNat * 2)).block, (ad196.add ((a0).toNat * 2)).off + 1, none⟩ = some (.int .i64 ((rd_T191 x5_1 a0).f1))) (ds := []) #[false, false, false, false, false, false, false, false, false, false, false, false, false] (by kernel_rfl) rfl rfl ⟨hx196_0, hx196_1, hx197_0, hx197_1⟩ (fun hHeld => ?_); refine with_tabW impl_BernoulliOf.tab14 impl_BernoulliOf.bits14 (fun HT_ HW_ => ?_)
       generalize wr.drew = w35 at HO_5 HB hx196_0 hx196_1 hx197_0 hx197_1 hHeld ⊢
       refine pu 0 (some 57) #[true, false, false, false, false, false, false, false, false, false, false, false, false] ?_
       refine pu 1 (some 58) #[true, true, false, false, false, false, false, false, false, false, false, false, false] ?_
       refine pu 2 (some 59) #[true, true, true, false, false, false, false, false, false, false, false, false, false] ?_
       refine pu 3 (some 60) #[true, true, true, true, false, false, false, false, false, false, false, false, false] ?_
       refine pu 5 (some 62) #[true, true, true, true, false, true, false, false, false, false, false, false, false] ?_
       refine pu 6 (some 63) #[true, true, true, true, false, true, true, false, false, false, false, false, false] ?_
       refine pu 7 (some 64) #[true, true, true, true, false, true, true, true, false, false, false, false, false] ?_
       refine pu 8 (some 65) #[true, true, true, true, false, true, true, true, true, false, false, false, false] ?_
       refine tk 4 (some 61) #[true, true, true, true, true, true, true, true, true, false, false, false, false] hHeld ?_
       refine pu 10 (some 2) #[true, true, true, true, true, true, true, true, true, false, true, false, false] ?_
       refine tk 9 (some 66) #[true, true, true, true, true, true, true, true, true, true, true, false, false] hHeld ?_
       refine pu 11 (some 3) #[true, true, true, true, true, true, true, true, true, true, true, true, false] ?_
       refine pu 12 (some 4) #[true, true, true, true, true, true, true, true, true, true, true, true, true] ?_
       refine done_ (done_of HT_.out (by kernel_rfl)) ?_
       try go_wp2
       go_ret3
       exact ⟨by first | rfl | (simp [errW_none, errW_some] <;> rfl) | (simp [*, errW_none, errW_some] <;> rfl), tb⟩
      ·rw [if_neg c34] at H
       exact absurd H (by simp)
     ·rw [if_neg c33] at H
      exact absurd H (by simp)
 ·replace c3 := Bool.eq_false_iff.mpr c3
  subst c3
  have H1 : (some (0, 0, 2)) = some (r1, r2, r3) := by rw [if_neg (show ¬ (false = true) by decide)] at H; exact H
  clear H
  have H := H1
  clear H1
  simp only [Option.some.injEq, Prod.mk.injEq] at H
  obtain ⟨rfl, rfl, rfl⟩ := H
  go_enter Try.func98, Try.ntmps98
  go_wp2_with (first | ((with_reducible refine gate_callee (f := 159) rfl ?_); refine goesL_ (some 12) rfl rfl Try.func159 (by kernel_rfl) rfl #[.int .i64 a0, .int .i64 0, .int .i64 20] rfl ar ?_; (with_reducible refine (impl_within.calls a0 0 20 false _ A2.out).mono ?_); rintro e w' ⟨rfl, ⟨nd, rfl⟩⟩; refine ⟨_, rfl, ?_⟩))
  go_ret3
  exact ⟨by first | rfl | (simp [errW_none, errW_some] <;> rfl) | (simp [*, errW_none, errW_some] <;> rfl), tb⟩

/-! ### spec_l01Gcd: function 180 -/
def spec_l01Gcd.l0 : Nat → Int → Int → Option (Int)
 | 0, _, _ => none
 | k + 1, x0, x1 => if x1 = 0 then (some (mx x0 (wrap64 (-x0)))) else (spec_l01Gcd.l0 k x1 (Int.tmod x0 x1))
def spec_l01Gcd.f (k : Nat) (a0 : Int) (a1 : Int) : Option (Int) := spec_l01Gcd.l0 k a0 a1
set_option maxHeartbeats 8000000 in
set_option maxRecDepth 100000 in
theorem spec_l01Gcd.calls (k : Nat) (a0 : Int) (a1 : Int) (r : Int) (w : World) (h : spec_l01Gcd.f k a0 a1 = some r) :
  Calls Try.prog 180 #[.int .i64 a0, .int .i64 a1] w fun e w' => e = .returned (.int .i64 r) ∧ Below w.heap.size w w' := by
 have HB := Aside0.mk (Below.refl w.heap.size w)
 have H : (spec_l01Gcd.l0 k a0 a1) = some r := h
 clear h
 have H' := Aside0.mk H
 clear H
 go_enter Try.func180, Try.ntmps180
 go_wp2
 go_loopg [0, 1] k (fun kq v0 v1 w' => ∃ (x0_1 : Int) (x1_1 : Int), v0 = .int .i64 x0_1 ∧ v1 = .int .i64 x1_1 ∧ Aside0 (spec_l01Gcd.l0 kq x0_1 x1_1 = some r) ∧ Aside0 (kq ≤ k) ∧ Aside0 (Below w.heap.size w w'))
 case atStart => exact ⟨(a0), (a1), (by first | rfl | (simp; done) | (simp [*]; done)), (by first | rfl | (simp; done) | (simp [*]; done)), H', ⟨Nat.le_refl _⟩, ⟨tb⟩⟩
 case round =>
  clear H'
  try clear c1
  try clear p2
  obtain ⟨x0_1, x1_1, rfl, rfl, HA, HK1, HB⟩ := hrel
  cases gk with
  | zero => exact absurd HA.out (by simp [spec_l01Gcd.l0])
  | succ k1 =>
   have H := HA.out
   clear HA
   simp only [spec_l01Gcd.l0] at H
   by_cases c3 : x1_1 = 0
   ·rw [if_pos c3] at H
    have c3b0 : (x1_1 == 0) = true := beq_iff_eq.mpr c3
    have c3b1 : (x1_1 != 0) = false := bne_eq_false_iff_eq.mpr c3
    clear c3
    obtain ⟨ji4, hji4⟩ : ∃ j_ : Int, (mx x0_1 (wrap64 (-x0_1))) = j_ := ⟨_, rfl⟩
    replace H : (some ji4) = some r := by first | (rw [hji4] at H; exact H) | (simp only [hji4] at H ⊢; exact H)
    have hji4_ : (if x0_1 < (wrap64 (-x0_1)) then (wrap64 (-x0_1)) else x0_1) = ji4 := hji4
    obtain rfl := Option.some.inj H
    go_wp2
    go_ret
    exact ⟨by first | rfl | (simp [errW_none, errW_some] <;> rfl) | (simp only [← hji4]; first | rfl | (simp [errW_none, errW_some] <;> rfl)) | (simp [*, errW_none, errW_some] <;> rfl), tb⟩
   ·rw [if_neg c3] at H
    have c3b0 : (x1_1 == 0) = false := beq_eq_false_iff_ne.mpr c3
    have c3b1 : (x1_1 != 0) = true := bne_iff_ne.mpr c3
    have H' := Aside0.mk H
    clear H
    go_wp2
    go_roundg k1
    case measure => have := HK1.out; omega
    case rel => exact ⟨(x1_1), (Int.tmod x0_1 x1_1), (by first | rfl | (simp; done) | (simp [*]; done)), (by first | rfl | (simp; done) | (simp [*]; done)), H', ⟨by have := HK1.out; omega⟩, ⟨tb⟩⟩

/-! ### spec_l10Choose: function 209 -/
def spec_l10Choose.l0 : Nat → Int → Int → Int → Int → Option (Int)
 | 0, _, _, _, _ => none
 | k + 1, x0, x1, x5, x6 => if x6 < x1 then (if (wrap64 (x6 + 1)) = 0 then (none) else (spec_l10Choose.l0 k x0 x1 (wrap64 (Int.tdiv (wrap64 (x5 * (wrap64 (x0 - x6)))) (wrap64 (x6 + 1)))) (wrap64 (x6 + 1)))) else (some x5)
def spec_l10Choose.f (k : Nat) (a0 : Int) (a1 : Int) : Option (Int) := spec_l10Choose.l0 k a0 a1 1 0
set_option maxHeartbeats 8000000 in
set_option maxRecDepth 100000 in
theorem spec_l10Choose.calls (k : Nat) (a0 : Int) (a1 : Int) (r : Int) (w : World) (h : spec_l10Choose.f k a0 a1 = some r) :
  Calls Try.prog 209 #[.int .i64 a0, .int .i64 a1] w fun e w' => e = .returned (.int .i64 r) ∧ Drawn0 w w' := by
 have H : (spec_l10Choose.l0 k a0 a1 1 0) = some r := h
 clear h
 have H' := Aside0.mk H
 clear H
 go_enter Try.func209, Try.ntmps209
 go_wp2
 go_loopg [5, 6] k (fun kq v5 v6 w' => ∃ (x5_1 : Int) (x6_1 : Int), v5 = .int .i64 x5_1 ∧ v6 = .int .i64 x6_1 ∧ Aside0 (spec_l10Choose.l0 kq a0 a1 x5_1 x6_1 = some r) ∧ Aside0 (kq ≤ k) ∧ Drawn0 w w')
 case atStart => exact ⟨(1), (0), (by first | rfl | (simp; done) | (simp [*]; done)), (by first | rfl | (simp; done) | (simp [*]; done)), H', ⟨Nat.le_refl _⟩, by repeat (first | exact Drawn0.refl _ | apply Drawn0.step)⟩
 case round =>
  clear H'
  try clear c2
  try clear p2
  obtain ⟨x5_1, x6_1, rfl, rfl, HA, HK1, ⟨m1, rfl⟩⟩ := hrel
  cases gk with
  | zero => exact absurd HA.out (by simp [spec_l10Choose.l0])
  | succ k1 =>
   have H := HA.out
   clear HA
   simp only [spec_l10Choose.l0] at H
   by_cases c3 : x6_1 < a1
   ·rw [if_pos c3] at H
    have c3b0 : decide (x6_1 < a1) = true := decide_eq_true c3
    clear c3
    by_cases c4 : (wrap64 (x6_1 + 1)) = 0
    ·rw [if_pos c4] at H
     exact absurd H (by simp)
    ·rw [if_neg c4] at H
     have c4b0 : ((wrap64 (x6_1 + 1)) == 0) = false := beq_eq_false_iff_ne.mpr c4
     have c4b1 : ((wrap64 (x6_1 + 1)) != 0) = true := bne_iff_ne.mpr c4
     have H' := Aside0.mk H
     clear H
     go_wp2
     go_roundg k1
     case measure => have := HK1.out; omega
     case rel => exact ⟨(wrap64 (Int.tdiv (wrap64 (x5_1 * (wrap64 (a0 - x6_1)))) (wrap64 (x6_1 + 1)))), (wrap64 (x6_1 + 1)), (by first | rfl | (simp; done) | (simp [*]; done)), (by first | rfl | (simp; done) | (simp [*]; done)), H', ⟨by have := HK1.out; omega⟩, by repeat (first | exact Drawn0.refl _ | apply Drawn0.step)⟩
   ·rw [if_neg c3] at H
    have c3b0 : decide (x6_1 < a1) = false := decide_eq_false c3
    clear c3
    obtain rfl := Option.some.inj H
    go_wp2
    go_ret
    exact ⟨by first | rfl | (simp; done) | (simp [*]; done), by repeat (first | exact Drawn0.refl _ | apply Drawn0.step)⟩

end Go.Proofs.Ytgcggngleiggiaa.Pr
