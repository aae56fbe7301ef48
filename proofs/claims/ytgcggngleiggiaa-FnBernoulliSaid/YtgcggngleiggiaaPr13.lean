-- Printed by a program of this session, hand-proved contracts among it.
import Derived.Test.YtgcggngleiggiaaPr0
import Derived.Test.YtgcggngleiggiaaPr10
import Derived.Test.YtgcggngleiggiaaPr11
import Derived.Test.YtgcggngleiggiaaPr12
namespace Go.Proofs.Ytgcggngleiggiaa.Pr
open Go.RowKit Go.Proofs.YtgcggngleiggiaaW.PrintWords Go.Proofs.YtgcggngleiggiaaW.PrintLast Go.Proofs.YtgcggngleiggiaaW.PrintMore Go.Proofs.Ytgcggngleiggiaa.Sq
attribute [local go_sem] max2_int min2_int max_two min_two max_three min_three max_four min_four   -- for this text's walks alone
set_option linter.unusedVariables false
set_option linter.unusedSimpArgs false

/-! ### spec_l01Reduce: function 252 -/
mutual
def spec_l01Reduce.l0 : Nat → Int → List Int → List Int → Int → Int → Option (Int × List Int)
 | 0, _, _, _, _, _ => none
 | k + 1, x0, x5, x6, x7, x8 => if x8 ≥ x7 then (if 0 ≤ x8 then (if x8 < (x6.length : Int) then (spec_l01Reduce.l1 k x0 x5 x6 x7 x8 (rd x6 x8) 0) else (none)) else (none)) else ((spec_l01Zero.f k x0).bind fun bt499 => (spec_l01Reduce.l2 k x6 x7 0 bt499.1 bt499.2))
def spec_l01Reduce.l1 : Nat → Int → List Int → List Int → Int → Int → Int → Int → Option (Int × List Int)
 | 0, _, _, _, _, _, _, _ => none
 | k + 1, x0, x5, x6, x7, x8, x9, x10 => if x10 ≤ x7 then (if 0 ≤ (wrap64 ((wrap64 (x8 - x7)) + x10)) then (if (wrap64 ((wrap64 (x8 - x7)) + x10)) < (x6.length : Int) then (if 0 ≤ x10 then (if x10 < (x5.length : Int) then (spec_l01Reduce.l1 k x0 x5 (x6.set ((wrap64 ((wrap64 (x8 - x7)) + x10)) : Int).toNat (wrap64 ((rd x6 (wrap64 ((wrap64 (x8 - x7)) + x10))) - (wrap64 (x9 * (rd x5 x10)))))) x7 x8 x9 (wrap64 (x10 + 1))) else (none)) else (none)) else (none)) else (none)) else (spec_l01Reduce.l0 k x0 x5 x6 x7 (wrap64 (x8 - 1)))
def spec_l01Reduce.l2 : Nat → List Int → Int → Int → Int → List Int → Option (Int × List Int)
 | 0, _, _, _, _, _ => none
 | k + 1, x6, x7, x12, x504000, x504001 => if x12 < x7 then (if x12 < (x6.length : Int) then (if 0 ≤ x12 then (if x12 < (x504001.length : Int) then (spec_l01Reduce.l2 k x6 x7 (wrap64 (x12 + 1)) x504000 (x504001.set (x12 : Int).toNat (rd x6 x12))) else (none)) else (none)) else (some (x504000, x504001))) else (some (x504000, x504001))
end
def spec_l01Reduce.f (k : Nat) (a0 : Int) (l1 : List Int) : Option (Int × List Int) := (spec_l01Cyclotomic.f k a0).bind fun t489 => ((spec_l01Own.f l1).bind fun t492 => (spec_l01Reduce.l0 k a0 t489 t492 (wrap64 ((t489.length : Int) - 1)) (wrap64 ((t492.length : Int) - 1))))
def spec_l01Reduce.T10 : Bool × List (List Nat × List Nat) := (true, [([], []), ([], []), ([], []), ([1, 2], [1, 2]), ([], []), ([3, 4], [3, 4]), ([], []), ([], []), ([], []), ([7, 8], [7, 8]), ([], []), ([9, 10], [9, 10]), ([6, 11], [6, 11]), ([12], [12]), ([], []), ([], []), ([], []), ([15, 16], [15, 16]), ([17], [17]), ([14, 18], [14, 18]), ([13, 19], [13, 19]), ([0, 5, 0, 1, 2, 3, 4, 5, 6, 7, 8, 9, 10, 11, 12, 13, 14, 15, 16, 17, 18, 19, 20], [0, 5]), ([21, 20, 0, 1, 2, 3, 4, 5, 6, 7, 8, 9, 10, 11, 12, 13, 14, 15, 16, 17, 18, 19, 20], [20, 21])])
def spec_l01Reduce.B10 : List Nat := [0, 0, 0, 6, 0, 30, 0, 0, 0, 384, 0, 1920, 4032, 8128, 0, 0, 0, 98304, 229376, 507904, 1048512, 2097151, 4194303]
theorem spec_l01Reduce.tab10 : rtab .any (opsOf Try.f252 10) = spec_l01Reduce.T10 := by kernel_rfl
theorem spec_l01Reduce.bits10 : waitsOk spec_l01Reduce.T10.2 spec_l01Reduce.B10 = true := by kernel_rfl
def spec_l01Reduce.T15 : Bool × List (List Nat × List Nat) := (true, [([], []), ([0], [0]), ([], []), ([], []), ([], []), ([3, 4], [3, 4]), ([5], [5]), ([1, 2, 0, 1, 2, 3, 4, 5, 6], [1, 2]), ([7, 6, 0, 1, 2, 3, 4, 5, 6], [6, 7])])
def spec_l01Reduce.B15 : List Nat := [0, 1, 0, 0, 0, 24, 56, 127, 255]
theorem spec_l01Reduce.tab15 : rtab .any (opsOf Try.f252 15) = spec_l01Reduce.T15 := by kernel_rfl
theorem spec_l01Reduce.bits15 : waitsOk spec_l01Reduce.T15.2 spec_l01Reduce.B15 = true := by kernel_rfl
set_option maxHeartbeats 8000000 in
set_option maxRecDepth 100000 in
theorem spec_l01Reduce.calls (k : Nat) (a0 : Int) (A1 : Option Addr) (c1 : Nat) (l1 : List Int) (r1 : Int) (r2 : List Int) (w : World) (hr1 : Kd.C (Kd.int .i64) w A1 l1.length l1) (hc1 : l1.length ≤ c1) (h : spec_l01Reduce.f k a0 l1 = some (r1, r2)) :
  Calls Try.prog 252 #[.int .i64 a0, .slice A1 l1.length c1] w fun e w' => ∃ v1_ : Value, e = .returned (.agg #[.int .i64 r1, v1_]) ∧ Kd.R (Kd.int .i64) 2 w' w.heap.size (fun _ => True) v1_ r2 ∧ Below w.heap.size w w' := by
 have hu32 := Try.underlying32
 have HR1 := Aside0.mk hr1
 have HC1 := Aside0.mk hc1
 clear hr1 hc1
 have HB := Aside0.mk (Below.refl w.heap.size w)
 have H : ((spec_l01Cyclotomic.f k a0).bind fun t489 => ((spec_l01Own.f l1).bind fun t492 => (spec_l01Reduce.l0 k a0 t489 t492 (wrap64 ((t489.length : Int) - 1)) (wrap64 ((t492.length : Int) - 1))))) = some (r1, r2) := h
 clear h
 replace H := Option.bind_eq_some_iff.mp H
 obtain ⟨t489, A30, H⟩ := H
 replace H : ((spec_l01Own.f l1).bind fun t492 => (spec_l01Reduce.l0 k a0 t489 t492 (wrap64 ((t489.length : Int) - 1)) (wrap64 ((t492.length : Int) - 1)))) = some (r1, r2) := H
 have A3 := Aside0.mk A30
 clear A30
 replace H := Option.bind_eq_some_iff.mp H
 obtain ⟨t492, A40, H⟩ := H
 replace H : (spec_l01Reduce.l0 k a0 t489 t492 (wrap64 ((t489.length : Int) - 1)) (wrap64 ((t492.length : Int) - 1))) = some (r1, r2) := H
 have A4 := Aside0.mk A40
 clear A40
 have H' := Aside0.mk H
 clear H
 go_enter Try.func252, Try.ntmps252
 go_wp2_with (first | ((with_reducible refine gate_dst (N := 4) rfl ?_); (try (refine gate_guard (by rfl) ?_; dsimp only)); refine box_event ?hg (N := 4) ?hd (cs := #[.int .i64 0, .slice none 0 0]) (t := 32) ?hr ?_; (case hd => rfl); (case hg => rfl); (case hr => first | (go_simp; done) | (go_simp; rfl)); intro gb488 hg w5 hbox hb; have BK488 := Aside0.mk (hbox); have GW488 := Aside0.mk ((by rw [hg]; exact (below_size tb) : w.heap.size ≤ gb488)); have GE488 := Aside0.mk ((by rw [hg]; exact (below_size tb) : w.heap.size ≤ gb488)); replace HB := Aside0.mk (below_step tb hb); clear hb hbox hg) | ((with_reducible refine gate_callee (f := 261) rfl ?_); refine goesL_ (some 14) rfl rfl Try.func261 (by kernel_rfl) rfl #[.int .i64 a0] rfl ar ?_; (with_reducible refine (spec_l01Cyclotomic.calls k a0 t489 _ A3.out).mono ?_); rintro e w6 ⟨v490, rfl, ho0, hb⟩; refine ⟨_, rfl, ?_⟩; have HO491 := Aside0.mk (Kd.R_lower ho0 (below_size tb)); replace BK488 := Aside0.mk (blk_below (kb BK488.out) hb); replace HB := Aside0.mk (below_step tb hb); (try clear hb); (try clear hb2); (try clear hk); (try clear hi); (try clear ho0)) | ((with_reducible refine gate_callee (f := 244) rfl ?_); refine goesL_ (some 16) rfl rfl Try.func244 (by kernel_rfl) rfl #[.slice A1 l1.length c1] rfl ar ?_; (with_reducible refine (spec_l01Own.calls _ _ l1 t492 _ ?side1 ?side2 A4.out).mono ?_); (case side1 => exact kC (Kd.C_below HR1.out HB.out)); (case side2 => exact HC1.out); rintro e w7 ⟨v493, rfl, ho0, hb⟩; refine ⟨_, rfl, ?_⟩; have HO494 := Aside0.mk (Kd.R_lower (Kd.R_new' ho0 (Kd.R_lt (kR HO491.out))) (below_size tb)); replace HO491 := Aside0.mk (Kd.R_elder' (kR HO491.out) (Kd.R_base ho0) hb); replace BK488 := Aside0.mk (blk_below (kb BK488.out) hb); replace HB := Aside0.mk (below_step tb hb); (try clear hb); (try clear hb2); (try clear hk); (try clear hi); (try clear ho0); obtain ⟨Ao8, co8, eo8⟩ := Kd.R_slice HO491.out; subst eo8; obtain ⟨Ao9, co9, eo9⟩ := Kd.R_slice HO494.out; subst eo9))
 go_loopg [8] k (fun kq v8 w' => ∃ (x6_1 : List Int) (x8_1 : Int), v8 = .int .i64 x8_1 ∧ Aside0 (spec_l01Reduce.l0 kq a0 t489 x6_1 (wrap64 ((t489.length : Int) - 1)) x8_1 = some (r1, r2)) ∧ Aside0 (kq ≤ k) ∧ Aside0 (Kd.R (Kd.int .i64) 2 w' w.heap.size (fun k_ => some k_ ≠ ((.slice Ao9 t492.length co9) : Value).ownBlock) (.slice Ao8 t489.length co8) t489) ∧ Aside0 (Kd.R (Kd.int .i64) 2 w' w.heap.size (fun k_ => some k_ ≠ ((.slice Ao8 t489.length co8) : Value).ownBlock) (.slice Ao9 t492.length co9) x6_1) ∧ Aside0 (w'.heap[gb488]? = some (.cells #[.int .i64 0, (.slice none 0 0)] 32 (0, 0))) ∧ Aside0 (Below w.heap.size w w'))
 case atStart => exact ⟨(t492), (wrap64 ((t492.length : Int) - 1)), (by first | rfl | (simp; done) | (simp [*]; done)), H', ⟨Nat.le_refl _⟩, ⟨by (with_reducible repeat (first | apply Kd.R_alloc | apply Kd.R_drewN | apply Kd.R_drew)); exact Kd.R_mono HO491.out (fun _ hk => hk.2)⟩, ⟨by (with_reducible repeat (first | apply Kd.R_alloc | apply Kd.R_drewN | apply Kd.R_drew)); exact Kd.R_mono HO494.out (fun _ hk => hk.2)⟩, ⟨kb BK488.out⟩, ⟨tb⟩⟩
 case round =>
  clear H'
  try clear c1
  try clear c2
  try clear p2
  try clear p6
  obtain ⟨x6_1, x8_1, rfl, HA, HK1, HO_5, HO_6, BK488, HB⟩ := hrel
  have hl6_1 := (Kd.R_reads' HO_6.out).1
  rw [hl6_1] at HO_6
  (try simp only [hl6_1])
  (try simp only [hl6_1] at BK488)
  (try simp only [hl6_1] at HO_5)
  cases gk with
  | zero => exact absurd HA.out (by simp [spec_l01Reduce.l0])
  | succ k1 =>
   have H := HA.out
   clear HA
   simp only [spec_l01Reduce.l0] at H
   by_cases c10 : x8_1 ≥ (wrap64 ((t489.length : Int) - 1))
   ·rw [if_pos c10] at H
    have c10b0 : decide ((wrap64 ((t489.length : Int) - 1)) ≤ x8_1) = true := decide_eq_true c10
    clear c10
    by_cases c11 : 0 ≤ x8_1
    ·rw [if_pos c11] at H
     have c11b0 : decide (0 ≤ x8_1) = true := decide_eq_true c11
     clear c11
     by_cases c12 : x8_1 < (x6_1.length : Int)
     ·rw [if_pos c12] at H
      have c12b0 : decide (x8_1 < (x6_1.length : Int)) = true := decide_eq_true c12
      clear c12
      have H' := Aside0.mk H
      clear H
      have p495 : 0 ≤ (x8_1 : Int) := od
      have q495 : x8_1 < (x6_1.length : Int) := od
      obtain ⟨ad495, e495, hx495_0⟩ := Kd.at_int (Kd.R_reads' HO_6.out).2.2 x8_1 p495 q495
      cases e495
      replace p495 := eq_true p495
      replace q495 := eq_true q495
      go_wp2
      (try generalize Value.pointer (some (ad495.add (x8_1 : Int).toNat)) = dp_ad495_)
      go_loopg [10] k1 (fun kq v10 w' => ∃ (x6_2 : List Int) (x10_2 : Int), v10 = .int .i64 x10_2 ∧ Aside0 (spec_l01Reduce.l1 kq a0 t489 x6_2 (wrap64 ((t489.length : Int) - 1)) x8_1 (rd x6_1 x8_1) x10_2 = some (r1, r2)) ∧ Aside0 (kq ≤ k1) ∧ Aside0 (Kd.R (Kd.int .i64) 2 w' w.heap.size (fun k_ => some k_ ≠ ((.slice (some ad495) x6_1.length co9) : Value).ownBlock) (.slice Ao8 t489.length co8) t489) ∧ Aside0 (Kd.R (Kd.int .i64) 2 w' w.heap.size (fun k_ => some k_ ≠ ((.slice Ao8 t489.length co8) : Value).ownBlock) (.slice (some ad495) x6_1.length co9) x6_2) ∧ Aside0 (w'.heap[gb488]? = some (.cells #[.int .i64 0, (.slice none 0 0)] 32 (0, 0))) ∧ Aside0 (Below w.heap.size w w'))
      case atStart => exact ⟨(x6_1), (0), (by first | rfl | (simp; done) | (simp [*]; done)), H', ⟨Nat.le_refl _⟩, ⟨by (try simp only [hl6_1]); (with_reducible repeat (first | apply Kd.R_alloc | apply Kd.R_drewN | apply Kd.R_drew)); exact HO_5.out⟩, ⟨by (try simp only [hl6_1]); (with_reducible repeat (first | apply Kd.R_alloc | apply Kd.R_drewN | apply Kd.R_drew)); exact HO_6.out⟩, ⟨by (try simp only [hl6_1]); (with_reducible repeat (first | refine blk_drewN ?_ _ | refine blk_drew ?_ | refine blk_alloc ?_ _)); exact BK488.out⟩, ⟨tb⟩⟩
      case round =>
       clear H'
       try clear c1
       try clear c2
       try clear p2
       try clear p4
       try clear q4
       try clear hx4
       try clear p6
       try clear c10
       try clear c10b0
       try clear c11
       try clear c11b0
       try clear c12
       try clear c12b0
       try clear hx495_0
       try clear p2
       try clear p495
       try clear p6
       try clear q495
       obtain ⟨x6_2, x10_2, rfl, HA, HK2, HO_5, HO_6, BK488, HB⟩ := hrel
       have hl6_2 := (Kd.R_reads' HO_6.out).1
       rw [hl6_2] at HO_6
       (try simp only [hl6_2])
       (try simp only [hl6_2] at BK488)
       (try simp only [hl6_2] at HO_5)
       cases gk with
       | zero => exact absurd HA.out (by simp [spec_l01Reduce.l1])
       | succ k2 =>
        have H := HA.out
        clear HA
        simp only [spec_l01Reduce.l1] at H
        by_cases c13 : x10_2 ≤ (wrap64 ((t489.length : Int) - 1))
        ·rw [if_pos c13] at H
         have c13b0 : decide (x10_2 ≤ (wrap64 ((t489.length : Int) - 1))) = true := decide_eq_true c13
         clear c13
         obtain ⟨ji14, hji14⟩ : ∃ j_ : Int, (wrap64 ((wrap64 (x8_1 - (wrap64 ((t489.length : Int) - 1)))) + x10_2)) = j_ := ⟨_, rfl⟩
         replace H : (if 0 ≤ (ji14) then (if (ji14) < (x6_2.length : Int) then (if 0 ≤ x10_2 then (if x10_2 < (t489.length : Int) then (spec_l01Reduce.l1 k2 a0 t489 (x6_2.set ((ji14) : Int).toNat (wrap64 ((rd x6_2 (ji14)) - (wrap64 ((rd x6_1 x8_1) * (rd t489 x10_2)))))) (wrap64 ((t489.length : Int) - 1)) x8_1 (rd x6_1 x8_1) (wrap64 (x10_2 + 1))) else (none)) else (none)) else (none)) else (none)) = some (r1, r2) := by first | (rw [hji14] at H; exact H) | (simp only [hji14] at H ⊢; exact H)
         have hji14w : (IntKind.i64.wrap ((wrap64 (x8_1 - (wrap64 ((t489.length : Int) - 1)))) + x10_2)) = ji14 := (i64_w _).trans hji14
         by_cases c15 : 0 ≤ (ji14)
         ·rw [if_pos c15] at H
          have c15b0 : decide (0 ≤ (ji14)) = true := decide_eq_true c15
          clear c15
          by_cases c16 : (ji14) < (x6_2.length : Int)
          ·rw [if_pos c16] at H
           have c16b0 : decide ((ji14) < (x6_2.length : Int)) = true := decide_eq_true c16
           clear c16
           by_cases c17 : 0 ≤ x10_2
           ·rw [if_pos c17] at H
            have c17b0 : decide (0 ≤ x10_2) = true := decide_eq_true c17
            clear c17
            by_cases c18 : x10_2 < (t489.length : Int)
            ·rw [if_pos c18] at H
             have c18b0 : decide (x10_2 < (t489.length : Int)) = true := decide_eq_true c18
             clear c18
             obtain ⟨y498, hy498⟩ : ∃ y_ : List Int, y_ = (x6_2.set ((ji14) : Int).toNat (wrap64 ((rd x6_2 (ji14)) - (wrap64 ((rd x6_1 x8_1) * (rd t489 x10_2)))))) := ⟨_, rfl⟩
             replace H : (spec_l01Reduce.l1 k2 a0 t489 y498 (wrap64 ((t489.length : Int) - 1)) x8_1 (rd x6_1 x8_1) (wrap64 (x10_2 + 1))) = some (r1, r2) := by first | (rw [hy498]; with_reducible exact H) | (rw [hy498]; with_reducible exact (bs H :)) | with_reducible exact (bs H :) | exact H
             have Ny498 := Aside0.mk hy498
             clear hy498
             have H' := Aside0.mk H
             clear H
             try go_wp2
             replace HO_5 := Aside0.mk (Kd.R_drew HO_5.out)
             replace HO_6 := Aside0.mk (Kd.R_drew HO_6.out)
             replace BK488 := Aside0.mk (blk_drew BK488.out)
             replace HB := Aside0.mk (below_drew1 HB.out)
             have p496 : 0 ≤ ((ji14) : Int) := od
             have q496 : (ji14) < (x6_2.length : Int) := od
             obtain ⟨ad496, e496, hx496_0⟩ := Kd.at_int (Kd.R_reads' HO_6.out).2.2 (ji14) p496 q496
             obtain rfl : ad495 = ad496 := (by injection e496)
             replace p496 := eq_true p496
             replace q496 := eq_true q496
             have p497 : 0 ≤ (x10_2 : Int) := od
             have q497 : x10_2 < (t489.length : Int) := od
             obtain ⟨ad497, e497, hx497_0⟩ := Kd.at_int (Kd.R_reads' HO_5.out).2.2 x10_2 p497 q497
             cases e497
             replace p497 := eq_true p497
             replace q497 := eq_true q497
             have p19 : 0 ≤ ((ji14) : Int) := od
             have q19 : ((ji14) : Int) < ((x6_2.length : Int) : Int) := od
             obtain ⟨go19, co19, eo19, gb19, gl19, cl19, HG19⟩ := Kd.R_form HO_6.out (by omega)
             (first | cases eo19 | (injection eo19 with ea_ en_ ec_; (first | subst ea_ | (injection ea_ with ea_; subst ea_)); subst ec_; clear en_))
             have GB19 := Aside0.mk gb19
             have GG19 := Aside0.mk HG19
             clear gb19 gl19 HG19
             (first | simp only [add_plain] at hx495_0 | skip)
             (first | simp only [add_plain] at hx496_0 | skip)
             obtain ⟨hx19_0, hf19_0⟩ := Kd.R_celln 0 HO_6.out ((ji14) : Int) p19 q19
             replace p19 := eq_true p19
             replace q19 := eq_true q19
             have HP21 := Kd.R_putn HO_6.out ((ji14) : Int) (wrap64 ((rd x6_2 (ji14)) - (wrap64 ((rd x6_1 x8_1) * (rd t489 x10_2)))))
             rw [← Ny498.out] at HP21
             have HQ21 := Aside0.mk HP21
             clear HP21
             refine start_ (n := 23) (S := fun w' => w'.cell? ⟨go19, ((ji14)).toNat, none⟩ = some (.int .i64 (rd x6_2 (ji14))) ∧ w'.cell? (ad497.add (x10_2).toNat) = some (.int .i64 (rd t489 x10_2))) (ds := [22]) #[false, false, false, false, false, false, false, false, false, false, false, false, false, false, false, false, false, false, false, false, false, false, false] (by kernel_rfl) rfl rfl ⟨hx496_0, hx497_0⟩ (fun hHeld => ?_); refine with_tabW spec_l01Reduce.tab10 spec_l01Reduce.bits10 (fun HT_ HW_ => ?_)
             generalize wr.drew = w20 at HO_5 HO_6 BK488 HB GG19 HQ21 hf19_0 hx19_0 hx496_0 hx497_0 hHeld ⊢
             refine pu 0 (some 37) #[true, false, false, false, false, false, false, false, false, false, false, false, false, false, false, false, false, false, false, false, false, false, false] ?_
             refine pu 1 (some 38) #[true, true, false, false, false, false, false, false, false, false, false, false, false, false, false, false, false, false, false, false, false, false, false] ?_
             refine pu 2 (some 39) #[true, true, true, false, false, false, false, false, false, false, false, false, false, false, false, false, false, false, false, false, false, false, false] ?_
             refine pu 3 (some 40) #[true, true, true, true, false, false, false, false, false, false, false, false, false, false, false, false, false, false, false, false, false, false, false] ?_
             refine pu 4 (some 41) #[true, true, true, true, true, false, false, false, false, false, false, false, false, false, false, false, false, false, false, false, false, false, false] ?_
             refine pu 5 (some 42) #[true, true, true, true, true, true, false, false, false, false, false, false, false, false, false, false, false, false, false, false, false, false, false] ?_
             refine pu 6 (some 43) #[true, true, true, true, true, true, true, false, false, false, false, false, false, false, false, false, false, false, false, false, false, false, false] ?_
             refine pu 7 (some 44) #[true, true, true, true, true, true, true, true, false, false, false, false, false, false, false, false, false, false, false, false, false, false, false] ?_
             refine pu 8 (some 45) #[true, true, true, true, true, true, true, true, true, false, false, false, false, false, false, false, false, false, false, false, false, false, false] ?_
             refine pu 9 (some 46) #[true, true, true, true, true, true, true, true, true, true, false, false, false, false, false, false, false, false, false, false, false, false, false] ?_
             refine pu 10 (some 47) #[true, true, true, true, true, true, true, true, true, true, true, false, false, false, false, false, false, false, false, false, false, false, false] ?_
             refine pu 11 (some 48) #[true, true, true, true, true, true, true, true, true, true, true, true, false, false, false, false, false, false, false, false, false, false, false] ?_
             refine pu 12 (some 49) #[true, true, true, true, true, true, true, true, true, true, true, true, true, false, false, false, false, false, false, false, false, false, false] ?_
             refine pu 14 (some 51) #[true, true, true, true, true, true, true, true, true, true, true, true, true, false, true, false, false, false, false, false, false, false, false] ?_
             refine pu 15 (some 52) #[true, true, true, true, true, true, true, true, true, true, true, true, true, false, true, true, false, false, false, false, false, false, false] ?_
             refine pu 16 (some 53) #[true, true, true, true, true, true, true, true, true, true, true, true, true, false, true, true, true, false, false, false, false, false, false] ?_
             refine pu 17 (some 54) #[true, true, true, true, true, true, true, true, true, true, true, true, true, false, true, true, true, true, false, false, false, false, false] ?_
             refine tk 13 (some 50) #[true, true, true, true, true, true, true, true, true, true, true, true, true, true, true, true, true, true, false, false, false, false, false] hHeld ?_
             refine tk 18 (some 55) #[true, true, true, true, true, true, true, true, true, true, true, true, true, true, true, true, true, true, true, false, false, false, false] hHeld ?_
             refine pu 19 (some 56) #[true, true, true, true, true, true, true, true, true, true, true, true, true, true, true, true, true, true, true, true, false, false, false] ?_
             refine pu 20 (some 57) #[true, true, true, true, true, true, true, true, true, true, true, true, true, true, true, true, true, true, true, true, true, false, false] ?_
             refine pu 21 (some 58) #[true, true, true, true, true, true, true, true, true, true, true, true, true, true, true, true, true, true, true, true, true, true, false] ?_
             refine last_ (i := 22) (N := none) #[true, true, true, true, true, true, true, true, true, true, true, true, true, true, true, true, true, true, true, true, true, true, true] rfl rfl (one_of HT_.out (by kernel_rfl)) (by decide) (fun K hK => ?_)
             refine skip_ (w1 := ?_) (by rfl) rfl ?_ ?_
             rotate_left
             ·go_simp
              rfl
             refine hK.out _ _ ?_
             clear hK K
             refine done_ (done_of HT_.out (by kernel_rfl)) ?_
             try go_wp2
             (try simp only [← hl6_2])
             go_roundg k2
             case measure => have := HK1.out; have := HK2.out; omega
             case rel => exact ⟨(y498), (wrap64 (x10_2 + 1)), (by first | rfl | (simp; done) | (simp [*]; done)), H', ⟨by have := HK1.out; have := HK2.out; omega⟩, ⟨by (try simp only [hl6_1]); (try simp only [hl6_2]); (with_reducible repeat (first | apply Kd.R_alloc | apply Kd.R_drewN | apply Kd.R_drew)); exact Kd.R_mono (Kd.R_far (p := ⟨go19, ((ji14) : Int).toNat, none⟩) (Kd.R_mono HO_5.out (fun k_ hk => (⟨hk, fun e_ => hk (by rw [e_]; rfl)⟩ : _ ∧ k_ ≠ go19))) (fun _ hk => hk.2) (.int .i64 (wrap64 ((rd x6_2 (ji14)) - (wrap64 ((rd x6_1 x8_1) * (rd t489 x10_2))))))) (fun _ hk => hk.1)⟩, ⟨by (try simp only [hl6_1]); (try simp only [hl6_2]); (with_reducible repeat (first | apply Kd.R_alloc | apply Kd.R_drewN | apply Kd.R_drew)); exact HQ21.out⟩, ⟨by (try simp only [hl6_1]); (try simp only [hl6_2]); (with_reducible repeat (first | refine blk_drewN ?_ _ | refine blk_drew ?_ | refine blk_alloc ?_ _)); refine blk_far ?_ (by have h_ := Kd.R_ne HO_6.out BK488.out (by decide); intro e_; exact h_ (by rw [e_]; rfl)) _; (with_reducible repeat (first | refine blk_drewN ?_ _ | refine blk_drew ?_ | refine blk_alloc ?_ _)); exact BK488.out⟩, ⟨tb⟩⟩
            ·rw [if_neg c18] at H
             exact absurd H (by simp)
           ·rw [if_neg c17] at H
            exact absurd H (by simp)
          ·rw [if_neg c16] at H
           exact absurd H (by simp)
         ·rw [if_neg c15] at H
          exact absurd H (by simp)
        ·rw [if_neg c13] at H
         have c13b0 : decide (x10_2 ≤ (wrap64 ((t489.length : Int) - 1))) = false := decide_eq_false c13
         (try (have c13b0_hl6_1 := c13b0; simp only [hl6_1] at c13b0_hl6_1))
         (try (have c13b0_hl6_1_ := c13b0; simp only [← hl6_1] at c13b0_hl6_1_))
         (try (have c13b0_hl6_2 := c13b0; simp only [hl6_2] at c13b0_hl6_2))
         (try (have c13b0_hl6_2_ := c13b0; simp only [← hl6_2] at c13b0_hl6_2_))
         clear c13
         have H' := Aside0.mk H
         clear H
         go_wp2
         (try simp only [← hl6_1, ← hl6_2])
         go_roundg k2
         case measure => have := HK1.out; have := HK2.out; omega
         case rel => exact ⟨(x6_2), (wrap64 (x8_1 - 1)), (by first | rfl | (simp; done) | (simp [*]; done)), H', ⟨by have := HK1.out; have := HK2.out; omega⟩, ⟨by (try simp only [hl6_1]); (try simp only [hl6_2]); (with_reducible repeat (first | apply Kd.R_alloc | apply Kd.R_drewN | apply Kd.R_drew)); exact HO_5.out⟩, ⟨by (try simp only [hl6_1]); (try simp only [hl6_2]); (with_reducible repeat (first | apply Kd.R_alloc | apply Kd.R_drewN | apply Kd.R_drew)); exact HO_6.out⟩, ⟨by (try simp only [hl6_1]); (try simp only [hl6_2]); (with_reducible repeat (first | refine blk_drewN ?_ _ | refine blk_drew ?_ | refine blk_alloc ?_ _)); exact BK488.out⟩, ⟨tb⟩⟩
     ·rw [if_neg c12] at H
      exact absurd H (by simp)
    ·rw [if_neg c11] at H
     exact absurd H (by simp)
   ·rw [if_neg c10] at H
    have c10b0 : decide ((wrap64 ((t489.length : Int) - 1)) ≤ x8_1) = false := decide_eq_false c10
    (try (have c10b0_hl6_1 := c10b0; simp only [hl6_1] at c10b0_hl6_1))
    (try (have c10b0_hl6_1_ := c10b0; simp only [← hl6_1] at c10b0_hl6_1_))
    clear c10
    replace H := Option.bind_eq_some_iff.mp H
    obtain ⟨⟨t499, t500⟩, A220, H⟩ := H
    replace H : (spec_l01Reduce.l2 k1 x6_1 (wrap64 ((t489.length : Int) - 1)) 0 t499 t500) = some (r1, r2) := H
    have A22 := Aside0.mk A220
    clear A220
    have H' := Aside0.mk H
    clear H
    go_wp2_with (first | ((with_reducible refine gate_callee (f := 212) rfl ?_); refine goesL_ (some 60) rfl rfl Try.func212 (by kernel_rfl) rfl #[.int .i64 a0] rfl ar ?_; (with_reducible refine (spec_l01Zero.calls k1 a0 t499 t500 _ A22.out).mono ?_); rintro e w23 ⟨v501, rfl, ho0, hb⟩; refine ⟨_, rfl, ?_⟩; have HO502 := Aside0.mk (Kd.R_lower (Kd.R_new' (Kd.R_new' ho0 (Kd.R_lt (kR HO_5.out))) (Kd.R_lt (kR HO_6.out))) (below_size tb)); replace HO_5 := Aside0.mk (Kd.R_elder' (kR HO_5.out) (Kd.R_base ho0) hb); replace HO_6 := Aside0.mk (Kd.R_elder' (kR HO_6.out) (Kd.R_base ho0) hb); replace BK488 := Aside0.mk (blk_below (kb BK488.out) hb); replace HB := Aside0.mk (below_step tb hb); (try clear hb); (try clear hb2); (try clear hk); (try clear hi); (try clear ho0)) | ((with_reducible refine gate_dst (N := 11) rfl ?_); (try (refine gate_guard (by rfl) ?_; dsimp only)); refine box_event ?hg (N := 11) ?hd (cs := #[.int .i64 0, .slice none 0 0]) (t := 32) ?hr ?_; (case hd => rfl); (case hg => rfl); (case hr => first | (go_simp; done) | (go_simp; rfl)); intro gb503 hg w24 hbox hb; replace HO_5 := Aside0.mk (Kd.R_below (kR HO_5.out) hb); replace HO_6 := Aside0.mk (Kd.R_below (kR HO_6.out) hb); replace HO502 := Aside0.mk (Kd.R_below (kR HO502.out) hb); have BK503 := Aside0.mk (hbox); have GW503 := Aside0.mk ((by rw [hg]; exact (below_size tb) : w.heap.size ≤ gb503)); have GE503 := Aside0.mk ((by rw [hg]; exact (below_size tb) : w.heap.size ≤ gb503)); replace HB := Aside0.mk (below_step tb hb); have NB488_503 := Aside0.mk ((by rw [hg]; exact Nat.ne_of_lt (blk_lt (kb BK488.out)) : gb488 ≠ gb503)); have NB503_488 := Aside0.mk ((by rw [hg]; exact Nat.ne_of_gt (blk_lt (kb BK488.out)) : gb503 ≠ gb488)); replace BK488 := Aside0.mk (blk_below (kb BK488.out) hb); clear hb hbox hg; have hnb25 := NB503_488.out; have hnc25 := NB488_503.out; have hcz26_0 : w24.cell? ⟨gb503, 0, none⟩ = some (.int .i64 0) := (blk_cell BK503.out 0).trans rfl; have hcz26_1 : w24.cell? ⟨gb503, 1, none⟩ = some (.slice none 0 0) := (blk_cell BK503.out 1).trans rfl; have hfz26_0 := blk_frozen BK503.out 0; have hfz26_1 := blk_frozen BK503.out 1; obtain ⟨Ao27, co27, eo27⟩ := Kd.R_slice HO502.out; subst eo27))
    go_loopg [12] k1 (fun kq v12 w' => ∃ (x6_2 : List Int) (x12_2 : Int) (x504001_2 : List Int) (u504001 : Value), v12 = .int .i64 x12_2 ∧ Aside0 (spec_l01Reduce.l2 kq x6_2 (wrap64 ((t489.length : Int) - 1)) x12_2 t499 x504001_2 = some (r1, r2)) ∧ Aside0 (kq ≤ k1) ∧ Aside0 (Kd.R (Kd.int .i64) 2 w' w.heap.size (fun k_ => some k_ ≠ (u504001 : Value).ownBlock) (.slice Ao9 x6_1.length co9) x6_2) ∧ Aside0 (Kd.R (Kd.int .i64) 2 w' w.heap.size (fun k_ => some k_ ≠ ((.slice Ao9 x6_1.length co9) : Value).ownBlock) u504001 x504001_2) ∧ Aside0 (w'.heap[gb488]? = some (.cells #[.int .i64 0, (.slice none 0 0)] 32 (0, 0))) ∧ Aside0 (w'.heap[gb503]? = some (.cells #[.int .i64 t499, u504001] 32 (0, 0))) ∧ Aside0 (Below w.heap.size w w'))
    case atStart => exact ⟨(x6_1), (0), (t500), (.slice Ao27 t500.length co27), (by first | rfl | (simp; done) | (simp [*]; done)), H', ⟨Nat.le_refl _⟩, ⟨by (try simp only [hl6_1]); (with_reducible repeat (first | apply Kd.R_alloc | apply Kd.R_drewN | apply Kd.R_drew)); exact Kd.R_mono (Kd.R_far (p := ⟨gb503, 1, none⟩) (Kd.R_far (p := ⟨gb503, 0, none⟩) (Kd.R_types HO_6.out BK503.out (by decide)) (fun _ hk => hk.2) (.int .i64 t499)) (fun _ hk => hk.2) (.slice Ao27 t500.length co27)) (fun _ hk => hk.1.2)⟩, ⟨by (try simp only [hl6_1]); (with_reducible repeat (first | apply Kd.R_alloc | apply Kd.R_drewN | apply Kd.R_drew)); exact Kd.R_mono (Kd.R_far (p := ⟨gb503, 1, none⟩) (Kd.R_far (p := ⟨gb503, 0, none⟩) (Kd.R_types HO502.out BK503.out (by decide)) (fun _ hk => hk.2) (.int .i64 t499)) (fun _ hk => hk.2) (.slice Ao27 t500.length co27)) (fun _ hk => hk.1.2)⟩, ⟨by (try simp only [hl6_1]); (with_reducible repeat (first | refine blk_drewN ?_ _ | refine blk_drew ?_ | refine blk_alloc ?_ _)); refine blk_far ?_ NB488_503.out _; (with_reducible repeat (first | refine blk_drewN ?_ _ | refine blk_drew ?_ | refine blk_alloc ?_ _)); refine blk_far ?_ NB488_503.out _; (with_reducible repeat (first | refine blk_drewN ?_ _ | refine blk_drew ?_ | refine blk_alloc ?_ _)); exact BK488.out⟩, ⟨by (try simp only [hl6_1]); (with_reducible repeat (first | refine blk_drewN ?_ _ | refine blk_drew ?_ | refine blk_alloc ?_ _)); refine blk_put (cs := #[.int .i64 t499, .slice none 0 0]) ?_ 1 _ rfl; (with_reducible repeat (first | refine blk_drewN ?_ _ | refine blk_drew ?_ | refine blk_alloc ?_ _)); refine blk_put (cs := #[.int .i64 0, .slice none 0 0]) ?_ 0 _ rfl; (with_reducible repeat (first | refine blk_drewN ?_ _ | refine blk_drew ?_ | refine blk_alloc ?_ _)); exact BK503.out⟩, ⟨tb⟩⟩
    case round =>
     clear H'
     try clear c1
     try clear p1
     try clear q1
     try clear hx1
     try clear c2
     try clear p2
     try clear p4
     try clear q4
     try clear hx4
     try clear p6
     try clear c10
     try clear c10b0
     try clear c11
     try clear c11b0
     try clear c12
     try clear c12b0
     try clear c13
     try clear c13b0
     try clear c15
     try clear c15b0
     try clear c16
     try clear c16b0
     try clear c17
     try clear c17b0
     try clear c18
     try clear c18b0
     try clear p19
     try clear q19
     try clear hx19
     try clear hf19
     try clear c21
     try clear c24
     try clear c25
     try clear c26
     try clear hcz26_0
     try clear hcz26_1
     try clear hfz26_0
     try clear hfz26_1
     try clear hx19_0
     try clear hx495_0
     try clear hx496_0
     try clear hx497_0
     try clear p19
     try clear p2
     try clear p4
     try clear p495
     try clear p496
     try clear p497
     try clear p6
     try clear q19
     try clear q4
     try clear q495
     try clear q496
     try clear q497
     obtain ⟨x6_2, x12_2, x504001_2, u504001, rfl, HA, HK2, HO_6, HO_504001, BK488, BK503, HB⟩ := hrel
     have hl6_2 := (Kd.R_reads' HO_6.out).1
     rw [hl6_2] at HO_6
     (try simp only [hl6_2])
     (try simp only [hl6_2] at BK488)
     (try simp only [hl6_2] at BK503)
     (try simp only [hl6_2] at HO_504001)
     cases gk with
     | zero => exact absurd HA.out (by simp [spec_l01Reduce.l2])
     | succ k2 =>
      have H := HA.out
      clear HA
      simp only [spec_l01Reduce.l2] at H
      by_cases c28 : x12_2 < (wrap64 ((t489.length : Int) - 1))
      ·rw [if_pos c28] at H
       have c28b0 : decide (x12_2 < (wrap64 ((t489.length : Int) - 1))) = true := decide_eq_true c28
       clear c28
       by_cases c29 : x12_2 < (x6_2.length : Int)
       ·rw [if_pos c29] at H
        have c29b0 : decide (x12_2 < (x6_2.length : Int)) = true := decide_eq_true c29
        clear c29
        by_cases c30 : 0 ≤ x12_2
        ·rw [if_pos c30] at H
         have c30b0 : decide (0 ≤ x12_2) = true := decide_eq_true c30
         clear c30
         by_cases c31 : x12_2 < (x504001_2.length : Int)
         ·rw [if_pos c31] at H
          have c31b0 : decide (x12_2 < (x504001_2.length : Int)) = true := decide_eq_true c31
          clear c31
          obtain ⟨y505, hy505⟩ : ∃ y_ : List Int, y_ = (x504001_2.set (x12_2 : Int).toNat (rd x6_2 x12_2)) := ⟨_, rfl⟩
          replace H : (spec_l01Reduce.l2 k2 x6_2 (wrap64 ((t489.length : Int) - 1)) (wrap64 (x12_2 + 1)) t499 y505) = some (r1, r2) := by first | (rw [hy505]; with_reducible exact H) | (rw [hy505]; with_reducible exact (bs H :)) | with_reducible exact (bs H :) | exact H
          have Ny505 := Aside0.mk hy505
          clear hy505
          have H' := Aside0.mk H
          clear H
          try go_wp2
          replace HO_6 := Aside0.mk (Kd.R_drew HO_6.out)
          replace HO_504001 := Aside0.mk (Kd.R_drew HO_504001.out)
          replace BK488 := Aside0.mk (blk_drew BK488.out)
          replace BK503 := Aside0.mk (blk_drew BK503.out)
          replace HB := Aside0.mk (below_drew1 HB.out)
          have p504 : 0 ≤ (x12_2 : Int) := od
          have q504 : x12_2 < (x6_2.length : Int) := od
          obtain ⟨ad504, e504, hx504_0⟩ := Kd.at_int (Kd.R_reads' HO_6.out).2.2 x12_2 p504 q504
          cases e504
          replace p504 := eq_true p504
          replace q504 := eq_true q504
          have p32 : 0 ≤ (x12_2 : Int) := od
          have q32 : (x12_2 : Int) < ((x504001_2.length : Int) : Int) := od
          obtain ⟨go32, co32, eo32, gb32, gl32, cl32, HG32⟩ := Kd.R_form HO_504001.out (by omega)
          (first | cases eo32 | (injection eo32 with ea_ en_ ec_; (first | subst ea_ | (injection ea_ with ea_; subst ea_)); subst ec_; clear en_))
          have GB32 := Aside0.mk gb32
          have GG32 := Aside0.mk HG32
          clear gb32 gl32 HG32
          obtain ⟨hx32_0, hf32_0⟩ := Kd.R_celln 0 HO_504001.out (x12_2 : Int) p32 q32
          replace p32 := eq_true p32
          replace q32 := eq_true q32
          have HP34 := Kd.R_putn HO_504001.out (x12_2 : Int) (rd x6_2 x12_2)
          rw [← Ny505.out] at HP34
          have HQ34 := Aside0.mk HP34
          clear HP34
          refine start_ (n := 9) (S := fun w' => w'.cell? ⟨gb503, 0, none⟩ = some (.int .i64 t499) ∧ w'.cell? ⟨gb503, 1, none⟩ = some (.slice (some ⟨go32, 0, none⟩) x504001_2.length co32) ∧ w'.cell? (ad504.add (x12_2).toNat) = some (.int .i64 (rd x6_2 x12_2))) (ds := [8]) #[false, false, false, false, false, false, false, false, false] (by kernel_rfl) rfl rfl ⟨(blk_cell BK503.out 0).trans rfl, (blk_cell BK503.out 1).trans rfl, hx504_0⟩ (fun hHeld => ?_); refine with_tabW spec_l01Reduce.tab15 spec_l01Reduce.bits15 (fun HT_ HW_ => ?_)
          generalize wr.drew = w33 at HO_6 HO_504001 BK488 BK503 HB GG32 HQ34 hf32_0 hx32_0 hx504_0 hHeld ⊢
          refine pu 0 (some 72) #[true, false, false, false, false, false, false, false, false] ?_
          refine pu 2 (some 74) #[true, false, true, false, false, false, false, false, false] ?_
          refine pu 3 (some 75) #[true, false, true, true, false, false, false, false, false] ?_
          refine pu 4 (some 76) #[true, false, true, true, true, false, false, false, false] ?_
          refine pu 5 (some 77) #[true, false, true, true, true, true, false, false, false] ?_
          refine tk 1 (some 73) #[true, true, true, true, true, true, false, false, false] hHeld ?_
          refine tk 6 (some 78) #[true, true, true, true, true, true, true, false, false] hHeld ?_
          refine pu 7 (some 79) #[true, true, true, true, true, true, true, true, false] ?_
          refine last_ (i := 8) (N := none) #[true, true, true, true, true, true, true, true, true] rfl rfl (one_of HT_.out (by kernel_rfl)) (by decide) (fun K hK => ?_)
          refine skip_ (w1 := ?_) (by rfl) rfl ?_ ?_
          rotate_left
          ·go_simp
           rfl
          refine hK.out _ _ ?_
          clear hK K
          refine done_ (done_of HT_.out (by kernel_rfl)) ?_
          try go_wp2
          (try simp only [← hl6_2])
          go_roundg k2
          case measure => have := HK1.out; have := HK2.out; omega
          case rel => exact ⟨(x6_2), (wrap64 (x12_2 + 1)), (y505), (.slice (some ⟨go32, 0, none⟩) x504001_2.length co32), (by first | rfl | (simp; done) | (simp [*]; done)), H', ⟨by have := HK1.out; have := HK2.out; omega⟩, ⟨by (try simp only [hl6_1]); (try simp only [hl6_2]); (with_reducible repeat (first | apply Kd.R_alloc | apply Kd.R_drewN | apply Kd.R_drew)); exact Kd.R_mono (Kd.R_far (p := ⟨go32, (x12_2 : Int).toNat, none⟩) (Kd.R_mono HO_6.out (fun k_ hk => (⟨hk, fun e_ => hk (by rw [e_]; rfl)⟩ : _ ∧ k_ ≠ go32))) (fun _ hk => hk.2) (.int .i64 (rd x6_2 x12_2))) (fun _ hk => hk.1)⟩, ⟨by (try simp only [hl6_1]); (try simp only [hl6_2]); (with_reducible repeat (first | apply Kd.R_alloc | apply Kd.R_drewN | apply Kd.R_drew)); exact HQ34.out⟩, ⟨by (try simp only [hl6_1]); (try simp only [hl6_2]); (with_reducible repeat (first | refine blk_drewN ?_ _ | refine blk_drew ?_ | refine blk_alloc ?_ _)); refine blk_far ?_ (by have h_ := Kd.R_ne HO_504001.out BK488.out (by decide); intro e_; exact h_ (by rw [e_]; rfl)) _; (with_reducible repeat (first | refine blk_drewN ?_ _ | refine blk_drew ?_ | refine blk_alloc ?_ _)); exact BK488.out⟩, ⟨by (try simp only [hl6_1]); (try simp only [hl6_2]); (with_reducible repeat (first | refine blk_drewN ?_ _ | refine blk_drew ?_ | refine blk_alloc ?_ _)); refine blk_far ?_ (by have h_ := Kd.R_ne HO_504001.out BK503.out (by decide); intro e_; exact h_ (by rw [e_]; rfl)) _; (with_reducible repeat (first | refine blk_drewN ?_ _ | refine blk_drew ?_ | refine blk_alloc ?_ _)); exact BK503.out⟩, ⟨tb⟩⟩
         ·rw [if_neg c31] at H
          exact absurd H (by simp)
        ·rw [if_neg c30] at H
         exact absurd H (by simp)
       ·rw [if_neg c29] at H
        have c29b0 : decide (x12_2 < (x6_2.length : Int)) = false := decide_eq_false c29
        (try (have c29b0_hl6_1 := c29b0; simp only [hl6_1] at c29b0_hl6_1))
        (try (have c29b0_hl6_1_ := c29b0; simp only [← hl6_1] at c29b0_hl6_1_))
        (try (have c29b0_hl6_2 := c29b0; simp only [hl6_2] at c29b0_hl6_2))
        (try (have c29b0_hl6_2_ := c29b0; simp only [← hl6_2] at c29b0_hl6_2_))
        clear c29
        simp only [Option.some.injEq, Prod.mk.injEq] at H
        obtain ⟨rfl, rfl⟩ := H
        have hnb35 := NB503_488.out
        have hnc35 := NB488_503.out
        have hcz36_0 : wr.cell? ⟨gb503, 0, none⟩ = some (.int .i64 t499) := (blk_cell BK503.out 0).trans rfl
        have hcz36_1 : wr.cell? ⟨gb503, 1, none⟩ = some (u504001) := (blk_cell BK503.out 1).trans rfl
        have hfz36_0 := blk_frozen BK503.out 0
        have hfz36_1 := blk_frozen BK503.out 1
        have hcz37_0 : wr.cell? ⟨gb488, 0, none⟩ = some (.int .i64 0) := (blk_cell BK488.out 0).trans rfl
        have hcz37_1 : wr.cell? ⟨gb488, 1, none⟩ = some (.slice none 0 0) := (blk_cell BK488.out 1).trans rfl
        have hfz37_0 := blk_frozen BK488.out 0
        have hfz37_1 := blk_frozen BK488.out 1
        obtain ⟨Ao38, co38, eo38⟩ := Kd.R_slice HO_504001.out
        subst eo38
        go_wp2
        refine bodyPost_ret (results_cell_row rfl _ _ gb488 32 #[.int .i64 t499, .slice Ao38 x504001_2.length co38] (0, 0) _ rfl (by (with_reducible repeat (first | refine blk_drewN ?_ _ | refine blk_drew ?_ | refine blk_alloc ?_ _)); refine blk_put (cs := #[.int .i64 t499, .slice none 0 0]) ?_ 1 _ rfl; (with_reducible repeat (first | refine blk_drewN ?_ _ | refine blk_drew ?_ | refine blk_alloc ?_ _)); refine blk_put (cs := #[.int .i64 0, .slice none 0 0]) ?_ 0 _ rfl; (with_reducible repeat (first | refine blk_drewN ?_ _ | refine blk_drew ?_ | refine blk_alloc ?_ _)); exact BK488.out) Try.underlying32 rfl (by kernel_rfl)) rfl ?_
        exact ⟨_, by first | rfl | (simp [errW_none, errW_some] <;> rfl) | (simp [*, errW_none, errW_some] <;> rfl), by (with_reducible repeat (first | apply Kd.R_alloc | apply Kd.R_drewN | apply Kd.R_drew)); exact Kd.R_mono (Kd.R_far (p := ⟨gb488, 1, none⟩) (Kd.R_far (p := ⟨gb488, 0, none⟩) (Kd.R_types HO_504001.out BK488.out (by decide)) (fun _ hk => hk.2) (.int .i64 t499)) (fun _ hk => hk.2) (.slice Ao38 x504001_2.length co38)) (fun _ hk => trivial), tb⟩
      ·rw [if_neg c28] at H
       have c28b0 : decide (x12_2 < (wrap64 ((t489.length : Int) - 1))) = false := decide_eq_false c28
       (try (have c28b0_hl6_1 := c28b0; simp only [hl6_1] at c28b0_hl6_1))
       (try (have c28b0_hl6_1_ := c28b0; simp only [← hl6_1] at c28b0_hl6_1_))
       (try (have c28b0_hl6_2 := c28b0; simp only [hl6_2] at c28b0_hl6_2))
       (try (have c28b0_hl6_2_ := c28b0; simp only [← hl6_2] at c28b0_hl6_2_))
       clear c28
       simp only [Option.some.injEq, Prod.mk.injEq] at H
       obtain ⟨rfl, rfl⟩ := H
       have hnb39 := NB503_488.out
       have hnc39 := NB488_503.out
       have hcz40_0 : wr.cell? ⟨gb503, 0, none⟩ = some (.int .i64 t499) := (blk_cell BK503.out 0).trans rfl
       have hcz40_1 : wr.cell? ⟨gb503, 1, none⟩ = some (u504001) := (blk_cell BK503.out 1).trans rfl
       have hfz40_0 := blk_frozen BK503.out 0
       have hfz40_1 := blk_frozen BK503.out 1
       have hcz41_0 : wr.cell? ⟨gb488, 0, none⟩ = some (.int .i64 0) := (blk_cell BK488.out 0).trans rfl
       have hcz41_1 : wr.cell? ⟨gb488, 1, none⟩ = some (.slice none 0 0) := (blk_cell BK488.out 1).trans rfl
       have hfz41_0 := blk_frozen BK488.out 0
       have hfz41_1 := blk_frozen BK488.out 1
       obtain ⟨Ao42, co42, eo42⟩ := Kd.R_slice HO_504001.out
       subst eo42
       go_wp2
       refine bodyPost_ret (results_cell_row rfl _ _ gb488 32 #[.int .i64 t499, .slice Ao42 x504001_2.length co42] (0, 0) _ rfl (by (with_reducible repeat (first | refine blk_drewN ?_ _ | refine blk_drew ?_ | refine blk_alloc ?_ _)); refine blk_put (cs := #[.int .i64 t499, .slice none 0 0]) ?_ 1 _ rfl; (with_reducible repeat (first | refine blk_drewN ?_ _ | refine blk_drew ?_ | refine blk_alloc ?_ _)); refine blk_put (cs := #[.int .i64 0, .slice none 0 0]) ?_ 0 _ rfl; (with_reducible repeat (first | refine blk_drewN ?_ _ | refine blk_drew ?_ | refine blk_alloc ?_ _)); exact BK488.out) Try.underlying32 rfl (by kernel_rfl)) rfl ?_
       exact ⟨_, by first | rfl | (simp [errW_none, errW_some] <;> rfl) | (simp [*, errW_none, errW_some] <;> rfl), by (with_reducible repeat (first | apply Kd.R_alloc | apply Kd.R_drewN | apply Kd.R_drew)); exact Kd.R_mono (Kd.R_far (p := ⟨gb488, 1, none⟩) (Kd.R_far (p := ⟨gb488, 0, none⟩) (Kd.R_types HO_504001.out BK488.out (by decide)) (fun _ hk => hk.2) (.int .i64 t499)) (fun _ hk => hk.2) (.slice Ao42 x504001_2.length co42)) (fun _ hk => trivial), tb⟩

/-! ### spec_l01Unit: function 192 -/
def spec_l01Unit.f (k : Nat) (a0 : Int) (a1 : Int) : Option (Int × List Int) := if a0 = 0 then (none) else (if 0 ≤ (wrap64 ((Int.tmod (wrap64 ((Int.tmod a1 a0) + a0)) a0) + 1)) then (if (wrap64 ((Int.tmod (wrap64 ((Int.tmod a1 a0) + a0)) a0) + 1) : Int).toNat ≤ 35184372088832 then ((some (List.replicate (wrap64 ((Int.tmod (wrap64 ((Int.tmod a1 a0) + a0)) a0) + 1) : Int).toNat 0 : List Int)).bind fun y507 => (if 0 ≤ (Int.tmod (wrap64 ((Int.tmod a1 a0) + a0)) a0) then (if (Int.tmod (wrap64 ((Int.tmod a1 a0) + a0)) a0) < (y507.length : Int) then ((spec_l01Reduce.f k a0 (y507.set ((Int.tmod (wrap64 ((Int.tmod a1 a0) + a0)) a0) : Int).toNat 1)).bind fun bt511 => (some (bt511.1, bt511.2))) else (none)) else (none))) else (none)) else (none))
set_option maxHeartbeats 8000000 in
set_option maxRecDepth 100000 in
theorem spec_l01Unit.calls (k : Nat) (a0 : Int) (a1 : Int) (r1 : Int) (r2 : List Int) (w : World) (h : spec_l01Unit.f k a0 a1 = some (r1, r2)) :
  Calls Try.prog 192 #[.int .i64 a0, .int .i64 a1] w fun e w' => ∃ v1_ : Value, e = .returned (.agg #[.int .i64 r1, v1_]) ∧ Kd.R (Kd.int .i64) 2 w' w.heap.size (fun _ => True) v1_ r2 ∧ Below w.heap.size w w' := by
 have hu32 := Try.underlying32
 have HB := Aside0.mk (Below.refl w.heap.size w)
 have H : (if a0 = 0 then (none) else (if 0 ≤ (wrap64 ((Int.tmod (wrap64 ((Int.tmod a1 a0) + a0)) a0) + 1)) then (if (wrap64 ((Int.tmod (wrap64 ((Int.tmod a1 a0) + a0)) a0) + 1) : Int).toNat ≤ 35184372088832 then ((some (List.replicate (wrap64 ((Int.tmod (wrap64 ((Int.tmod a1 a0) + a0)) a0) + 1) : Int).toNat 0 : List Int)).bind fun y507 => (if 0 ≤ (Int.tmod (wrap64 ((Int.tmod a1 a0) + a0)) a0) then (if (Int.tmod (wrap64 ((Int.tmod a1 a0) + a0)) a0) < (y507.length : Int) then ((spec_l01Reduce.f k a0 (y507.set ((Int.tmod (wrap64 ((Int.tmod a1 a0) + a0)) a0) : Int).toNat 1)).bind fun bt511 => (some (bt511.1, bt511.2))) else (none)) else (none))) else (none)) else (none))) = some (r1, r2) := h
 clear h
 by_cases c3 : a0 = 0
 ·rw [if_pos c3] at H
  exact absurd H (by simp)
 ·rw [if_neg c3] at H
  have c3b0 : (a0 == 0) = false := beq_eq_false_iff_ne.mpr c3
  have c3b1 : (a0 != 0) = true := bne_iff_ne.mpr c3
  obtain ⟨ji4, hji4⟩ : ∃ j_ : Int, (wrap64 ((Int.tmod (wrap64 ((Int.tmod a1 a0) + a0)) a0) + 1)) = j_ := ⟨_, rfl⟩
  replace H : (if 0 ≤ (ji4) then (if (ji4 : Int).toNat ≤ 35184372088832 then ((some (List.replicate (ji4 : Int).toNat 0 : List Int)).bind fun y507 => (if 0 ≤ (Int.tmod (wrap64 ((Int.tmod a1 a0) + a0)) a0) then (if (Int.tmod (wrap64 ((Int.tmod a1 a0) + a0)) a0) < (y507.length : Int) then ((spec_l01Reduce.f k a0 (y507.set ((Int.tmod (wrap64 ((Int.tmod a1 a0) + a0)) a0) : Int).toNat 1)).bind fun bt511 => (some (bt511.1, bt511.2))) else (none)) else (none))) else (none)) else (none)) = some (r1, r2) := by first | (rw [hji4] at H; exact H) | (simp only [hji4] at H ⊢; exact H)
  have hji4w : (IntKind.i64.wrap ((Int.tmod (wrap64 ((Int.tmod a1 a0) + a0)) a0) + 1)) = ji4 := (i64_w _).trans hji4
  by_cases c5 : 0 ≤ (ji4)
  ·rw [if_pos c5] at H
   have c5b0 := eq_true c5
   have c5b1 : decide (0 ≤ (ji4)) = true := decide_eq_true c5
   clear c5
   by_cases c6 : (ji4 : Int).toNat ≤ 35184372088832
   ·rw [if_pos c6] at H
    have c6b0 := eq_true c6
    have c6b1 : decide ((ji4 : Int).toNat ≤ 35184372088832) = true := decide_eq_true c6
    clear c6
    obtain ⟨y507, hy507⟩ : ∃ y_ : List Int, y_ = (List.replicate (ji4 : Int).toNat 0) := ⟨_, rfl⟩
    replace H : (if 0 ≤ (Int.tmod (wrap64 ((Int.tmod a1 a0) + a0)) a0) then (if (Int.tmod (wrap64 ((Int.tmod a1 a0) + a0)) a0) < (y507.length : Int) then ((spec_l01Reduce.f k a0 (y507.set ((Int.tmod (wrap64 ((Int.tmod a1 a0) + a0)) a0) : Int).toNat 1)).bind fun bt511 => (some (bt511.1, bt511.2))) else (none)) else (none)) = some (r1, r2) := by first | (rw [hy507]; with_reducible exact H) | (rw [hy507]; with_reducible exact (bs H :)) | with_reducible exact (bs H :) | exact H
    have Ny507 := Aside0.mk hy507
    clear hy507
    obtain ⟨ji7, hji7⟩ : ∃ j_ : Int, (Int.tmod (wrap64 ((Int.tmod a1 a0) + a0)) a0) = j_ := ⟨_, rfl⟩
    (try rw [hji7] at hji4)
    (try rw [hji7] at hji4w)
    replace H : (if 0 ≤ (ji7) then (if (ji7) < (y507.length : Int) then ((spec_l01Reduce.f k a0 (y507.set ((ji7) : Int).toNat 1)).bind fun bt511 => (some (bt511.1, bt511.2))) else (none)) else (none)) = some (r1, r2) := by first | (rw [hji7] at H; exact H) | (simp only [hji7] at H ⊢; exact H)
    by_cases c8 : 0 ≤ (ji7)
    ·rw [if_pos c8] at H
     have c8b0 : decide (0 ≤ (ji7)) = true := decide_eq_true c8
     clear c8
     by_cases c9 : (ji7) < (y507.length : Int)
     ·rw [if_pos c9] at H
      have c9b0 : decide ((ji7) < (y507.length : Int)) = true := decide_eq_true c9
      clear c9
      obtain ⟨y510, hy510⟩ : ∃ y_ : List Int, y_ = (y507.set ((ji7) : Int).toNat 1) := ⟨_, rfl⟩
      replace H : ((spec_l01Reduce.f k a0 y510).bind fun bt511 => (some (bt511.1, bt511.2))) = some (r1, r2) := by first | (rw [hy510]; with_reducible exact H) | (rw [hy510]; with_reducible exact (bs H :)) | with_reducible exact (bs H :) | exact H
      have Ny510 := Aside0.mk hy510
      clear hy510
      replace H := Option.bind_eq_some_iff.mp H
      obtain ⟨⟨t511, t512⟩, A110, H⟩ := H
      replace H : (some (t511, t512)) = some (r1, r2) := H
      have A11 := Aside0.mk A110
      clear A110
      simp only [Option.some.injEq, Prod.mk.injEq] at H
      obtain ⟨rfl, rfl⟩ := H
      go_enter Try.func192, Try.ntmps192
      go_wp2_with (first | ((with_reducible refine gate_dst (N := 4) rfl ?_); refine box_event ?hg (N := 4) ?hd (cs := #[.int .i64 0, .slice none 0 0]) (t := 32) ?hr ?_; (case hd => rfl); (case hg => rfl); (case hr => first | (go_simp; done) | (go_simp; rfl)); intro gb506 hg w12 hbox hb; have BK506 := Aside0.mk (hbox); have GW506 := Aside0.mk ((by rw [hg]; exact (below_size tb) : w.heap.size ≤ gb506)); have GE506 := Aside0.mk ((by rw [hg]; exact (below_size tb) : w.heap.size ≤ gb506)); replace HB := Aside0.mk (below_step tb hb); clear hb hbox hg) | ((with_reducible refine gate_dst (N := 15) rfl ?_); refine Kd.R_make (Kd.int .i64) _ 2 rfl (N := 15) rfl 27 _ _ rfl ji4 rfl rfl Try.underlying27 (.int .i64 0) 8 info2 rfl (by decide) (by omega) 0 (ok := fun _ => True) (okp := fun _ => True) rfl (fun _ hk => hk) trivial (od) (Nat.le_trans (Nat.mul_le_mul_right _ (od : ji4.toNat ≤ 35184372088832)) (by omega)) (Below.refl _ _) (Nat.le_refl _) ?_; intro v508 w13 ho14 hb hg_ hnew_; clear hg_ hnew_; (first | rw [← Ny507.out] at ho14 | (simp only [Int.reduceToNat] at ho14; rw [← Ny507.out] at ho14)); have HO509 := Aside0.mk (Kd.R_lower ho14 (below_size tb)); replace BK506 := Aside0.mk (blk_below (kb BK506.out) hb); replace HB := Aside0.mk (below_step tb hb); clear hb ho14; have p10 : 0 ≤ ((ji7) : Int) := od; have q10 : ((ji7) : Int) < ((y507.length : Int) : Int) := od; obtain ⟨go10, co10, eo10, gb10, gl10, cl10, HG10⟩ := Kd.R_form HO509.out (by omega); (first | cases eo10 | (injection eo10 with ea_ en_ ec_; (first | subst ea_ | (injection ea_ with ea_; subst ea_)); subst ec_; clear en_)); have GB10 := Aside0.mk gb10; have GG10 := Aside0.mk HG10; clear gb10 gl10 HG10; obtain ⟨hx10_0, hf10_0⟩ := Kd.R_celln 0 HO509.out ((ji7) : Int) p10 q10; replace p10 := eq_true p10; replace q10 := eq_true q10; obtain ⟨hy15_, hz15_⟩ := Kd.R_celln 0 HO509.out ((ji7) : Int) (od) (od); have HP15 := Kd.R_putg HO509.out ((ji7) : Int) 1) | ((with_reducible refine gate_store (t := 2) (p := 18) rfl ?_); refine store_event (t := 2) (p := 18) (v := ?vo_w16) (w1 := (w13.setCell ⟨go10, ((ji7) : Int).toNat, none⟩ (.int .i64 1))) ?hg ?ho ?hn ?hr ?_; (case ho => rfl); (case hg => rfl); (case hn => rfl); (case hr => first | (go_simp; done) | (go_simp; rfl)); intro w16 hw; have hg : w13.grownBy w16 (some go10) := (by rw [hw]; exact HP15.2); have hp_ : Kd.R (Kd.int .i64) 2 w16 w.heap.size (fun _ => True) (.slice (some ⟨go10, 0, none⟩) y507.length co10) y510 := (by rw [hw, Ny510.out]; exact HP15.1); clear HP15; replace BK506 := Aside0.mk (blk_grown (kb BK506.out) hg (Kd.R_ne HO509.out BK506.out (by decide))); replace HO509 := Aside0.mk (hp_); replace HB := Aside0.mk ((by rw [hw]; exact below_set (HB.out) GB10.out : Below w.heap.size w w16)); clear hg hw hp_) | ((with_reducible refine gate_callee (f := 252) rfl ?_); refine goesL_ (some 21) rfl rfl Try.func252 (by kernel_rfl) rfl #[.int .i64 a0, .slice (some ⟨go10, 0, none⟩) y510.length co10] rfl (by (try simp only [List.map_toArray, List.map_cons, List.map_nil]); first | done | (rw [show y510.length = y507.length from (Kd.R_reads' HO509.out).1.symm] <;> rfl) | rfl | (simp only [List.length_drop, List.length_take]; rfl)) ?_; (with_reducible refine (spec_l01Reduce.calls k a0 _ _ y510 t511 t512 _ ?side1 ?side2 A11.out).mono ?_); (case side1 => exact kC (Kd.R_reads' HO509.out).2.2); (case side2 => rw [show y510.length = y507.length from (Kd.R_reads' HO509.out).1.symm]; exact (Kd.R_reads' HO509.out).2.1); rintro e w17 ⟨v513, rfl, ho0, hb⟩; refine ⟨_, rfl, ?_⟩; have HO514 := Aside0.mk (Kd.R_lower (Kd.R_new' ho0 (Kd.R_lt (kR HO509.out))) (below_size tb)); replace HO509 := Aside0.mk (Kd.R_elder' (kR HO509.out) (Kd.R_base ho0) hb); replace BK506 := Aside0.mk (blk_below (kb BK506.out) hb); replace HB := Aside0.mk (below_step tb hb); (try clear hb); (try clear hb2); (try clear hk); (try clear hi); (try clear ho0); have hcz18_0 : w17.cell? ⟨gb506, 0, none⟩ = some (.int .i64 0) := (blk_cell BK506.out 0).trans rfl; have hcz18_1 : w17.cell? ⟨gb506, 1, none⟩ = some (.slice none 0 0) := (blk_cell BK506.out 1).trans rfl; have hfz18_0 := blk_frozen BK506.out 0; have hfz18_1 := blk_frozen BK506.out 1; obtain ⟨Ao19, co19, eo19⟩ := Kd.R_slice HO514.out; subst eo19))
      refine bodyPost_ret (results_cell_row rfl _ _ gb506 32 #[.int .i64 t511, .slice Ao19 t512.length co19] (0, 0) _ rfl (by (with_reducible repeat (first | refine blk_drewN ?_ _ | refine blk_drew ?_ | refine blk_alloc ?_ _)); refine blk_put (cs := #[.int .i64 t511, .slice none 0 0]) ?_ 1 _ rfl; (with_reducible repeat (first | refine blk_drewN ?_ _ | refine blk_drew ?_ | refine blk_alloc ?_ _)); refine blk_put (cs := #[.int .i64 0, .slice none 0 0]) ?_ 0 _ rfl; (with_reducible repeat (first | refine blk_drewN ?_ _ | refine blk_drew ?_ | refine blk_alloc ?_ _)); exact BK506.out) Try.underlying32 rfl (by kernel_rfl)) rfl ?_
      exact ⟨_, by first | rfl | (simp [errW_none, errW_some] <;> rfl) | (simp only [← hji4, ← hji7]; first | rfl | (simp [errW_none, errW_some] <;> rfl)) | (simp [*, errW_none, errW_some] <;> rfl), by (with_reducible repeat (first | apply Kd.R_alloc | apply Kd.R_drewN | apply Kd.R_drew)); exact Kd.R_mono (Kd.R_far (p := ⟨gb506, 1, none⟩) (Kd.R_far (p := ⟨gb506, 0, none⟩) (Kd.R_types HO514.out BK506.out (by decide)) (fun _ hk => hk.2) (.int .i64 t511)) (fun _ hk => hk.2) (.slice Ao19 t512.length co19)) (fun _ hk => trivial), tb⟩
     ·rw [if_neg c9] at H
      exact absurd H (by simp)
    ·rw [if_neg c8] at H
     exact absurd H (by simp)
   ·rw [if_neg c6] at H
    exact absurd H (by simp)
  ·rw [if_neg c5] at H
   exact absurd H (by simp)

end Go.Proofs.Ytgcggngleiggiaa.Pr
