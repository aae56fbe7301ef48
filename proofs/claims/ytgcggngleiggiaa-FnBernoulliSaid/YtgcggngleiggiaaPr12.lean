-- Printed by a program of this session, hand-proved contracts among it.
import Derived.Test.YtgcggngleiggiaaPr0
import Derived.Test.YtgcggngleiggiaaPr10
namespace Go.Proofs.Ytgcggngleiggiaa.Pr
open Go.RowKit Go.Proofs.YtgcggngleiggiaaW.PrintWords Go.Proofs.YtgcggngleiggiaaW.PrintLast Go.Proofs.YtgcggngleiggiaaW.PrintMore Go.Proofs.Ytgcggngleiggiaa.Sq
attribute [local go_sem] max2_int min2_int max_two min_two max_three min_three max_four min_four   -- for this text's walks alone
set_option linter.unusedVariables false
set_option linter.unusedSimpArgs false

/-! ### spec_l01Quotient: function 277 -/
mutual
def spec_l01Quotient.l0 : Nat → List Int → List Int → List Int → Int → Option (List Int)
 | 0, _, _, _, _ => none
 | k + 1, x1, x5, x7, x8 => if x8 ≥ 0 then (if 0 ≤ (wrap64 ((wrap64 (x8 + (x1.length : Int))) - 1)) then (if (wrap64 ((wrap64 (x8 + (x1.length : Int))) - 1)) < (x5.length : Int) then (if 0 ≤ x8 then (if x8 < (x7.length : Int) then (spec_l01Quotient.l1 k x1 x5 (x7.set (x8 : Int).toNat (rd x5 (wrap64 ((wrap64 (x8 + (x1.length : Int))) - 1)))) x8 0) else (none)) else (none)) else (none)) else (none)) else (some x7)
def spec_l01Quotient.l1 : Nat → List Int → List Int → List Int → Int → Int → Option (List Int)
 | 0, _, _, _, _, _ => none
 | k + 1, x1, x5, x7, x8, x9 => if x9 < (x1.length : Int) then (if 0 ≤ (wrap64 (x8 + x9)) then (if (wrap64 (x8 + x9)) < (x5.length : Int) then (if 0 ≤ x8 then (if x8 < (x7.length : Int) then (if 0 ≤ x9 then (spec_l01Quotient.l1 k x1 (x5.set ((wrap64 (x8 + x9)) : Int).toNat (wrap64 ((rd x5 (wrap64 (x8 + x9))) - (wrap64 ((rd x7 x8) * (rd x1 x9)))))) x7 x8 (wrap64 (x9 + 1))) else (none)) else (none)) else (none)) else (none)) else (none)) else (spec_l01Quotient.l0 k x1 x5 x7 (wrap64 (x8 - 1)))
end
def spec_l01Quotient.f (k : Nat) (l0 : List Int) (l1 : List Int) : Option (List Int) := (spec_l01Own.f l0).bind fun t465 => (if 0 ≤ (wrap64 ((wrap64 ((l0.length : Int) - (l1.length : Int))) + 1)) then (if (wrap64 ((wrap64 ((l0.length : Int) - (l1.length : Int))) + 1) : Int).toNat ≤ 35184372088832 then (spec_l01Quotient.l0 k l1 t465 (List.replicate (wrap64 ((wrap64 ((l0.length : Int) - (l1.length : Int))) + 1) : Int).toNat 0) (wrap64 ((l0.length : Int) - (l1.length : Int)))) else (none)) else (none))
def spec_l01Quotient.T10 : Bool × List (List Nat × List Nat) := (true, [([], []), ([], []), ([], []), ([1, 2], [1, 2]), ([], []), ([], []), ([], []), ([5, 6], [5, 6]), ([4, 7], [4, 7]), ([8], [8]), ([], []), ([], []), ([10, 11], [10, 11]), ([12], [12]), ([], []), ([], []), ([14, 15], [14, 15]), ([16], [16]), ([13, 17], [13, 17]), ([9, 18], [9, 18]), ([0, 3, 0, 1, 2, 3, 4, 5, 6, 7, 8, 9, 10, 11, 12, 13, 14, 15, 16, 17, 18, 19], [0, 3]), ([20, 19, 0, 1, 2, 3, 4, 5, 6, 7, 8, 9, 10, 11, 12, 13, 14, 15, 16, 17, 18, 19], [19, 20])])
def spec_l01Quotient.B10 : List Nat := [0, 0, 0, 6, 0, 0, 0, 96, 240, 496, 0, 0, 3072, 7168, 0, 0, 49152, 114688, 261120, 524272, 1048575, 2097151]
theorem spec_l01Quotient.tab10 : rtab .any (opsOf Try.f277 10) = spec_l01Quotient.T10 := by kernel_rfl
theorem spec_l01Quotient.bits10 : waitsOk spec_l01Quotient.T10.2 spec_l01Quotient.B10 = true := by kernel_rfl
set_option maxHeartbeats 8000000 in
set_option maxRecDepth 100000 in
theorem spec_l01Quotient.calls (k : Nat) (A0 : Option Addr) (c0 : Nat) (l0 : List Int) (A1 : Option Addr) (c1 : Nat) (l1 : List Int) (r : List Int) (w : World) (hr0 : Kd.C (Kd.int .i64) w A0 l0.length l0) (hc0 : l0.length ≤ c0) (hr1 : Kd.C (Kd.int .i64) w A1 l1.length l1) (hc1 : l1.length ≤ c1) (h : spec_l01Quotient.f k l0 l1 = some r) :
  Calls Try.prog 277 #[.slice A0 l0.length c0, .slice A1 l1.length c1] w fun e w' => ∃ v0_ : Value, e = .returned (v0_) ∧ Kd.R (Kd.int .i64) 2 w' w.heap.size (fun _ => True) v0_ r ∧ Below w.heap.size w w' := by
 have HR0 := Aside0.mk hr0
 have HC0 := Aside0.mk hc0
 clear hr0 hc0
 have HR1 := Aside0.mk hr1
 have HC1 := Aside0.mk hc1
 clear hr1 hc1
 have HB := Aside0.mk (Below.refl w.heap.size w)
 have H : ((spec_l01Own.f l0).bind fun t465 => (if 0 ≤ (wrap64 ((wrap64 ((l0.length : Int) - (l1.length : Int))) + 1)) then (if (wrap64 ((wrap64 ((l0.length : Int) - (l1.length : Int))) + 1) : Int).toNat ≤ 35184372088832 then (spec_l01Quotient.l0 k l1 t465 (List.replicate (wrap64 ((wrap64 ((l0.length : Int) - (l1.length : Int))) + 1) : Int).toNat 0) (wrap64 ((l0.length : Int) - (l1.length : Int)))) else (none)) else (none))) = some r := h
 clear h
 replace H := Option.bind_eq_some_iff.mp H
 obtain ⟨t465, A30, H⟩ := H
 replace H : (if 0 ≤ (wrap64 ((wrap64 ((l0.length : Int) - (l1.length : Int))) + 1)) then (if (wrap64 ((wrap64 ((l0.length : Int) - (l1.length : Int))) + 1) : Int).toNat ≤ 35184372088832 then (spec_l01Quotient.l0 k l1 t465 (List.replicate (wrap64 ((wrap64 ((l0.length : Int) - (l1.length : Int))) + 1) : Int).toNat 0) (wrap64 ((l0.length : Int) - (l1.length : Int)))) else (none)) else (none)) = some r := H
 have A3 := Aside0.mk A30
 clear A30
 obtain ⟨ji4, hji4⟩ : ∃ j_ : Int, (wrap64 ((wrap64 ((l0.length : Int) - (l1.length : Int))) + 1)) = j_ := ⟨_, rfl⟩
 replace H : (if 0 ≤ (ji4) then (if (ji4 : Int).toNat ≤ 35184372088832 then (spec_l01Quotient.l0 k l1 t465 (List.replicate (ji4 : Int).toNat 0) (wrap64 ((l0.length : Int) - (l1.length : Int)))) else (none)) else (none)) = some r := by first | (rw [hji4] at H; exact H) | (simp only [hji4] at H ⊢; exact H)
 (try rw [hji4] at A3)
 have hji4w : (IntKind.i64.wrap ((wrap64 ((l0.length : Int) - (l1.length : Int))) + 1)) = ji4 := (i64_w _).trans hji4
 by_cases c5 : 0 ≤ (ji4)
 ·rw [if_pos c5] at H
  have c5b0 := eq_true c5
  have c5b1 : decide (0 ≤ (ji4)) = true := decide_eq_true c5
  clear c5
  by_cases c6 : (ji4 : Int).toNat ≤ 35184372088832
  ·rw [if_pos c6] at H
   have c6b0 := eq_true c6
   have c6b1 : decide ((ji4 : Int).toNat ≤ 35184372088832) = true := decide_eq_true c6
   clear c6
   obtain ⟨y468, hy468⟩ : ∃ y_ : List Int, y_ = (List.replicate (ji4 : Int).toNat 0) := ⟨_, rfl⟩
   replace H : (spec_l01Quotient.l0 k l1 t465 y468 (wrap64 ((l0.length : Int) - (l1.length : Int)))) = some r := by first | (rw [hy468]; with_reducible exact H) | (rw [hy468]; with_reducible exact (bs H :)) | with_reducible exact (bs H :) | exact H
   have Ny468 := Aside0.mk hy468
   clear hy468
   have H' := Aside0.mk H
   clear H
   go_enter Try.func277, Try.ntmps277
   go_wp2_with (first | ((with_reducible refine gate_callee (f := 244) rfl ?_); refine goesL_ (some 11) rfl rfl Try.func244 (by kernel_rfl) rfl #[.slice A0 l0.length c0] rfl ar ?_; (with_reducible refine (spec_l01Own.calls _ _ l0 t465 _ ?side1 ?side2 A3.out).mono ?_); (case side1 => exact kC HR0.out); (case side2 => exact HC0.out); rintro e w7 ⟨v466, rfl, ho0, hb⟩; refine ⟨_, rfl, ?_⟩; have HO467 := Aside0.mk (Kd.R_lower ho0 (below_size tb)); replace HB := Aside0.mk (below_step tb hb); (try clear hb); (try clear hb2); (try clear hk); (try clear hi); (try clear ho0)) | ((with_reducible refine gate_dst (N := 19) rfl ?_); refine Kd.R_make (Kd.int .i64) _ 2 rfl (N := 19) rfl 27 _ _ rfl ji4 rfl rfl Try.underlying27 (.int .i64 0) 8 info2 rfl (by decide) (by omega) 0 (ok := fun _ => True) (okp := fun _ => True) rfl (fun _ hk => hk) trivial (od) (Nat.le_trans (Nat.mul_le_mul_right _ (od : ji4.toNat ≤ 35184372088832)) (by omega)) (Below.refl _ _) (Nat.le_refl _) ?_; intro v469 w8 ho9 hb hg_ hnew_; clear hg_ hnew_; (first | rw [← Ny468.out] at ho9 | (simp only [Int.reduceToNat] at ho9; rw [← Ny468.out] at ho9)); have HO470 := Aside0.mk (Kd.R_lower (Kd.R_new' ho9 (Kd.R_lt (kR HO467.out))) (below_size tb)); replace HO467 := Aside0.mk (Kd.R_elder' (kR HO467.out) (Kd.R_base ho9) hb); replace HB := Aside0.mk (below_step tb hb); clear hb ho9))
   go_loopg [8] k (fun kq v8 w' => ∃ (x5_1 : List Int) (x7_1 : List Int) (x8_1 : Int), v8 = .int .i64 x8_1 ∧ Aside0 (spec_l01Quotient.l0 kq l1 x5_1 x7_1 x8_1 = some r) ∧ Aside0 (kq ≤ k) ∧ Aside0 (Kd.R (Kd.int .i64) 2 w' w.heap.size (fun k_ => some k_ ≠ (v469 : Value).ownBlock) v466 x5_1) ∧ Aside0 (Kd.R (Kd.int .i64) 2 w' w.heap.size (fun k_ => some k_ ≠ (v466 : Value).ownBlock) v469 x7_1) ∧ Aside0 (Below w.heap.size w w'))
   case atStart => exact ⟨(t465), (y468), (wrap64 ((l0.length : Int) - (l1.length : Int))), (by first | rfl | (simp; done) | (simp [*]; done)), H', ⟨Nat.le_refl _⟩, ⟨by (with_reducible repeat (first | apply Kd.R_alloc | apply Kd.R_drewN | apply Kd.R_drew)); exact Kd.R_mono HO467.out (fun _ hk => hk.2)⟩, ⟨by (with_reducible repeat (first | apply Kd.R_alloc | apply Kd.R_drewN | apply Kd.R_drew)); exact Kd.R_mono HO470.out (fun _ hk => hk.2)⟩, ⟨tb⟩⟩
   case round =>
    clear H'
    try clear c1
    try clear c2
    try clear p2
    try clear c5
    try clear c5b0
    try clear c5b1
    try clear c6
    try clear c6b0
    try clear c6b1
    try clear p6
    obtain ⟨x5_1, x7_1, x8_1, rfl, HA, HK1, HO_5, HO_7, HB⟩ := hrel
    cases gk with
    | zero => exact absurd HA.out (by simp [spec_l01Quotient.l0])
    | succ k1 =>
     have H := HA.out
     clear HA
     simp only [spec_l01Quotient.l0] at H
     by_cases c10 : x8_1 ≥ 0
     ·rw [if_pos c10] at H
      have c10b0 : decide (0 ≤ x8_1) = true := decide_eq_true c10
      clear c10
      obtain ⟨ji11, hji11⟩ : ∃ j_ : Int, (wrap64 ((wrap64 (x8_1 + (l1.length : Int))) - 1)) = j_ := ⟨_, rfl⟩
      replace H : (if 0 ≤ (ji11) then (if (ji11) < (x5_1.length : Int) then (if 0 ≤ x8_1 then (if x8_1 < (x7_1.length : Int) then (spec_l01Quotient.l1 k1 l1 x5_1 (x7_1.set (x8_1 : Int).toNat (rd x5_1 (ji11))) x8_1 0) else (none)) else (none)) else (none)) else (none)) = some r := by first | (rw [hji11] at H; exact H) | (simp only [hji11] at H ⊢; exact H)
      have hji11w : (IntKind.i64.wrap ((wrap64 (x8_1 + (l1.length : Int))) - 1)) = ji11 := (i64_w _).trans hji11
      by_cases c12 : 0 ≤ (ji11)
      ·rw [if_pos c12] at H
       have c12b0 : decide (0 ≤ (ji11)) = true := decide_eq_true c12
       clear c12
       by_cases c13 : (ji11) < (x5_1.length : Int)
       ·rw [if_pos c13] at H
        have c13b0 : decide ((ji11) < (x5_1.length : Int)) = true := decide_eq_true c13
        clear c13
        by_cases c14 : 0 ≤ x8_1
        ·rw [if_pos c14] at H
         have c14b0 : decide (0 ≤ x8_1) = true := decide_eq_true c14
         clear c14
         by_cases c15 : x8_1 < (x7_1.length : Int)
         ·rw [if_pos c15] at H
          have c15b0 : decide (x8_1 < (x7_1.length : Int)) = true := decide_eq_true c15
          clear c15
          obtain ⟨y472, hy472⟩ : ∃ y_ : List Int, y_ = (x7_1.set (x8_1 : Int).toNat (rd x5_1 (ji11))) := ⟨_, rfl⟩
          replace H : (spec_l01Quotient.l1 k1 l1 x5_1 y472 x8_1 0) = some r := by first | (rw [hy472]; with_reducible exact H) | (rw [hy472]; with_reducible exact (bs H :)) | with_reducible exact (bs H :) | exact H
          have Ny472 := Aside0.mk hy472
          clear hy472
          have H' := Aside0.mk H
          clear H
          obtain ⟨Ao17, co17, eo17⟩ := Kd.R_slice HO_5.out
          subst eo17
          have p471 : 0 ≤ ((ji11) : Int) := od
          have q471 : (ji11) < (x5_1.length : Int) := od
          obtain ⟨ad471, e471, hx471_0⟩ := Kd.at_int (Kd.R_reads' HO_5.out).2.2 (ji11) p471 q471
          cases e471
          replace p471 := eq_true p471
          replace q471 := eq_true q471
          have p16 : 0 ≤ (x8_1 : Int) := od
          have q16 : (x8_1 : Int) < ((x7_1.length : Int) : Int) := od
          obtain ⟨go16, co16, eo16, gb16, gl16, cl16, HG16⟩ := Kd.R_form HO_7.out (by omega)
          (first | cases eo16 | (injection eo16 with ea_ en_ ec_; (first | subst ea_ | (injection ea_ with ea_; subst ea_)); subst ec_; clear en_))
          have GB16 := Aside0.mk gb16
          have GG16 := Aside0.mk HG16
          clear gb16 gl16 HG16
          obtain ⟨hx16_0, hf16_0⟩ := Kd.R_celln 0 HO_7.out (x8_1 : Int) p16 q16
          replace p16 := eq_true p16
          replace q16 := eq_true q16
          have HP18 := Kd.R_putg HO_7.out (x8_1 : Int) (rd x5_1 (ji11))
          go_wp2_with (first | ((with_reducible refine gate_store (t := 2) (p := 35) rfl ?_); refine store_event (t := 2) (p := 35) (v := ?vo_w19) (w1 := (wr.setCell ⟨go16, (x8_1 : Int).toNat, none⟩ (.int .i64 (rd x5_1 (ji11))))) ?hg ?ho ?hn ?hr ?_; (case ho => rfl); (case hg => rfl); (case hn => rfl); (case hr => first | (go_simp; done) | (go_simp; rfl)); intro w19 hw; have hg : wr.grownBy w19 (some go16) := (by rw [hw]; exact HP18.2); have hp_ : Kd.R (Kd.int .i64) 2 w19 w.heap.size (fun k_ => some k_ ≠ (.slice (some ad471) x5_1.length co17 : Value).ownBlock) (.slice (some ⟨go16, 0, none⟩) x7_1.length co16) y472 := (by rw [hw, Ny472.out]; exact HP18.1); clear HP18; replace HO_5 := Aside0.mk (Kd.R_after (v := (.slice (some ⟨go16, 0, none⟩) x7_1.length co16)) (v1 := (.slice (some ⟨go16, 0, none⟩) x7_1.length co16)) (ok := (fun _ => True)) (by (with_reducible repeat (first | apply Kd.R_alloc | apply Kd.R_drewN | apply Kd.R_drew)); exact Kd.R_mono HO_5.out (fun _ hk => ⟨trivial, hk⟩)) hg (.inl rfl)); replace HO_7 := Aside0.mk (hp_); replace HB := Aside0.mk ((by rw [hw]; exact below_set (HB.out) GB16.out : Below w.heap.size w w19)); clear hg hw hp_))
          (try generalize Value.pointer (some (ad471.add ((ji11) : Int).toNat)) = dp_ad471_)
          go_loopg [9] k1 (fun kq v9 w' => ∃ (x5_2 : List Int) (x9_2 : Int), v9 = .int .i64 x9_2 ∧ Aside0 (spec_l01Quotient.l1 kq l1 x5_2 y472 x8_1 x9_2 = some r) ∧ Aside0 (kq ≤ k1) ∧ Aside0 (Kd.R (Kd.int .i64) 2 w' w.heap.size (fun k_ => some k_ ≠ ((.slice (some ⟨go16, 0, none⟩) x7_1.length co16) : Value).ownBlock) (.slice (some ad471) x5_1.length co17) x5_2) ∧ Aside0 (Kd.R (Kd.int .i64) 2 w' w.heap.size (fun k_ => some k_ ≠ ((.slice (some ad471) x5_1.length co17) : Value).ownBlock) (.slice (some ⟨go16, 0, none⟩) x7_1.length co16) y472) ∧ Aside0 (Below w.heap.size w w'))
          case atStart => exact ⟨(x5_1), (0), (by first | rfl | (simp; done) | (simp [*]; done)), H', ⟨Nat.le_refl _⟩, ⟨by (with_reducible repeat (first | apply Kd.R_alloc | apply Kd.R_drewN | apply Kd.R_drew)); exact Kd.R_mono HO_5.out (fun _ hk => hk.2)⟩, ⟨kR HO_7.out⟩, ⟨tb⟩⟩
          case round =>
           clear H'
           try clear c1
           try clear p1
           try clear q1
           try clear hx1
           try clear c2
           try clear p2
           try clear p4
           try clear q4
           try clear hx4
           try clear c5
           try clear c5b0
           try clear c5b1
           try clear c6
           try clear c6b0
           try clear c6b1
           try clear p6
           try clear c10
           try clear c10b0
           try clear c12
           try clear c12b0
           try clear c13
           try clear c13b0
           try clear c14
           try clear c14b0
           try clear c15
           try clear c15b0
           try clear p16
           try clear q16
           try clear hx16
           try clear hf16
           try clear hx16_0
           try clear hx471_0
           try clear p16
           try clear p2
           try clear p471
           try clear p6
           try clear q16
           try clear q471
           obtain ⟨x5_2, x9_2, rfl, HA, HK2, HO_5, HO_7, HB⟩ := hrel
           have hl5_2 := (Kd.R_reads' HO_5.out).1
           rw [hl5_2] at HO_5
           (try simp only [hl5_2])
           (try simp only [hl5_2] at HO_7)
           have hl7_2 := (Kd.R_reads' HO_7.out).1
           rw [hl7_2] at HO_7
           (try simp only [hl7_2])
           (try simp only [hl7_2] at HO_5)
           cases gk with
           | zero => exact absurd HA.out (by simp [spec_l01Quotient.l1])
           | succ k2 =>
            have H := HA.out
            clear HA
            simp only [spec_l01Quotient.l1] at H
            by_cases c20 : x9_2 < (l1.length : Int)
            ·rw [if_pos c20] at H
             have c20b0 : decide (x9_2 < (l1.length : Int)) = true := decide_eq_true c20
             clear c20
             obtain ⟨ji21, hji21⟩ : ∃ j_ : Int, (wrap64 (x8_1 + x9_2)) = j_ := ⟨_, rfl⟩
             replace H : (if 0 ≤ (ji21) then (if (ji21) < (x5_2.length : Int) then (if 0 ≤ x8_1 then (if x8_1 < (y472.length : Int) then (if 0 ≤ x9_2 then (spec_l01Quotient.l1 k2 l1 (x5_2.set ((ji21) : Int).toNat (wrap64 ((rd x5_2 (ji21)) - (wrap64 ((rd y472 x8_1) * (rd l1 x9_2)))))) y472 x8_1 (wrap64 (x9_2 + 1))) else (none)) else (none)) else (none)) else (none)) else (none)) = some r := by first | (rw [hji21] at H; exact H) | (simp only [hji21] at H ⊢; exact H)
             have hji21w : (IntKind.i64.wrap (x8_1 + x9_2)) = ji21 := (i64_w _).trans hji21
             by_cases c22 : 0 ≤ (ji21)
             ·rw [if_pos c22] at H
              have c22b0 : decide (0 ≤ (ji21)) = true := decide_eq_true c22
              clear c22
              by_cases c23 : (ji21) < (x5_2.length : Int)
              ·rw [if_pos c23] at H
               have c23b0 : decide ((ji21) < (x5_2.length : Int)) = true := decide_eq_true c23
               clear c23
               by_cases c24 : 0 ≤ x8_1
               ·rw [if_pos c24] at H
                have c24b0 : decide (0 ≤ x8_1) = true := decide_eq_true c24
                clear c24
                by_cases c25 : x8_1 < (y472.length : Int)
                ·rw [if_pos c25] at H
                 have c25b0 : decide (x8_1 < (y472.length : Int)) = true := decide_eq_true c25
                 clear c25
                 by_cases c26 : 0 ≤ x9_2
                 ·rw [if_pos c26] at H
                  have c26b0 : decide (0 ≤ x9_2) = true := decide_eq_true c26
                  clear c26
                  obtain ⟨y476, hy476⟩ : ∃ y_ : List Int, y_ = (x5_2.set ((ji21) : Int).toNat (wrap64 ((rd x5_2 (ji21)) - (wrap64 ((rd y472 x8_1) * (rd l1 x9_2)))))) := ⟨_, rfl⟩
                  replace H : (spec_l01Quotient.l1 k2 l1 y476 y472 x8_1 (wrap64 (x9_2 + 1))) = some r := by first | (rw [hy476]; with_reducible exact H) | (rw [hy476]; with_reducible exact (bs H :)) | with_reducible exact (bs H :) | exact H
                  have Ny476 := Aside0.mk hy476
                  clear hy476
                  have H' := Aside0.mk H
                  clear H
                  try go_wp2
                  replace HO_5 := Aside0.mk (Kd.R_drew HO_5.out)
                  replace HO_7 := Aside0.mk (Kd.R_drew HO_7.out)
                  replace HB := Aside0.mk (below_drew1 HB.out)
                  have p473 : 0 ≤ ((ji21) : Int) := od
                  have q473 : (ji21) < (x5_2.length : Int) := od
                  obtain ⟨ad473, e473, hx473_0⟩ := Kd.at_int (Kd.R_reads' HO_5.out).2.2 (ji21) p473 q473
                  obtain rfl : ad471 = ad473 := (by injection e473)
                  replace p473 := eq_true p473
                  replace q473 := eq_true q473
                  have p474 : 0 ≤ (x8_1 : Int) := od
                  have q474 : x8_1 < (y472.length : Int) := od
                  obtain ⟨ad474, e474, hx474_0⟩ := Kd.at_int (Kd.R_reads' HO_7.out).2.2 x8_1 p474 q474
                  obtain rfl : (⟨go16, 0, none⟩ : Addr) = ad474 := (by injection e474)
                  (first | simp only [add_plain] at hx474_0 | simp only [add_at] at hx474_0 | simp only [Addr.add, Nat.zero_add] at hx474_0 | skip)
                  replace p474 := eq_true p474
                  replace q474 := eq_true q474
                  have p475 : 0 ≤ (x9_2 : Int) := od
                  have q475 : x9_2 < (l1.length : Int) := od
                  obtain ⟨ad475, e475, hx475_0⟩ := Kd.at_int HR1.out x9_2 p475 q475
                  have hw475_0 := hx475_0
                  cases e475
                  replace hx475_0 := (HB.out.cell (World.block_lt_of_cell? _ _ hx475_0)).trans hx475_0
                  replace p475 := eq_true p475
                  replace q475 := eq_true q475
                  have p27 : 0 ≤ ((ji21) : Int) := od
                  have q27 : ((ji21) : Int) < ((x5_2.length : Int) : Int) := od
                  obtain ⟨go27, co27, eo27, gb27, gl27, cl27, HG27⟩ := Kd.R_form HO_5.out (by omega)
                  (first | cases eo27 | (injection eo27 with ea_ en_ ec_; (first | subst ea_ | (injection ea_ with ea_; subst ea_)); subst ec_; clear en_))
                  have GB27 := Aside0.mk gb27
                  have GG27 := Aside0.mk HG27
                  clear gb27 gl27 HG27
                  (first | simp only [add_plain] at hx471_0 | skip)
                  (first | simp only [add_plain] at hx473_0 | skip)
                  obtain ⟨hx27_0, hf27_0⟩ := Kd.R_celln 0 HO_5.out ((ji21) : Int) p27 q27
                  replace p27 := eq_true p27
                  replace q27 := eq_true q27
                  have HP29 := Kd.R_putn HO_5.out ((ji21) : Int) (wrap64 ((rd x5_2 (ji21)) - (wrap64 ((rd y472 x8_1) * (rd l1 x9_2)))))
                  rw [← Ny476.out] at HP29
                  have HQ29 := Aside0.mk HP29
                  clear HP29
                  refine start_ (n := 22) (S := fun w' => w'.cell? ⟨go27, ((ji21)).toNat, none⟩ = some (.int .i64 (rd x5_2 (ji21))) ∧ w'.cell? ⟨go16, (x8_1).toNat, none⟩ = some (.int .i64 (rd y472 x8_1)) ∧ w'.cell? (ad475.add (x9_2).toNat) = some (.int .i64 (rd l1 x9_2))) (ds := [21]) #[false, false, false, false, false, false, false, false, false, false, false, false, false, false, false, false, false, false, false, false, false, false] (by kernel_rfl) rfl rfl ⟨hx473_0, hx474_0, ((HB.out.cell (World.block_lt_of_cell? _ _ hw475_0)).trans hw475_0)⟩ (fun hHeld => ?_); refine with_tabW spec_l01Quotient.tab10 spec_l01Quotient.bits10 (fun HT_ HW_ => ?_)
                  generalize wr.drew = w28 at HO_5 HO_7 HB GG27 HQ29 hf27_0 hx27_0 hx473_0 hx474_0 hx475_0 hHeld ⊢
                  refine pu 0 (some 42) #[true, false, false, false, false, false, false, false, false, false, false, false, false, false, false, false, false, false, false, false, false, false] ?_
                  refine pu 1 (some 43) #[true, true, false, false, false, false, false, false, false, false, false, false, false, false, false, false, false, false, false, false, false, false] ?_
                  refine pu 2 (some 44) #[true, true, true, false, false, false, false, false, false, false, false, false, false, false, false, false, false, false, false, false, false, false] ?_
                  refine pu 3 (some 45) #[true, true, true, true, false, false, false, false, false, false, false, false, false, false, false, false, false, false, false, false, false, false] ?_
                  refine pu 4 (some 46) #[true, true, true, true, true, false, false, false, false, false, false, false, false, false, false, false, false, false, false, false, false, false] ?_
                  refine pu 5 (some 47) #[true, true, true, true, true, true, false, false, false, false, false, false, false, false, false, false, false, false, false, false, false, false] ?_
                  refine pu 6 (some 48) #[true, true, true, true, true, true, true, false, false, false, false, false, false, false, false, false, false, false, false, false, false, false] ?_
                  refine pu 7 (some 49) #[true, true, true, true, true, true, true, true, false, false, false, false, false, false, false, false, false, false, false, false, false, false] ?_
                  refine pu 8 (some 50) #[true, true, true, true, true, true, true, true, true, false, false, false, false, false, false, false, false, false, false, false, false, false] ?_
                  refine pu 10 (some 52) #[true, true, true, true, true, true, true, true, true, false, true, false, false, false, false, false, false, false, false, false, false, false] ?_
                  refine pu 11 (some 53) #[true, true, true, true, true, true, true, true, true, false, true, true, false, false, false, false, false, false, false, false, false, false] ?_
                  refine pu 12 (some 54) #[true, true, true, true, true, true, true, true, true, false, true, true, true, false, false, false, false, false, false, false, false, false] ?_
                  refine pu 14 (some 56) #[true, true, true, true, true, true, true, true, true, false, true, true, true, false, true, false, false, false, false, false, false, false] ?_
                  refine pu 15 (some 57) #[true, true, true, true, true, true, true, true, true, false, true, true, true, false, true, true, false, false, false, false, false, false] ?_
                  refine pu 16 (some 58) #[true, true, true, true, true, true, true, true, true, false, true, true, true, false, true, true, true, false, false, false, false, false] ?_
                  refine tk 9 (some 51) #[true, true, true, true, true, true, true, true, true, true, true, true, true, false, true, true, true, false, false, false, false, false] hHeld ?_
                  refine tk 13 (some 55) #[true, true, true, true, true, true, true, true, true, true, true, true, true, true, true, true, true, false, false, false, false, false] hHeld ?_
                  refine tk 17 (some 59) #[true, true, true, true, true, true, true, true, true, true, true, true, true, true, true, true, true, true, false, false, false, false] hHeld ?_
                  refine pu 18 (some 60) #[true, true, true, true, true, true, true, true, true, true, true, true, true, true, true, true, true, true, true, false, false, false] ?_
                  refine pu 19 (some 61) #[true, true, true, true, true, true, true, true, true, true, true, true, true, true, true, true, true, true, true, true, false, false] ?_
                  refine pu 20 (some 62) #[true, true, true, true, true, true, true, true, true, true, true, true, true, true, true, true, true, true, true, true, true, false] ?_
                  refine last_ (i := 21) (N := none) #[true, true, true, true, true, true, true, true, true, true, true, true, true, true, true, true, true, true, true, true, true, true] rfl rfl (one_of HT_.out (by kernel_rfl)) (by decide) (fun K hK => ?_)
                  refine skip_ (w1 := ?_) (by rfl) rfl ?_ ?_
                  rotate_left
                  ·go_simp
                   rfl
                  refine hK.out _ _ ?_
                  clear hK K
                  refine done_ (done_of HT_.out (by kernel_rfl)) ?_
                  try go_wp2
                  (try simp only [← hl5_2, ← hl7_2])
                  go_roundg k2
                  case measure => have := HK1.out; have := HK2.out; omega
                  case rel => exact ⟨(y476), (wrap64 (x9_2 + 1)), (by first | rfl | (simp; done) | (simp [*]; done)), H', ⟨by have := HK1.out; have := HK2.out; omega⟩, ⟨by (try simp only [hl5_2]); (try simp only [hl7_2]); (with_reducible repeat (first | apply Kd.R_alloc | apply Kd.R_drewN | apply Kd.R_drew)); exact HQ29.out⟩, ⟨by (try simp only [hl5_2]); (try simp only [hl7_2]); (with_reducible repeat (first | apply Kd.R_alloc | apply Kd.R_drewN | apply Kd.R_drew)); exact Kd.R_mono (Kd.R_far (p := ⟨go27, ((ji21) : Int).toNat, none⟩) (Kd.R_mono HO_7.out (fun k_ hk => (⟨hk, fun e_ => hk (by rw [e_]; rfl)⟩ : _ ∧ k_ ≠ go27))) (fun _ hk => hk.2) (.int .i64 (wrap64 ((rd x5_2 (ji21)) - (wrap64 ((rd y472 x8_1) * (rd l1 x9_2))))))) (fun _ hk => hk.1)⟩, ⟨tb⟩⟩
                 ·rw [if_neg c26] at H
                  exact absurd H (by simp)
                ·rw [if_neg c25] at H
                 exact absurd H (by simp)
               ·rw [if_neg c24] at H
                exact absurd H (by simp)
              ·rw [if_neg c23] at H
               exact absurd H (by simp)
             ·rw [if_neg c22] at H
              exact absurd H (by simp)
            ·rw [if_neg c20] at H
             have c20b0 : decide (x9_2 < (l1.length : Int)) = false := decide_eq_false c20
             (try (have c20b0_hl5_2 := c20b0; simp only [hl5_2] at c20b0_hl5_2))
             (try (have c20b0_hl5_2_ := c20b0; simp only [← hl5_2] at c20b0_hl5_2_))
             (try (have c20b0_hl7_2 := c20b0; simp only [hl7_2] at c20b0_hl7_2))
             (try (have c20b0_hl7_2_ := c20b0; simp only [← hl7_2] at c20b0_hl7_2_))
             clear c20
             have H' := Aside0.mk H
             clear H
             go_wp2
             (try simp only [← hl5_2, ← hl7_2])
             go_roundg k2
             case measure => have := HK1.out; have := HK2.out; omega
             case rel => exact ⟨(x5_2), (y472), (wrap64 (x8_1 - 1)), (by first | rfl | (simp; done) | (simp [*]; done)), H', ⟨by have := HK1.out; have := HK2.out; omega⟩, ⟨by (try simp only [hl5_2]); (try simp only [hl7_2]); (with_reducible repeat (first | apply Kd.R_alloc | apply Kd.R_drewN | apply Kd.R_drew)); exact HO_5.out⟩, ⟨by (try simp only [hl5_2]); (try simp only [hl7_2]); (with_reducible repeat (first | apply Kd.R_alloc | apply Kd.R_drewN | apply Kd.R_drew)); exact HO_7.out⟩, ⟨tb⟩⟩
         ·rw [if_neg c15] at H
          exact absurd H (by simp)
        ·rw [if_neg c14] at H
         exact absurd H (by simp)
       ·rw [if_neg c13] at H
        exact absurd H (by simp)
      ·rw [if_neg c12] at H
       exact absurd H (by simp)
     ·rw [if_neg c10] at H
      have c10b0 : decide (0 ≤ x8_1) = false := decide_eq_false c10
      clear c10
      obtain rfl := Option.some.inj H
      go_wp2
      go_ret
      exact ⟨_, by first | rfl | (simp [errW_none, errW_some] <;> rfl) | (simp only [← hji4]; first | rfl | (simp [errW_none, errW_some] <;> rfl)) | (simp [*, errW_none, errW_some] <;> rfl), by (with_reducible repeat (first | apply Kd.R_alloc | apply Kd.R_drewN | apply Kd.R_drew)); exact Kd.R_mono HO_7.out (fun _ hk => trivial), tb⟩
  ·rw [if_neg c6] at H
   exact absurd H (by simp)
 ·rw [if_neg c5] at H
  exact absurd H (by simp)

/-! ### spec_l01Cyclotomic: function 261 -/
mutual
def spec_l01Cyclotomic.l0 : Nat → Int → List Int → Int → Option (List Int)
 | 0, _, _, _ => none
 | k + 1, x0, x3, x4 => if x4 < x0 then (if x4 = 0 then (none) else (if (Int.tmod x0 x4) = 0 then ((spec_l01Cyclotomic.f k x4).bind fun t482 => ((spec_l01Quotient.f k x3 t482).bind fun t485 => (spec_l01Cyclotomic.l0 k x0 t485 (wrap64 (x4 + 1))))) else (spec_l01Cyclotomic.l0 k x0 x3 (wrap64 (x4 + 1))))) else (some x3)
def spec_l01Cyclotomic.f : Nat → Int → Option (List Int)
 | 0, _ => none
 | k + 1, a0 => if 0 ≤ (wrap64 (a0 + 1)) then (if (wrap64 (a0 + 1) : Int).toNat ≤ 35184372088832 then ((some (List.replicate (wrap64 (a0 + 1) : Int).toNat 0 : List Int)).bind fun y477 => (if 0 < (y477.length : Int) then (if 0 ≤ a0 then (if a0 < (y477.length : Int) then (spec_l01Cyclotomic.l0 k a0 ((y477.set (0 : Int).toNat (-1)).set (a0 : Int).toNat 1) 1) else (none)) else (none)) else (none))) else (none)) else (none)
end
set_option maxHeartbeats 8000000 in
set_option maxRecDepth 100000 in
theorem spec_l01Cyclotomic.calls (k : Nat) : ∀ (a0 : Int) (r : List Int) (w : World) (h : spec_l01Cyclotomic.f k a0 = some r),
  Calls Try.prog 261 #[.int .i64 a0] w fun e w' => ∃ v0_ : Value, e = .returned (v0_) ∧ Kd.R (Kd.int .i64) 2 w' w.heap.size (fun _ => True) v0_ r ∧ Below w.heap.size w w' := by
 induction k using Nat.strongRecOn with
 | _ k ih =>
 intro a0 r w h
 cases k with
 | zero => exact absurd h (by simp [spec_l01Cyclotomic.f])
 | succ k =>
 simp only [spec_l01Cyclotomic.f] at h
 have HB := Aside0.mk (Below.refl w.heap.size w)
 have H : (if 0 ≤ (wrap64 (a0 + 1)) then (if (wrap64 (a0 + 1) : Int).toNat ≤ 35184372088832 then ((some (List.replicate (wrap64 (a0 + 1) : Int).toNat 0 : List Int)).bind fun y477 => (if 0 < (y477.length : Int) then (if 0 ≤ a0 then (if a0 < (y477.length : Int) then (spec_l01Cyclotomic.l0 k a0 ((y477.set (0 : Int).toNat (-1)).set (a0 : Int).toNat 1) 1) else (none)) else (none)) else (none))) else (none)) else (none)) = some r := h
 clear h
 obtain ⟨ji2, hji2⟩ : ∃ j_ : Int, (wrap64 (a0 + 1)) = j_ := ⟨_, rfl⟩
 replace H : (if 0 ≤ (ji2) then (if (ji2 : Int).toNat ≤ 35184372088832 then ((some (List.replicate (ji2 : Int).toNat 0 : List Int)).bind fun y477 => (if 0 < (y477.length : Int) then (if 0 ≤ a0 then (if a0 < (y477.length : Int) then (spec_l01Cyclotomic.l0 k a0 ((y477.set (0 : Int).toNat (-1)).set (a0 : Int).toNat 1) 1) else (none)) else (none)) else (none))) else (none)) else (none)) = some r := by first | (rw [hji2] at H; exact H) | (simp only [hji2] at H ⊢; exact H)
 have hji2w : (IntKind.i64.wrap (a0 + 1)) = ji2 := (i64_w _).trans hji2
 by_cases c3 : 0 ≤ (ji2)
 ·rw [if_pos c3] at H
  have c3b0 := eq_true c3
  have c3b1 : decide (0 ≤ (ji2)) = true := decide_eq_true c3
  clear c3
  by_cases c4 : (ji2 : Int).toNat ≤ 35184372088832
  ·rw [if_pos c4] at H
   have c4b0 := eq_true c4
   have c4b1 : decide ((ji2 : Int).toNat ≤ 35184372088832) = true := decide_eq_true c4
   clear c4
   obtain ⟨y477, hy477⟩ : ∃ y_ : List Int, y_ = (List.replicate (ji2 : Int).toNat 0) := ⟨_, rfl⟩
   replace H : (if 0 < (y477.length : Int) then (if 0 ≤ a0 then (if a0 < (y477.length : Int) then (spec_l01Cyclotomic.l0 k a0 ((y477.set (0 : Int).toNat (-1)).set (a0 : Int).toNat 1) 1) else (none)) else (none)) else (none)) = some r := by first | (rw [hy477]; with_reducible exact H) | (rw [hy477]; with_reducible exact (bs H :)) | with_reducible exact (bs H :) | exact H
   have Ny477 := Aside0.mk hy477
   clear hy477
   by_cases c5 : 0 < (y477.length : Int)
   ·rw [if_pos c5] at H
    have c5b0 : decide (0 < (y477.length : Int)) = true := decide_eq_true c5
    have c5b1 : decide (0 < y477.length) = true := decide_eq_true (by omega)
    clear c5
    obtain ⟨y480, hy480⟩ : ∃ y_ : List Int, y_ = (y477.set (0 : Int).toNat (-1)) := ⟨_, rfl⟩
    replace H : (if 0 ≤ a0 then (if a0 < (y477.length : Int) then (spec_l01Cyclotomic.l0 k a0 (y480.set (a0 : Int).toNat 1) 1) else (none)) else (none)) = some r := by first | (rw [hy480]; with_reducible exact H) | (rw [hy480]; with_reducible exact (bs H :)) | with_reducible exact (bs H :) | exact H
    have Ny480 := Aside0.mk hy480
    clear hy480
    by_cases c7 : 0 ≤ a0
    ·rw [if_pos c7] at H
     have c7b0 : decide (0 ≤ a0) = true := decide_eq_true c7
     clear c7
     by_cases c8 : a0 < (y477.length : Int)
     ·rw [if_pos c8] at H
      have c8b0 : decide (a0 < (y477.length : Int)) = true := decide_eq_true c8
      clear c8
      obtain ⟨y481, hy481⟩ : ∃ y_ : List Int, y_ = (y480.set (a0 : Int).toNat 1) := ⟨_, rfl⟩
      replace H : (spec_l01Cyclotomic.l0 k a0 y481 1) = some r := by first | (rw [hy481]; with_reducible exact H) | (rw [hy481]; with_reducible exact (bs H :)) | with_reducible exact (bs H :) | exact H
      have Ny481 := Aside0.mk hy481
      clear hy481
      have H' := Aside0.mk H
      clear H
      go_enter Try.func261, Try.ntmps261
      go_wp2_with (first | ((with_reducible refine gate_dst (N := 7) rfl ?_); refine Kd.R_make (Kd.int .i64) _ 2 rfl (N := 7) rfl 27 _ _ rfl ji2 rfl rfl Try.underlying27 (.int .i64 0) 8 info2 rfl (by decide) (by omega) 0 (ok := fun _ => True) (okp := fun _ => True) rfl (fun _ hk => hk) trivial (od) (Nat.le_trans (Nat.mul_le_mul_right _ (od : ji2.toNat ≤ 35184372088832)) (by omega)) (Below.refl _ _) (Nat.le_refl _) ?_; intro v478 w10 ho11 hb hg_ hnew_; clear hg_ hnew_; (first | rw [← Ny477.out] at ho11 | (simp only [Int.reduceToNat] at ho11; rw [← Ny477.out] at ho11)); have HO479 := Aside0.mk (Kd.R_lower ho11 (below_size tb)); replace HB := Aside0.mk (below_step tb hb); clear hb ho11; have p6 : 0 ≤ (0 : Int) := (by omega); have q6 : (0 : Int) < ((y477.length : Int) : Int) := od; have qi6 : (0 < y477.length) = True := eq_true (by omega); obtain ⟨go6, co6, eo6, gb6, gl6, cl6, HG6⟩ := Kd.R_form HO479.out (by omega); (first | cases eo6 | (injection eo6 with ea_ en_ ec_; (first | subst ea_ | (injection ea_ with ea_; subst ea_)); subst ec_; clear en_)); have GB6 := Aside0.mk gb6; have GG6 := Aside0.mk HG6; clear gb6 gl6 HG6; obtain ⟨hx6_0, hf6_0⟩ := Kd.R_celln 0 HO479.out (0 : Int) p6 q6; (try rw [show ((0 : Int)).toNat = 0 from rfl] at hx6_0); (try simp only [Nat.reduceMul, Nat.zero_mul, Nat.zero_add, Nat.reduceAdd] at hx6_0); (try rw [show ((0 : Int)).toNat = 0 from rfl] at hf6_0); (try simp only [Nat.reduceMul, Nat.zero_mul, Nat.zero_add, Nat.reduceAdd] at hf6_0); replace p6 := eq_true p6; replace q6 := eq_true q6; obtain ⟨hy12_, hz12_⟩ := Kd.R_celln 0 HO479.out (0 : Int) (by omega) (od); (try simp only [Int.reduceToNat, Int.toNat_zero, Int.toNat_ofNat, Nat.reduceMul, Nat.zero_mul, Nat.zero_add] at hy12_ hz12_); (try rw [show ((0 : Int)).toNat = 0 from rfl] at hy12_); (try rw [show ((0 : Int)).toNat = 0 from rfl] at hz12_); have HP12 := Kd.R_putg HO479.out (0 : Int) (-1)) | ((with_reducible refine gate_store (t := 2) (p := 9) rfl ?_); refine store_event (t := 2) (p := 9) (v := ?vo_w13) (w1 := (w10.setCell ⟨go6, (0 : Int).toNat, none⟩ (.int .i64 (-1)))) ?hg ?ho ?hn ?hr ?_; (case ho => rfl); (case hg => rfl); (case hn => rfl); (case hr => first | (go_simp; done) | (go_simp; rfl)); intro w13 hw; have hg : w10.grownBy w13 (some go6) := (by rw [hw]; exact HP12.2); have hp_ : Kd.R (Kd.int .i64) 2 w13 w.heap.size (fun _ => True) (.slice (some ⟨go6, 0, none⟩) y477.length co6) y480 := (by rw [hw, Ny480.out]; exact HP12.1); clear HP12; replace HO479 := Aside0.mk (hp_); replace HB := Aside0.mk ((by rw [hw]; exact below_set (HB.out) GB6.out : Below w.heap.size w w13)); clear hg hw hp_; have p9 : 0 ≤ (a0 : Int) := od; have q9 : (a0 : Int) < ((y477.length : Int) : Int) := od; obtain ⟨hx9_0, hf9_0⟩ := Kd.R_celln 0 HO479.out (a0 : Int) p9 q9; replace p9 := eq_true p9; replace q9 := eq_true q9; obtain ⟨hy14_, hz14_⟩ := Kd.R_celln 0 HO479.out (a0 : Int) (od) (od); have HP14 := Kd.R_putg HO479.out (a0 : Int) 1) | ((with_reducible refine gate_store (t := 2) (p := 12) rfl ?_); refine store_event (t := 2) (p := 12) (v := ?vo_w15) (w1 := (w13.setCell ⟨go6, (a0 : Int).toNat, none⟩ (.int .i64 1))) ?hg ?ho ?hn ?hr ?_; (case ho => rfl); (case hg => rfl); (case hn => rfl); (case hr => first | (go_simp; done) | (go_simp; rfl)); intro w15 hw; have hg : w13.grownBy w15 (some go6) := (by rw [hw]; exact HP14.2); have hp_ : Kd.R (Kd.int .i64) 2 w15 w.heap.size (fun _ => True) (.slice (some ⟨go6, 0, none⟩) y477.length co6) y481 := (by rw [hw, Ny481.out]; exact HP14.1); clear HP14; replace HO479 := Aside0.mk (hp_); replace HB := Aside0.mk ((by rw [hw]; exact below_set (HB.out) GB6.out : Below w.heap.size w w15)); clear hg hw hp_))
      go_loopg [3, 4] k (fun kq v3 v4 w' => ∃ (x3_1 : List Int) (x4_1 : Int), v4 = .int .i64 x4_1 ∧ Aside0 (spec_l01Cyclotomic.l0 kq a0 x3_1 x4_1 = some r) ∧ Aside0 (kq ≤ k) ∧ Aside0 (Kd.R (Kd.int .i64) 2 w' w.heap.size (fun _ => True) v3 x3_1) ∧ Aside0 (Below w.heap.size w w'))
      case atStart => exact ⟨(y481), (1), (by first | rfl | (simp; done) | (simp [*]; done)), H', ⟨Nat.le_refl _⟩, ⟨kR HO479.out⟩, ⟨tb⟩⟩
      case round =>
       clear H'
       try clear c2
       try clear p2
       try clear c3
       try clear c3b0
       try clear c3b1
       try clear c4
       try clear c4b0
       try clear c4b1
       try clear c5
       try clear c5b0
       try clear c5b1
       try clear p6
       try clear q6
       try clear hx6
       try clear qi6
       try clear hf6
       try clear c7
       try clear c7b0
       try clear c8
       try clear c8b0
       try clear p9
       try clear q9
       try clear hx9
       try clear hf9
       try clear hx6_0
       try clear hx9_0
       try clear p6
       try clear p9
       try clear q6
       try clear q9
       obtain ⟨x3_1, x4_1, rfl, HA, HK1, HO_3, HB⟩ := hrel
       cases gk with
       | zero => exact absurd HA.out (by simp [spec_l01Cyclotomic.l0])
       | succ k1 =>
        have H := HA.out
        clear HA
        simp only [spec_l01Cyclotomic.l0] at H
        by_cases c16 : x4_1 < a0
        ·rw [if_pos c16] at H
         have c16b0 : decide (x4_1 < a0) = true := decide_eq_true c16
         clear c16
         by_cases c17 : x4_1 = 0
         ·rw [if_pos c17] at H
          exact absurd H (by simp)
         ·rw [if_neg c17] at H
          have c17b0 : (x4_1 == 0) = false := beq_eq_false_iff_ne.mpr c17
          have c17b1 : (x4_1 != 0) = true := bne_iff_ne.mpr c17
          by_cases c18 : (Int.tmod a0 x4_1) = 0
          ·rw [if_pos c18] at H
           have c18b0 : ((Int.tmod a0 x4_1) == 0) = true := beq_iff_eq.mpr c18
           have c18b1 : ((Int.tmod a0 x4_1) != 0) = false := bne_eq_false_iff_eq.mpr c18
           clear c18
           replace H := Option.bind_eq_some_iff.mp H
           obtain ⟨t482, A190, H⟩ := H
           replace H : ((spec_l01Quotient.f k1 x3_1 t482).bind fun t485 => (spec_l01Cyclotomic.l0 k1 a0 t485 (wrap64 (x4_1 + 1)))) = some r := H
           have A19 := Aside0.mk A190
           clear A190
           replace H := Option.bind_eq_some_iff.mp H
           obtain ⟨t485, A200, H⟩ := H
           replace H : (spec_l01Cyclotomic.l0 k1 a0 t485 (wrap64 (x4_1 + 1))) = some r := H
           have A20 := Aside0.mk A200
           clear A200
           have H' := Aside0.mk H
           clear H
           go_wp2_with (first | ((with_reducible refine gate_callee (f := 261) rfl ?_); refine goesL_ (some 24) rfl rfl Try.func261 (by kernel_rfl) rfl #[.int .i64 x4_1] rfl ar ?_; (with_reducible refine (ih k1 (by have := HK1.out; omega) x4_1 t482 _ A19.out).mono ?_); rintro e w21 ⟨v483, rfl, ho0, hb⟩; refine ⟨_, rfl, ?_⟩; have HO484 := Aside0.mk (Kd.R_lower (Kd.R_new' ho0 (Kd.R_lt (kR HO_3.out))) (below_size tb)); replace HO_3 := Aside0.mk (Kd.R_elder' (kR HO_3.out) (Kd.R_base ho0) hb); replace HB := Aside0.mk (below_step tb hb); (try clear hb); (try clear hb2); (try clear hk); (try clear hi); (try clear ho0); obtain ⟨Ao22, co22, eo22⟩ := Kd.R_slice HO_3.out; subst eo22; obtain ⟨Ao23, co23, eo23⟩ := Kd.R_slice HO484.out; subst eo23) | ((with_reducible refine gate_callee (f := 277) rfl ?_); refine goesL_ (some 25) rfl rfl Try.func277 (by kernel_rfl) rfl #[.slice Ao22 x3_1.length co22, .slice Ao23 t482.length co23] rfl ar ?_; (with_reducible refine (spec_l01Quotient.calls k1 _ _ x3_1 _ _ t482 t485 _ ?side1 ?side2 ?side3 ?side4 A20.out).mono ?_); (case side1 => exact kC (Kd.R_reads' HO_3.out).2.2); (case side2 => exact (Kd.R_reads' HO_3.out).2.1); (case side3 => exact kC (Kd.R_reads' HO484.out).2.2); (case side4 => exact (Kd.R_reads' HO484.out).2.1); rintro e w24 ⟨v486, rfl, ho0, hb⟩; refine ⟨_, rfl, ?_⟩; have HO487 := Aside0.mk (Kd.R_lower (Kd.R_new' (Kd.R_new' ho0 (Kd.R_lt (kR HO_3.out))) (Kd.R_lt (kR HO484.out))) (below_size tb)); replace HO_3 := Aside0.mk (Kd.R_elder' (kR HO_3.out) (Kd.R_base ho0) hb); replace HO484 := Aside0.mk (Kd.R_elder' (kR HO484.out) (Kd.R_base ho0) hb); replace HB := Aside0.mk (below_step tb hb); (try clear hb); (try clear hb2); (try clear hk); (try clear hi); (try clear ho0)))
           go_roundg k1
           case measure => have := HK1.out; omega
           case rel => exact ⟨(t485), (wrap64 (x4_1 + 1)), (by first | rfl | (simp; done) | (simp [*]; done)), H', ⟨by have := HK1.out; omega⟩, ⟨by (with_reducible repeat (first | apply Kd.R_alloc | apply Kd.R_drewN | apply Kd.R_drew)); exact Kd.R_mono HO487.out (fun _ hk => trivial)⟩, ⟨tb⟩⟩
          ·rw [if_neg c18] at H
           have c18b0 : ((Int.tmod a0 x4_1) == 0) = false := beq_eq_false_iff_ne.mpr c18
           have c18b1 : ((Int.tmod a0 x4_1) != 0) = true := bne_iff_ne.mpr c18
           have H' := Aside0.mk H
           clear H
           go_wp2
           go_roundg k1
           case measure => have := HK1.out; omega
           case rel => exact ⟨(x3_1), (wrap64 (x4_1 + 1)), (by first | rfl | (simp; done) | (simp [*]; done)), H', ⟨by have := HK1.out; omega⟩, ⟨kR HO_3.out⟩, ⟨tb⟩⟩
        ·rw [if_neg c16] at H
         have c16b0 : decide (x4_1 < a0) = false := decide_eq_false c16
         clear c16
         obtain rfl := Option.some.inj H
         go_wp2
         go_ret
         exact ⟨_, by first | rfl | (simp [errW_none, errW_some] <;> rfl) | (simp only [← hji2]; first | rfl | (simp [errW_none, errW_some] <;> rfl)) | (simp [*, errW_none, errW_some] <;> rfl), kR HO_3.out, tb⟩
     ·rw [if_neg c8] at H
      exact absurd H (by simp)
    ·rw [if_neg c7] at H
     exact absurd H (by simp)
   ·rw [if_neg c5] at H
    exact absurd H (by simp)
  ·rw [if_neg c4] at H
   exact absurd H (by simp)
 ·rw [if_neg c3] at H
  exact absurd H (by simp)

end Go.Proofs.Ytgcggngleiggiaa.Pr
