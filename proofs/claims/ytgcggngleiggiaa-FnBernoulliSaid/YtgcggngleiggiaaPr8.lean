-- Printed by a program of this session, hand-proved contracts among it.
import Derived.Test.YtgcggngleiggiaaPr0
import Derived.Test.YtgcggngleiggiaaPr7
namespace Go.Proofs.Ytgcggngleiggiaa.Pr
open Go.RowKit Go.Proofs.YtgcggngleiggiaaW.PrintWords Go.Proofs.YtgcggngleiggiaaW.PrintLast Go.Proofs.YtgcggngleiggiaaW.PrintMore Go.Proofs.Ytgcggngleiggiaa.Sq
attribute [local go_sem] max2_int min2_int max_two min_two max_three min_three max_four min_four   -- for this text's walks alone
set_option linter.unusedVariables false
set_option linter.unusedSimpArgs false

/-! ### impl_quotient: function 281 -/
mutual
def impl_quotient.l0 : Nat → List Int → List Int → List Int → Int → Option (List Int)
 | 0, _, _, _, _ => none
 | k + 1, x0, x1, x5, x6 => if x6 ≥ 0 then (if 0 ≤ (wrap64 ((wrap64 (x6 + (x1.length : Int))) - 1)) then (if (wrap64 ((wrap64 (x6 + (x1.length : Int))) - 1)) < (x0.length : Int) then (if 0 ≤ x6 then (if x6 < (x5.length : Int) then (impl_quotient.l1 k x0 x1 (x5.set (x6 : Int).toNat (rd x0 (wrap64 ((wrap64 (x6 + (x1.length : Int))) - 1)))) x6 x1 (x1.length : Int) 0) else (none)) else (none)) else (none)) else (none)) else (some x5)
def impl_quotient.l1 : Nat → List Int → List Int → List Int → Int → List Int → Int → Int → Option (List Int)
 | 0, _, _, _, _, _, _, _ => none
 | k + 1, x0, x1, x5, x6, x36, x37, x38 => if x38 < x37 then (if 0 ≤ x38 then (if x38 < (x36.length : Int) then (if 0 ≤ (wrap64 (x6 + x38)) then (if (wrap64 (x6 + x38)) < (x0.length : Int) then (if 0 ≤ x6 then (if x6 < (x5.length : Int) then (impl_quotient.l1 k (x0.set ((wrap64 (x6 + x38)) : Int).toNat (wrap64 ((rd x0 (wrap64 (x6 + x38))) - (wrap64 ((rd x5 x6) * (rd x36 x38)))))) x1 x5 x6 x36 x37 (wrap64 (x38 + 1))) else (none)) else (none)) else (none)) else (none)) else (none)) else (none)) else (impl_quotient.l0 k x0 x1 x5 (wrap64 (x6 - 1)))
end
def impl_quotient.f (k : Nat) (l0 : List Int) (l1 : List Int) : Option (List Int) := (slices_Clone_int64_int64.f l0).bind fun t329 => (if 0 ≤ (wrap64 ((wrap64 ((t329.length : Int) - (l1.length : Int))) + 1)) then (if (wrap64 ((wrap64 ((t329.length : Int) - (l1.length : Int))) + 1) : Int).toNat ≤ 35184372088832 then ((some (List.replicate (wrap64 ((wrap64 ((t329.length : Int) - (l1.length : Int))) + 1) : Int).toNat 0 : List Int)).bind fun y332 => (impl_quotient.l0 k t329 l1 y332 (wrap64 ((y332.length : Int) - 1)))) else (none)) else (none))
def impl_quotient.T10 : Bool × List (List Nat × List Nat) := (true, [([], []), ([], []), ([], []), ([1, 2], [1, 2]), ([0, 3], [0, 3]), ([4], [4]), ([], []), ([], []), ([6, 7], [6, 7]), ([8], [8]), ([], []), ([9, 10], [9, 10]), ([5, 11], [5, 11]), ([0, 3, 0, 1, 2, 3, 4, 5, 6, 7, 8, 9, 10, 11, 12], [0, 3]), ([13, 12, 0, 1, 2, 3, 4, 5, 6, 7, 8, 9, 10, 11, 12], [12, 13])])
def impl_quotient.B10 : List Nat := [0, 0, 0, 6, 15, 31, 0, 0, 192, 448, 0, 1984, 4095, 8191, 16383]
theorem impl_quotient.tab10 : rtab .any (opsOf Try.f281 10) = impl_quotient.T10 := by kernel_rfl
theorem impl_quotient.bits10 : waitsOk impl_quotient.T10.2 impl_quotient.B10 = true := by kernel_rfl
set_option maxHeartbeats 8000000 in
set_option maxRecDepth 100000 in
theorem impl_quotient.calls (k : Nat) (A0 : Option Addr) (c0 : Nat) (l0 : List Int) (A1 : Option Addr) (c1 : Nat) (l1 : List Int) (r : List Int) (w : World) (hr0 : Kd.C (Kd.int .i64) w A0 l0.length l0) (hc0 : l0.length ≤ c0) (hr1 : Kd.C (Kd.int .i64) w A1 l1.length l1) (hc1 : l1.length ≤ c1) (h : impl_quotient.f k l0 l1 = some r) :
  Calls Try.prog 281 #[.slice A0 l0.length c0, .slice A1 l1.length c1] w fun e w' => ∃ v0_ : Value, e = .returned (v0_) ∧ Kd.R (Kd.int .i64) 2 w' w.heap.size (fun _ => True) v0_ r ∧ Below w.heap.size w w' := by
 have HR0 := Aside0.mk hr0
 have HC0 := Aside0.mk hc0
 clear hr0 hc0
 have HR1 := Aside0.mk hr1
 have HC1 := Aside0.mk hc1
 clear hr1 hc1
 have HB := Aside0.mk (Below.refl w.heap.size w)
 have H : ((slices_Clone_int64_int64.f l0).bind fun t329 => (if 0 ≤ (wrap64 ((wrap64 ((t329.length : Int) - (l1.length : Int))) + 1)) then (if (wrap64 ((wrap64 ((t329.length : Int) - (l1.length : Int))) + 1) : Int).toNat ≤ 35184372088832 then ((some (List.replicate (wrap64 ((wrap64 ((t329.length : Int) - (l1.length : Int))) + 1) : Int).toNat 0 : List Int)).bind fun y332 => (impl_quotient.l0 k t329 l1 y332 (wrap64 ((y332.length : Int) - 1)))) else (none)) else (none))) = some r := h
 clear h
 replace H := Option.bind_eq_some_iff.mp H
 obtain ⟨t329, A30, H⟩ := H
 replace H : (if 0 ≤ (wrap64 ((wrap64 ((t329.length : Int) - (l1.length : Int))) + 1)) then (if (wrap64 ((wrap64 ((t329.length : Int) - (l1.length : Int))) + 1) : Int).toNat ≤ 35184372088832 then ((some (List.replicate (wrap64 ((wrap64 ((t329.length : Int) - (l1.length : Int))) + 1) : Int).toNat 0 : List Int)).bind fun y332 => (impl_quotient.l0 k t329 l1 y332 (wrap64 ((y332.length : Int) - 1)))) else (none)) else (none)) = some r := H
 have A3 := Aside0.mk A30
 clear A30
 obtain ⟨ji4, hji4⟩ : ∃ j_ : Int, (wrap64 ((wrap64 ((t329.length : Int) - (l1.length : Int))) + 1)) = j_ := ⟨_, rfl⟩
 replace H : (if 0 ≤ (ji4) then (if (ji4 : Int).toNat ≤ 35184372088832 then ((some (List.replicate (ji4 : Int).toNat 0 : List Int)).bind fun y332 => (impl_quotient.l0 k t329 l1 y332 (wrap64 ((y332.length : Int) - 1)))) else (none)) else (none)) = some r := by first | (rw [hji4] at H; exact H) | (simp only [hji4] at H ⊢; exact H)
 (try rw [hji4] at A3)
 have hji4w : (IntKind.i64.wrap ((wrap64 ((t329.length : Int) - (l1.length : Int))) + 1)) = ji4 := (i64_w _).trans hji4
 by_cases c5 : 0 ≤ (ji4)
 ·rw [if_pos c5] at H
  have c5b0 := eq_true c5
  have c5b1 : decide (0 ≤ (ji4)) = true := decide_eq_true c5
  clear c5
  by_cases c6 : (ji4 : Int).toNat ≤ 35184372088832
  ·rw [if_pos c6] at H
   have c6b0 := eq_true c6
   have c6b1 : decide ((ji4 : Int).toNat ≤ 35184372088832) = true := decide_eq_true c6
   clear c6
   obtain ⟨y332, hy332⟩ : ∃ y_ : List Int, y_ = (List.replicate (ji4 : Int).toNat 0) := ⟨_, rfl⟩
   replace H : (impl_quotient.l0 k t329 l1 y332 (wrap64 ((y332.length : Int) - 1))) = some r := by first | (rw [hy332]; with_reducible exact H) | (rw [hy332]; with_reducible exact (bs H :)) | with_reducible exact (bs H :) | exact H
   have Ny332 := Aside0.mk hy332
   clear hy332
   have H' := Aside0.mk H
   clear H
   go_enter Try.func281, Try.ntmps281
   go_wp2_with (first | ((with_reducible refine gate_callee (f := 183) rfl ?_); refine goesL_ (some 10) rfl rfl Try.func183 (by kernel_rfl) rfl #[.slice A0 l0.length c0] rfl ar ?_; (with_reducible refine (slices_Clone_int64_int64.calls _ _ l0 t329 _ ?side1 ?side2 A3.out).mono ?_); (case side1 => exact kC HR0.out); (case side2 => exact HC0.out); rintro e w7 ⟨v330, rfl, ho0, hb⟩; refine ⟨_, rfl, ?_⟩; have HO331 := Aside0.mk (Kd.R_lower ho0 (below_size tb)); replace HB := Aside0.mk (below_step tb hb); (try clear hb); (try clear hb2); (try clear hk); (try clear hi); (try clear ho0); obtain ⟨Ao8, co8, eo8⟩ := Kd.R_slice HO331.out; subst eo8) | ((with_reducible refine gate_dst (N := 17) rfl ?_); refine Kd.R_make (Kd.int .i64) _ 2 rfl (N := 17) rfl 27 _ _ rfl ji4 rfl rfl Try.underlying27 (.int .i64 0) 8 info2 rfl (by decide) (by omega) 0 (ok := fun _ => True) (okp := fun _ => True) rfl (fun _ hk => hk) trivial (od) (Nat.le_trans (Nat.mul_le_mul_right _ (od : ji4.toNat ≤ 35184372088832)) (by omega)) (Below.refl _ _) (Nat.le_refl _) ?_; intro v333 w9 ho10 hb hg_ hnew_; clear hg_ hnew_; (first | rw [← Ny332.out] at ho10 | (simp only [Int.reduceToNat] at ho10; rw [← Ny332.out] at ho10)); have HO334 := Aside0.mk (Kd.R_lower (Kd.R_new' ho10 (Kd.R_lt (kR HO331.out))) (below_size tb)); replace HO331 := Aside0.mk (Kd.R_elder' (kR HO331.out) (Kd.R_base ho10) hb); replace HB := Aside0.mk (below_step tb hb); clear hb ho10; obtain ⟨Ao11, co11, eo11⟩ := Kd.R_slice HO334.out; subst eo11))
   go_loopg [6] k (fun kq v6 w' => ∃ (x0_1 : List Int) (x5_1 : List Int) (x6_1 : Int), v6 = .int .i64 x6_1 ∧ Aside0 (impl_quotient.l0 kq x0_1 l1 x5_1 x6_1 = some r) ∧ Aside0 (kq ≤ k) ∧ Aside0 (Kd.R (Kd.int .i64) 2 w' w.heap.size (fun k_ => some k_ ≠ ((.slice Ao11 y332.length co11) : Value).ownBlock) (.slice Ao8 t329.length co8) x0_1) ∧ Aside0 (Kd.R (Kd.int .i64) 2 w' w.heap.size (fun k_ => some k_ ≠ ((.slice Ao8 t329.length co8) : Value).ownBlock) (.slice Ao11 y332.length co11) x5_1) ∧ Aside0 (Below w.heap.size w w'))
   case atStart => exact ⟨(t329), (y332), (wrap64 ((y332.length : Int) - 1)), (by first | rfl | (simp; done) | (simp [*]; done)), H', ⟨Nat.le_refl _⟩, ⟨by (with_reducible repeat (first | apply Kd.R_alloc | apply Kd.R_drewN | apply Kd.R_drew)); exact Kd.R_mono HO331.out (fun _ hk => hk.2)⟩, ⟨by (with_reducible repeat (first | apply Kd.R_alloc | apply Kd.R_drewN | apply Kd.R_drew)); exact Kd.R_mono HO334.out (fun _ hk => hk.2)⟩, ⟨tb⟩⟩
   case round =>
    clear H'
    try clear c1
    try clear c2
    try clear p2
    try clear c5
    try clear c5b0
    try clear c5b1
    try clear c6
    try clear c6b0
    try clear c6b1
    try clear p6
    obtain ⟨x0_1, x5_1, x6_1, rfl, HA, HK1, HO_0, HO_5, HB⟩ := hrel
    have hl0_1 := (Kd.R_reads' HO_0.out).1
    rw [hl0_1] at HO_0
    (try simp only [hl0_1])
    (try simp only [hl0_1] at HO_5)
    have hl5_1 := (Kd.R_reads' HO_5.out).1
    rw [hl5_1] at HO_5
    (try simp only [hl5_1])
    (try simp only [hl5_1] at HO_0)
    cases gk with
    | zero => exact absurd HA.out (by simp [impl_quotient.l0])
    | succ k1 =>
     have H := HA.out
     clear HA
     simp only [impl_quotient.l0] at H
     by_cases c12 : x6_1 ≥ 0
     ·rw [if_pos c12] at H
      have c12b0 : decide (0 ≤ x6_1) = true := decide_eq_true c12
      clear c12
      obtain ⟨ji13, hji13⟩ : ∃ j_ : Int, (wrap64 ((wrap64 (x6_1 + (l1.length : Int))) - 1)) = j_ := ⟨_, rfl⟩
      replace H : (if 0 ≤ (ji13) then (if (ji13) < (x0_1.length : Int) then (if 0 ≤ x6_1 then (if x6_1 < (x5_1.length : Int) then (impl_quotient.l1 k1 x0_1 l1 (x5_1.set (x6_1 : Int).toNat (rd x0_1 (ji13))) x6_1 l1 (l1.length : Int) 0) else (none)) else (none)) else (none)) else (none)) = some r := by first | (rw [hji13] at H; exact H) | (simp only [hji13] at H ⊢; exact H)
      have hji13w : (IntKind.i64.wrap ((wrap64 (x6_1 + (l1.length : Int))) - 1)) = ji13 := (i64_w _).trans hji13
      by_cases c14 : 0 ≤ (ji13)
      ·rw [if_pos c14] at H
       have c14b0 : decide (0 ≤ (ji13)) = true := decide_eq_true c14
       clear c14
       by_cases c15 : (ji13) < (x0_1.length : Int)
       ·rw [if_pos c15] at H
        have c15b0 : decide ((ji13) < (x0_1.length : Int)) = true := decide_eq_true c15
        clear c15
        by_cases c16 : 0 ≤ x6_1
        ·rw [if_pos c16] at H
         have c16b0 : decide (0 ≤ x6_1) = true := decide_eq_true c16
         clear c16
         by_cases c17 : x6_1 < (x5_1.length : Int)
         ·rw [if_pos c17] at H
          have c17b0 : decide (x6_1 < (x5_1.length : Int)) = true := decide_eq_true c17
          clear c17
          obtain ⟨y336, hy336⟩ : ∃ y_ : List Int, y_ = (x5_1.set (x6_1 : Int).toNat (rd x0_1 (ji13))) := ⟨_, rfl⟩
          replace H : (impl_quotient.l1 k1 x0_1 l1 y336 x6_1 l1 (l1.length : Int) 0) = some r := by first | (rw [hy336]; with_reducible exact H) | (rw [hy336]; with_reducible exact (bs H :)) | with_reducible exact (bs H :) | exact H
          have Ny336 := Aside0.mk hy336
          clear hy336
          have H' := Aside0.mk H
          clear H
          have p335 : 0 ≤ ((ji13) : Int) := od
          have q335 : (ji13) < (x0_1.length : Int) := od
          obtain ⟨ad335, e335, hx335_0⟩ := Kd.at_int (Kd.R_reads' HO_0.out).2.2 (ji13) p335 q335
          cases e335
          replace p335 := eq_true p335
          replace q335 := eq_true q335
          have p18 : 0 ≤ (x6_1 : Int) := od
          have q18 : (x6_1 : Int) < ((x5_1.length : Int) : Int) := od
          obtain ⟨go18, co18, eo18, gb18, gl18, cl18, HG18⟩ := Kd.R_form HO_5.out (by omega)
          (first | cases eo18 | (injection eo18 with ea_ en_ ec_; (first | subst ea_ | (injection ea_ with ea_; subst ea_)); subst ec_; clear en_))
          have GB18 := Aside0.mk gb18
          have GG18 := Aside0.mk HG18
          clear gb18 gl18 HG18
          obtain ⟨hx18_0, hf18_0⟩ := Kd.R_celln 0 HO_5.out (x6_1 : Int) p18 q18
          replace p18 := eq_true p18
          replace q18 := eq_true q18
          have HP19 := Kd.R_putg HO_5.out (x6_1 : Int) (rd x0_1 (ji13))
          go_wp2_with (first | ((with_reducible refine gate_store (t := 2) (p := 35) rfl ?_); refine store_event (t := 2) (p := 35) (v := ?vo_w20) (w1 := (wr.setCell ⟨go18, (x6_1 : Int).toNat, none⟩ (.int .i64 (rd x0_1 (ji13))))) ?hg ?ho ?hn ?hr ?_; (case ho => rfl); (case hg => rfl); (case hn => rfl); (case hr => first | (go_simp; done) | (go_simp; rfl)); intro w20 hw; have hg : wr.grownBy w20 (some go18) := (by rw [hw]; exact HP19.2); have hp_ : Kd.R (Kd.int .i64) 2 w20 w.heap.size (fun k_ => some k_ ≠ (.slice (some ad335) x0_1.length co8 : Value).ownBlock) (.slice (some ⟨go18, 0, none⟩) x5_1.length co11) y336 := (by rw [hw, Ny336.out]; exact HP19.1); clear HP19; replace HO_0 := Aside0.mk (Kd.R_after (v := (.slice (some ⟨go18, 0, none⟩) x5_1.length co11)) (v1 := (.slice (some ⟨go18, 0, none⟩) x5_1.length co11)) (ok := (fun _ => True)) (by (with_reducible repeat (first | apply Kd.R_alloc | apply Kd.R_drewN | apply Kd.R_drew)); exact Kd.R_mono HO_0.out (fun _ hk => ⟨trivial, hk⟩)) hg (.inl rfl)); replace HO_5 := Aside0.mk (hp_); replace HB := Aside0.mk ((by rw [hw]; exact below_set (HB.out) GB18.out : Below w.heap.size w w20)); clear hg hw hp_))
          (try generalize Value.pointer (some (ad335.add ((ji13) : Int).toNat)) = dp_ad335_)
          go_loopg [38] k1 (fun kq v38 w' => ∃ (x0_2 : List Int) (x38_2 : Int), v38 = .int .i64 x38_2 ∧ Aside0 (impl_quotient.l1 kq x0_2 l1 y336 x6_1 l1 (l1.length : Int) x38_2 = some r) ∧ Aside0 (kq ≤ k1) ∧ Aside0 (Kd.R (Kd.int .i64) 2 w' w.heap.size (fun k_ => some k_ ≠ ((.slice (some ⟨go18, 0, none⟩) x5_1.length co11) : Value).ownBlock) (.slice (some ad335) x0_1.length co8) x0_2) ∧ Aside0 (Kd.R (Kd.int .i64) 2 w' w.heap.size (fun k_ => some k_ ≠ ((.slice (some ad335) x0_1.length co8) : Value).ownBlock) (.slice (some ⟨go18, 0, none⟩) x5_1.length co11) y336) ∧ Aside0 (Below w.heap.size w w'))
          case atStart => exact ⟨(x0_1), (0), (by first | rfl | (simp; done) | (simp [*]; done)), H', ⟨Nat.le_refl _⟩, ⟨by (try simp only [hl0_1]); (try simp only [hl5_1]); (with_reducible repeat (first | apply Kd.R_alloc | apply Kd.R_drewN | apply Kd.R_drew)); exact Kd.R_mono HO_0.out (fun _ hk => hk.2)⟩, ⟨by (try simp only [hl0_1]); (try simp only [hl5_1]); (with_reducible repeat (first | apply Kd.R_alloc | apply Kd.R_drewN | apply Kd.R_drew)); exact HO_5.out⟩, ⟨tb⟩⟩
          case round =>
           clear H'
           try clear c1
           try clear p1
           try clear q1
           try clear hx1
           try clear c2
           try clear p2
           try clear p3
           try clear q3
           try clear hx3
           try clear c5
           try clear c5b0
           try clear c5b1
           try clear c6
           try clear c6b0
           try clear c6b1
           try clear p6
           try clear c12
           try clear c12b0
           try clear c14
           try clear c14b0
           try clear c15
           try clear c15b0
           try clear c16
           try clear c16b0
           try clear c17
           try clear c17b0
           try clear c18
           try clear p18
           try clear q18
           try clear hx18
           try clear hf18
           try clear hx18_0
           try clear hx335_0
           try clear p18
           try clear p2
           try clear p335
           try clear p6
           try clear q18
           try clear q335
           obtain ⟨x0_2, x38_2, rfl, HA, HK2, HO_0, HO_5, HB⟩ := hrel
           have hl0_2 := (Kd.R_reads' HO_0.out).1
           rw [hl0_2] at HO_0
           (try simp only [hl0_2])
           (try simp only [hl0_2] at HO_5)
           have hl5_2 := (Kd.R_reads' HO_5.out).1
           rw [hl5_2] at HO_5
           (try simp only [hl5_2])
           (try simp only [hl5_2] at HO_0)
           cases gk with
           | zero => exact absurd HA.out (by simp [impl_quotient.l1])
           | succ k2 =>
            have H := HA.out
            clear HA
            simp only [impl_quotient.l1] at H
            by_cases c21 : x38_2 < (l1.length : Int)
            ·rw [if_pos c21] at H
             have c21b0 : decide (x38_2 < (l1.length : Int)) = true := decide_eq_true c21
             clear c21
             by_cases c22 : 0 ≤ x38_2
             ·rw [if_pos c22] at H
              have c22b0 : decide (0 ≤ x38_2) = true := decide_eq_true c22
              clear c22
              by_cases c23 : x38_2 < (l1.length : Int)
              ·rw [if_pos c23] at H
               have c23b0 : decide (x38_2 < (l1.length : Int)) = true := decide_eq_true c23
               clear c23
               obtain ⟨ji24, hji24⟩ : ∃ j_ : Int, (wrap64 (x6_1 + x38_2)) = j_ := ⟨_, rfl⟩
               replace H : (if 0 ≤ (ji24) then (if (ji24) < (x0_2.length : Int) then (if 0 ≤ x6_1 then (if x6_1 < (y336.length : Int) then (impl_quotient.l1 k2 (x0_2.set ((ji24) : Int).toNat (wrap64 ((rd x0_2 (ji24)) - (wrap64 ((rd y336 x6_1) * (rd l1 x38_2)))))) l1 y336 x6_1 l1 (l1.length : Int) (wrap64 (x38_2 + 1))) else (none)) else (none)) else (none)) else (none)) = some r := by first | (rw [hji24] at H; exact H) | (simp only [hji24] at H ⊢; exact H)
               have hji24w : (IntKind.i64.wrap (x6_1 + x38_2)) = ji24 := (i64_w _).trans hji24
               by_cases c25 : 0 ≤ (ji24)
               ·rw [if_pos c25] at H
                have c25b0 : decide (0 ≤ (ji24)) = true := decide_eq_true c25
                clear c25
                by_cases c26 : (ji24) < (x0_2.length : Int)
                ·rw [if_pos c26] at H
                 have c26b0 : decide ((ji24) < (x0_2.length : Int)) = true := decide_eq_true c26
                 clear c26
                 by_cases c27 : 0 ≤ x6_1
                 ·rw [if_pos c27] at H
                  have c27b0 : decide (0 ≤ x6_1) = true := decide_eq_true c27
                  clear c27
                  by_cases c28 : x6_1 < (y336.length : Int)
                  ·rw [if_pos c28] at H
                   have c28b0 : decide (x6_1 < (y336.length : Int)) = true := decide_eq_true c28
                   clear c28
                   obtain ⟨y340, hy340⟩ : ∃ y_ : List Int, y_ = (x0_2.set ((ji24) : Int).toNat (wrap64 ((rd x0_2 (ji24)) - (wrap64 ((rd y336 x6_1) * (rd l1 x38_2)))))) := ⟨_, rfl⟩
                   replace H : (impl_quotient.l1 k2 y340 l1 y336 x6_1 l1 (l1.length : Int) (wrap64 (x38_2 + 1))) = some r := by first | (rw [hy340]; with_reducible exact H) | (rw [hy340]; with_reducible exact (bs H :)) | with_reducible exact (bs H :) | exact H
                   have Ny340 := Aside0.mk hy340
                   clear hy340
                   have H' := Aside0.mk H
                   clear H
                   have p337 : 0 ≤ (x38_2 : Int) := od
                   have q337 : x38_2 < (l1.length : Int) := od
                   obtain ⟨ad337, e337, hx337_0⟩ := Kd.at_int HR1.out x38_2 p337 q337
                   cases e337
                   replace hx337_0 := (HB.out.cell (World.block_lt_of_cell? _ _ hx337_0)).trans hx337_0
                   replace p337 := eq_true p337
                   replace q337 := eq_true q337
                   try go_wp2
                   replace HO_0 := Aside0.mk (Kd.R_drew HO_0.out)
                   replace HO_5 := Aside0.mk (Kd.R_drew HO_5.out)
                   replace HB := Aside0.mk (below_drew1 HB.out)
                   have p338 : 0 ≤ ((ji24) : Int) := od
                   have q338 : (ji24) < (x0_2.length : Int) := od
                   obtain ⟨ad338, e338, hx338_0⟩ := Kd.at_int (Kd.R_reads' HO_0.out).2.2 (ji24) p338 q338
                   obtain rfl : ad335 = ad338 := (by injection e338)
                   replace p338 := eq_true p338
                   replace q338 := eq_true q338
                   have p339 : 0 ≤ (x6_1 : Int) := od
                   have q339 : x6_1 < (y336.length : Int) := od
                   obtain ⟨ad339, e339, hx339_0⟩ := Kd.at_int (Kd.R_reads' HO_5.out).2.2 x6_1 p339 q339
                   obtain rfl : (⟨go18, 0, none⟩ : Addr) = ad339 := (by injection e339)
                   (first | simp only [add_plain] at hx339_0 | simp only [add_at] at hx339_0 | simp only [Addr.add, Nat.zero_add] at hx339_0 | skip)
                   replace p339 := eq_true p339
                   replace q339 := eq_true q339
                   have p29 : 0 ≤ ((ji24) : Int) := od
                   have q29 : ((ji24) : Int) < ((x0_2.length : Int) : Int) := od
                   obtain ⟨go29, co29, eo29, gb29, gl29, cl29, HG29⟩ := Kd.R_form HO_0.out (by omega)
                   (first | cases eo29 | (injection eo29 with ea_ en_ ec_; (first | subst ea_ | (injection ea_ with ea_; subst ea_)); subst ec_; clear en_))
                   have GB29 := Aside0.mk gb29
                   have GG29 := Aside0.mk HG29
                   clear gb29 gl29 HG29
                   (first | simp only [add_plain] at hx335_0 | skip)
                   (first | simp only [add_plain] at hx338_0 | skip)
                   obtain ⟨hx29_0, hf29_0⟩ := Kd.R_celln 0 HO_0.out ((ji24) : Int) p29 q29
                   replace p29 := eq_true p29
                   replace q29 := eq_true q29
                   have HP31 := Kd.R_putn HO_0.out ((ji24) : Int) (wrap64 ((rd x0_2 (ji24)) - (wrap64 ((rd y336 x6_1) * (rd l1 x38_2)))))
                   rw [← Ny340.out] at HP31
                   have HQ31 := Aside0.mk HP31
                   clear HP31
                   refine start_ (n := 15) (S := fun w' => w'.cell? ⟨go29, ((ji24)).toNat, none⟩ = some (.int .i64 (rd x0_2 (ji24))) ∧ w'.cell? ⟨go18, (x6_1).toNat, none⟩ = some (.int .i64 (rd y336 x6_1))) (ds := [14]) #[false, false, false, false, false, false, false, false, false, false, false, false, false, false, false] (by kernel_rfl) rfl rfl ⟨hx338_0, hx339_0⟩ (fun hHeld => ?_); refine with_tabW impl_quotient.tab10 impl_quotient.bits10 (fun HT_ HW_ => ?_)
                   generalize wr.drew = w30 at HO_0 HO_5 HB GG29 HQ31 hf29_0 hx29_0 hx338_0 hx339_0 hHeld ⊢
                   refine pu 0 (some 43) #[true, false, false, false, false, false, false, false, false, false, false, false, false, false, false] ?_
                   refine pu 1 (some 44) #[true, true, false, false, false, false, false, false, false, false, false, false, false, false, false] ?_
                   refine pu 2 (some 45) #[true, true, true, false, false, false, false, false, false, false, false, false, false, false, false] ?_
                   refine pu 3 (some 46) #[true, true, true, true, false, false, false, false, false, false, false, false, false, false, false] ?_
                   refine pu 4 (some 47) #[true, true, true, true, true, false, false, false, false, false, false, false, false, false, false] ?_
                   refine pu 6 (some 49) #[true, true, true, true, true, false, true, false, false, false, false, false, false, false, false] ?_
                   refine pu 7 (some 50) #[true, true, true, true, true, false, true, true, false, false, false, false, false, false, false] ?_
                   refine pu 8 (some 51) #[true, true, true, true, true, false, true, true, true, false, false, false, false, false, false] ?_
                   refine pu 10 (some 53) #[true, true, true, true, true, false, true, true, true, false, true, false, false, false, false] ?_
                   refine tk 5 (some 48) #[true, true, true, true, true, true, true, true, true, false, true, false, false, false, false] hHeld ?_
                   refine tk 9 (some 52) #[true, true, true, true, true, true, true, true, true, true, true, false, false, false, false] hHeld ?_
                   refine pu 11 (some 54) #[true, true, true, true, true, true, true, true, true, true, true, true, false, false, false] ?_
                   refine pu 12 (some 55) #[true, true, true, true, true, true, true, true, true, true, true, true, true, false, false] ?_
                   refine pu 13 (some 56) #[true, true, true, true, true, true, true, true, true, true, true, true, true, true, false] ?_
                   refine last_ (i := 14) (N := none) #[true, true, true, true, true, true, true, true, true, true, true, true, true, true, true] rfl rfl (one_of HT_.out (by kernel_rfl)) (by decide) (fun K hK => ?_)
                   refine skip_ (w1 := ?_) (by rfl) rfl ?_ ?_
                   rotate_left
                   ·go_simp
                    rfl
                   refine hK.out _ _ ?_
                   clear hK K
                   refine done_ (done_of HT_.out (by kernel_rfl)) ?_
                   try go_wp2
                   (try simp only [← hl0_2, ← hl5_2])
                   go_roundg k2
                   case measure => have := HK1.out; have := HK2.out; omega
                   case rel => exact ⟨(y340), (wrap64 (x38_2 + 1)), (by first | rfl | (simp; done) | (simp [*]; done)), H', ⟨by have := HK1.out; have := HK2.out; omega⟩, ⟨by (try simp only [hl0_1]); (try simp only [hl5_1]); (try simp only [hl0_2]); (try simp only [hl5_2]); (with_reducible repeat (first | apply Kd.R_alloc | apply Kd.R_drewN | apply Kd.R_drew)); exact HQ31.out⟩, ⟨by (try simp only [hl0_1]); (try simp only [hl5_1]); (try simp only [hl0_2]); (try simp only [hl5_2]); (with_reducible repeat (first | apply Kd.R_alloc | apply Kd.R_drewN | apply Kd.R_drew)); exact Kd.R_mono (Kd.R_far (p := ⟨go29, ((ji24) : Int).toNat, none⟩) (Kd.R_mono HO_5.out (fun k_ hk => (⟨hk, fun e_ => hk (by rw [e_]; rfl)⟩ : _ ∧ k_ ≠ go29))) (fun _ hk => hk.2) (.int .i64 (wrap64 ((rd x0_2 (ji24)) - (wrap64 ((rd y336 x6_1) * (rd l1 x38_2))))))) (fun _ hk => hk.1)⟩, ⟨tb⟩⟩
                  ·rw [if_neg c28] at H
                   exact absurd H (by simp)
                 ·rw [if_neg c27] at H
                  exact absurd H (by simp)
                ·rw [if_neg c26] at H
                 exact absurd H (by simp)
               ·rw [if_neg c25] at H
                exact absurd H (by simp)
              ·rw [if_neg c23] at H
               exact absurd H (by simp)
             ·rw [if_neg c22] at H
              exact absurd H (by simp)
            ·rw [if_neg c21] at H
             have c21b0 : decide (x38_2 < (l1.length : Int)) = false := decide_eq_false c21
             (try (have c21b0_hl0_1 := c21b0; simp only [hl0_1] at c21b0_hl0_1))
             (try (have c21b0_hl0_1_ := c21b0; simp only [← hl0_1] at c21b0_hl0_1_))
             (try (have c21b0_hl5_1 := c21b0; simp only [hl5_1] at c21b0_hl5_1))
             (try (have c21b0_hl5_1_ := c21b0; simp only [← hl5_1] at c21b0_hl5_1_))
             (try (have c21b0_hl0_2 := c21b0; simp only [hl0_2] at c21b0_hl0_2))
             (try (have c21b0_hl0_2_ := c21b0; simp only [← hl0_2] at c21b0_hl0_2_))
             (try (have c21b0_hl5_2 := c21b0; simp only [hl5_2] at c21b0_hl5_2))
             (try (have c21b0_hl5_2_ := c21b0; simp only [← hl5_2] at c21b0_hl5_2_))
             clear c21
             have H' := Aside0.mk H
             clear H
             go_wp2
             (try simp only [← hl0_1, ← hl5_1, ← hl0_2, ← hl5_2])
             go_roundg k2
             case measure => have := HK1.out; have := HK2.out; omega
             case rel => exact ⟨(x0_2), (y336), (wrap64 (x6_1 - 1)), (by first | rfl | (simp; done) | (simp [*]; done)), H', ⟨by have := HK1.out; have := HK2.out; omega⟩, ⟨by (try simp only [hl0_1]); (try simp only [hl5_1]); (try simp only [hl0_2]); (try simp only [hl5_2]); (with_reducible repeat (first | apply Kd.R_alloc | apply Kd.R_drewN | apply Kd.R_drew)); exact HO_0.out⟩, ⟨by (try simp only [hl0_1]); (try simp only [hl5_1]); (try simp only [hl0_2]); (try simp only [hl5_2]); (with_reducible repeat (first | apply Kd.R_alloc | apply Kd.R_drewN | apply Kd.R_drew)); exact HO_5.out⟩, ⟨tb⟩⟩
         ·rw [if_neg c17] at H
          exact absurd H (by simp)
        ·rw [if_neg c16] at H
         exact absurd H (by simp)
       ·rw [if_neg c15] at H
        exact absurd H (by simp)
      ·rw [if_neg c14] at H
       exact absurd H (by simp)
     ·rw [if_neg c12] at H
      have c12b0 : decide (0 ≤ x6_1) = false := decide_eq_false c12
      clear c12
      obtain rfl := Option.some.inj H
      go_wp2
      go_ret
      exact ⟨_, by first | rfl | (simp [errW_none, errW_some] <;> rfl) | (simp only [← hji4]; first | rfl | (simp [errW_none, errW_some] <;> rfl)) | (simp [*, errW_none, errW_some] <;> rfl), by (with_reducible repeat (first | apply Kd.R_alloc | apply Kd.R_drewN | apply Kd.R_drew)); exact Kd.R_mono HO_5.out (fun _ hk => trivial), tb⟩
  ·rw [if_neg c6] at H
   exact absurd H (by simp)
 ·rw [if_neg c5] at H
  exact absurd H (by simp)

/-! ### impl_cyclotomic: function 266 -/
mutual
def impl_cyclotomic.l0 : Nat → Int → List Int → Int → Option (List Int)
 | 0, _, _, _ => none
 | k + 1, x0, x3, x4 => if x4 < x0 then (if x4 = 0 then (none) else (if (Int.tmod x0 x4) = 0 then ((impl_cyclotomic.f k x4).bind fun t346 => ((impl_quotient.f k x3 t346).bind fun t349 => (impl_cyclotomic.l0 k x0 t349 (wrap64 (x4 + 1))))) else (impl_cyclotomic.l0 k x0 x3 (wrap64 (x4 + 1))))) else (some x3)
def impl_cyclotomic.f : Nat → Int → Option (List Int)
 | 0, _ => none
 | k + 1, a0 => if 0 ≤ (wrap64 (a0 + 1)) then (if (wrap64 (a0 + 1) : Int).toNat ≤ 35184372088832 then ((some (List.replicate (wrap64 (a0 + 1) : Int).toNat 0 : List Int)).bind fun y341 => (if 0 < (y341.length : Int) then (if 0 ≤ a0 then (if a0 < (y341.length : Int) then (impl_cyclotomic.l0 k a0 ((y341.set (0 : Int).toNat (-1)).set (a0 : Int).toNat 1) 1) else (none)) else (none)) else (none))) else (none)) else (none)
end
set_option maxHeartbeats 8000000 in
set_option maxRecDepth 100000 in
theorem impl_cyclotomic.calls (k : Nat) : ∀ (a0 : Int) (r : List Int) (w : World) (h : impl_cyclotomic.f k a0 = some r),
  Calls Try.prog 266 #[.int .i64 a0] w fun e w' => ∃ v0_ : Value, e = .returned (v0_) ∧ Kd.R (Kd.int .i64) 2 w' w.heap.size (fun _ => True) v0_ r ∧ Below w.heap.size w w' := by
 induction k using Nat.strongRecOn with
 | _ k ih =>
 intro a0 r w h
 cases k with
 | zero => exact absurd h (by simp [impl_cyclotomic.f])
 | succ k =>
 simp only [impl_cyclotomic.f] at h
 have HB := Aside0.mk (Below.refl w.heap.size w)
 have H : (if 0 ≤ (wrap64 (a0 + 1)) then (if (wrap64 (a0 + 1) : Int).toNat ≤ 35184372088832 then ((some (List.replicate (wrap64 (a0 + 1) : Int).toNat 0 : List Int)).bind fun y341 => (if 0 < (y341.length : Int) then (if 0 ≤ a0 then (if a0 < (y341.length : Int) then (impl_cyclotomic.l0 k a0 ((y341.set (0 : Int).toNat (-1)).set (a0 : Int).toNat 1) 1) else (none)) else (none)) else (none))) else (none)) else (none)) = some r := h
 clear h
 obtain ⟨ji2, hji2⟩ : ∃ j_ : Int, (wrap64 (a0 + 1)) = j_ := ⟨_, rfl⟩
 replace H : (if 0 ≤ (ji2) then (if (ji2 : Int).toNat ≤ 35184372088832 then ((some (List.replicate (ji2 : Int).toNat 0 : List Int)).bind fun y341 => (if 0 < (y341.length : Int) then (if 0 ≤ a0 then (if a0 < (y341.length : Int) then (impl_cyclotomic.l0 k a0 ((y341.set (0 : Int).toNat (-1)).set (a0 : Int).toNat 1) 1) else (none)) else (none)) else (none))) else (none)) else (none)) = some r := by first | (rw [hji2] at H; exact H) | (simp only [hji2] at H ⊢; exact H)
 have hji2w : (IntKind.i64.wrap (a0 + 1)) = ji2 := (i64_w _).trans hji2
 by_cases c3 : 0 ≤ (ji2)
 ·rw [if_pos c3] at H
  have c3b0 := eq_true c3
  have c3b1 : decide (0 ≤ (ji2)) = true := decide_eq_true c3
  clear c3
  by_cases c4 : (ji2 : Int).toNat ≤ 35184372088832
  ·rw [if_pos c4] at H
   have c4b0 := eq_true c4
   have c4b1 : decide ((ji2 : Int).toNat ≤ 35184372088832) = true := decide_eq_true c4
   clear c4
   obtain ⟨y341, hy341⟩ : ∃ y_ : List Int, y_ = (List.replicate (ji2 : Int).toNat 0) := ⟨_, rfl⟩
   replace H : (if 0 < (y341.length : Int) then (if 0 ≤ a0 then (if a0 < (y341.length : Int) then (impl_cyclotomic.l0 k a0 ((y341.set (0 : Int).toNat (-1)).set (a0 : Int).toNat 1) 1) else (none)) else (none)) else (none)) = some r := by first | (rw [hy341]; with_reducible exact H) | (rw [hy341]; with_reducible exact (bs H :)) | with_reducible exact (bs H :) | exact H
   have Ny341 := Aside0.mk hy341
   clear hy341
   by_cases c5 : 0 < (y341.length : Int)
   ·rw [if_pos c5] at H
    have c5b0 : decide (0 < (y341.length : Int)) = true := decide_eq_true c5
    have c5b1 : decide (0 < y341.length) = true := decide_eq_true (by omega)
    clear c5
    obtain ⟨y344, hy344⟩ : ∃ y_ : List Int, y_ = (y341.set (0 : Int).toNat (-1)) := ⟨_, rfl⟩
    replace H : (if 0 ≤ a0 then (if a0 < (y341.length : Int) then (impl_cyclotomic.l0 k a0 (y344.set (a0 : Int).toNat 1) 1) else (none)) else (none)) = some r := by first | (rw [hy344]; with_reducible exact H) | (rw [hy344]; with_reducible exact (bs H :)) | with_reducible exact (bs H :) | exact H
    have Ny344 := Aside0.mk hy344
    clear hy344
    by_cases c7 : 0 ≤ a0
    ·rw [if_pos c7] at H
     have c7b0 : decide (0 ≤ a0) = true := decide_eq_true c7
     clear c7
     by_cases c8 : a0 < (y341.length : Int)
     ·rw [if_pos c8] at H
      have c8b0 : decide (a0 < (y341.length : Int)) = true := decide_eq_true c8
      clear c8
      obtain ⟨y345, hy345⟩ : ∃ y_ : List Int, y_ = (y344.set (a0 : Int).toNat 1) := ⟨_, rfl⟩
      replace H : (impl_cyclotomic.l0 k a0 y345 1) = some r := by first | (rw [hy345]; with_reducible exact H) | (rw [hy345]; with_reducible exact (bs H :)) | with_reducible exact (bs H :) | exact H
      have Ny345 := Aside0.mk hy345
      clear hy345
      have H' := Aside0.mk H
      clear H
      go_enter Try.func266, Try.ntmps266
      go_wp2_with (first | ((with_reducible refine gate_dst (N := 7) rfl ?_); refine Kd.R_make (Kd.int .i64) _ 2 rfl (N := 7) rfl 27 _ _ rfl ji2 rfl rfl Try.underlying27 (.int .i64 0) 8 info2 rfl (by decide) (by omega) 0 (ok := fun _ => True) (okp := fun _ => True) rfl (fun _ hk => hk) trivial (od) (Nat.le_trans (Nat.mul_le_mul_right _ (od : ji2.toNat ≤ 35184372088832)) (by omega)) (Below.refl _ _) (Nat.le_refl _) ?_; intro v342 w10 ho11 hb hg_ hnew_; clear hg_ hnew_; (first | rw [← Ny341.out] at ho11 | (simp only [Int.reduceToNat] at ho11; rw [← Ny341.out] at ho11)); have HO343 := Aside0.mk (Kd.R_lower ho11 (below_size tb)); replace HB := Aside0.mk (below_step tb hb); clear hb ho11; have p6 : 0 ≤ (0 : Int) := (by omega); have q6 : (0 : Int) < ((y341.length : Int) : Int) := od; have qi6 : (0 < y341.length) = True := eq_true (by omega); obtain ⟨go6, co6, eo6, gb6, gl6, cl6, HG6⟩ := Kd.R_form HO343.out (by omega); (first | cases eo6 | (injection eo6 with ea_ en_ ec_; (first | subst ea_ | (injection ea_ with ea_; subst ea_)); subst ec_; clear en_)); have GB6 := Aside0.mk gb6; have GG6 := Aside0.mk HG6; clear gb6 gl6 HG6; obtain ⟨hx6_0, hf6_0⟩ := Kd.R_celln 0 HO343.out (0 : Int) p6 q6; (try rw [show ((0 : Int)).toNat = 0 from rfl] at hx6_0); (try simp only [Nat.reduceMul, Nat.zero_mul, Nat.zero_add, Nat.reduceAdd] at hx6_0); (try rw [show ((0 : Int)).toNat = 0 from rfl] at hf6_0); (try simp only [Nat.reduceMul, Nat.zero_mul, Nat.zero_add, Nat.reduceAdd] at hf6_0); replace p6 := eq_true p6; replace q6 := eq_true q6; obtain ⟨hy12_, hz12_⟩ := Kd.R_celln 0 HO343.out (0 : Int) (by omega) (od); (try simp only [Int.reduceToNat, Int.toNat_zero, Int.toNat_ofNat, Nat.reduceMul, Nat.zero_mul, Nat.zero_add] at hy12_ hz12_); (try rw [show ((0 : Int)).toNat = 0 from rfl] at hy12_); (try rw [show ((0 : Int)).toNat = 0 from rfl] at hz12_); have HP12 := Kd.R_putg HO343.out (0 : Int) (-1)) | ((with_reducible refine gate_store (t := 2) (p := 11) rfl ?_); refine store_event (t := 2) (p := 11) (v := ?vo_w13) (w1 := (w10.setCell ⟨go6, (0 : Int).toNat, none⟩ (.int .i64 (-1)))) ?hg ?ho ?hn ?hr ?_; (case ho => rfl); (case hg => rfl); (case hn => rfl); (case hr => first | (go_simp; done) | (go_simp; rfl)); intro w13 hw; have hg : w10.grownBy w13 (some go6) := (by rw [hw]; exact HP12.2); have hp_ : Kd.R (Kd.int .i64) 2 w13 w.heap.size (fun _ => True) (.slice (some ⟨go6, 0, none⟩) y341.length co6) y344 := (by rw [hw, Ny344.out]; exact HP12.1); clear HP12; replace HO343 := Aside0.mk (hp_); replace HB := Aside0.mk ((by rw [hw]; exact below_set (HB.out) GB6.out : Below w.heap.size w w13)); clear hg hw hp_; have p9 : 0 ≤ (a0 : Int) := od; have q9 : (a0 : Int) < ((y341.length : Int) : Int) := od; obtain ⟨hx9_0, hf9_0⟩ := Kd.R_celln 0 HO343.out (a0 : Int) p9 q9; replace p9 := eq_true p9; replace q9 := eq_true q9; obtain ⟨hy14_, hz14_⟩ := Kd.R_celln 0 HO343.out (a0 : Int) (od) (od); have HP14 := Kd.R_putg HO343.out (a0 : Int) 1) | ((with_reducible refine gate_store (t := 2) (p := 12) rfl ?_); refine store_event (t := 2) (p := 12) (v := ?vo_w15) (w1 := (w13.setCell ⟨go6, (a0 : Int).toNat, none⟩ (.int .i64 1))) ?hg ?ho ?hn ?hr ?_; (case ho => rfl); (case hg => rfl); (case hn => rfl); (case hr => first | (go_simp; done) | (go_simp; rfl)); intro w15 hw; have hg : w13.grownBy w15 (some go6) := (by rw [hw]; exact HP14.2); have hp_ : Kd.R (Kd.int .i64) 2 w15 w.heap.size (fun _ => True) (.slice (some ⟨go6, 0, none⟩) y341.length co6) y345 := (by rw [hw, Ny345.out]; exact HP14.1); clear HP14; replace HO343 := Aside0.mk (hp_); replace HB := Aside0.mk ((by rw [hw]; exact below_set (HB.out) GB6.out : Below w.heap.size w w15)); clear hg hw hp_))
      go_loopg [3, 4] k (fun kq v3 v4 w' => ∃ (x3_1 : List Int) (x4_1 : Int), v4 = .int .i64 x4_1 ∧ Aside0 (impl_cyclotomic.l0 kq a0 x3_1 x4_1 = some r) ∧ Aside0 (kq ≤ k) ∧ Aside0 (Kd.R (Kd.int .i64) 2 w' w.heap.size (fun _ => True) v3 x3_1) ∧ Aside0 (Below w.heap.size w w'))
      case atStart => exact ⟨(y345), (1), (by first | rfl | (simp; done) | (simp [*]; done)), H', ⟨Nat.le_refl _⟩, ⟨kR HO343.out⟩, ⟨tb⟩⟩
      case round =>
       clear H'
       try clear c2
       try clear p2
       try clear c3
       try clear c3b0
       try clear c3b1
       try clear c4
       try clear c4b0
       try clear c4b1
       try clear c5
       try clear c5b0
       try clear c5b1
       try clear p6
       try clear q6
       try clear hx6
       try clear qi6
       try clear hf6
       try clear c7
       try clear c7b0
       try clear c8
       try clear c8b0
       try clear p9
       try clear q9
       try clear hx9
       try clear hf9
       try clear hx6_0
       try clear hx9_0
       try clear p6
       try clear p9
       try clear q6
       try clear q9
       obtain ⟨x3_1, x4_1, rfl, HA, HK1, HO_3, HB⟩ := hrel
       cases gk with
       | zero => exact absurd HA.out (by simp [impl_cyclotomic.l0])
       | succ k1 =>
        have H := HA.out
        clear HA
        simp only [impl_cyclotomic.l0] at H
        by_cases c16 : x4_1 < a0
        ·rw [if_pos c16] at H
         have c16b0 : decide (x4_1 < a0) = true := decide_eq_true c16
         clear c16
         by_cases c17 : x4_1 = 0
         ·rw [if_pos c17] at H
          exact absurd H (by simp)
         ·rw [if_neg c17] at H
          have c17b0 : (x4_1 == 0) = false := beq_eq_false_iff_ne.mpr c17
          have c17b1 : (x4_1 != 0) = true := bne_iff_ne.mpr c17
          by_cases c18 : (Int.tmod a0 x4_1) = 0
          ·rw [if_pos c18] at H
           have c18b0 : ((Int.tmod a0 x4_1) == 0) = true := beq_iff_eq.mpr c18
           have c18b1 : ((Int.tmod a0 x4_1) != 0) = false := bne_eq_false_iff_eq.mpr c18
           clear c18
           replace H := Option.bind_eq_some_iff.mp H
           obtain ⟨t346, A190, H⟩ := H
           replace H : ((impl_quotient.f k1 x3_1 t346).bind fun t349 => (impl_cyclotomic.l0 k1 a0 t349 (wrap64 (x4_1 + 1)))) = some r := H
           have A19 := Aside0.mk A190
           clear A190
           replace H := Option.bind_eq_some_iff.mp H
           obtain ⟨t349, A200, H⟩ := H
           replace H : (impl_cyclotomic.l0 k1 a0 t349 (wrap64 (x4_1 + 1))) = some r := H
           have A20 := Aside0.mk A200
           clear A200
           have H' := Aside0.mk H
           clear H
           go_wp2_with (first | ((with_reducible refine gate_callee (f := 266) rfl ?_); refine goesL_ (some 24) rfl rfl Try.func266 (by kernel_rfl) rfl #[.int .i64 x4_1] rfl ar ?_; (with_reducible refine (ih k1 (by have := HK1.out; omega) x4_1 t346 _ A19.out).mono ?_); rintro e w21 ⟨v347, rfl, ho0, hb⟩; refine ⟨_, rfl, ?_⟩; have HO348 := Aside0.mk (Kd.R_lower (Kd.R_new' ho0 (Kd.R_lt (kR HO_3.out))) (below_size tb)); replace HO_3 := Aside0.mk (Kd.R_elder' (kR HO_3.out) (Kd.R_base ho0) hb); replace HB := Aside0.mk (below_step tb hb); (try clear hb); (try clear hb2); (try clear hk); (try clear hi); (try clear ho0); obtain ⟨Ao22, co22, eo22⟩ := Kd.R_slice HO_3.out; subst eo22; obtain ⟨Ao23, co23, eo23⟩ := Kd.R_slice HO348.out; subst eo23) | ((with_reducible refine gate_callee (f := 281) rfl ?_); refine goesL_ (some 25) rfl rfl Try.func281 (by kernel_rfl) rfl #[.slice Ao22 x3_1.length co22, .slice Ao23 t346.length co23] rfl ar ?_; (with_reducible refine (impl_quotient.calls k1 _ _ x3_1 _ _ t346 t349 _ ?side1 ?side2 ?side3 ?side4 A20.out).mono ?_); (case side1 => exact kC (Kd.R_reads' HO_3.out).2.2); (case side2 => exact (Kd.R_reads' HO_3.out).2.1); (case side3 => exact kC (Kd.R_reads' HO348.out).2.2); (case side4 => exact (Kd.R_reads' HO348.out).2.1); rintro e w24 ⟨v350, rfl, ho0, hb⟩; refine ⟨_, rfl, ?_⟩; have HO351 := Aside0.mk (Kd.R_lower (Kd.R_new' (Kd.R_new' ho0 (Kd.R_lt (kR HO_3.out))) (Kd.R_lt (kR HO348.out))) (below_size tb)); replace HO_3 := Aside0.mk (Kd.R_elder' (kR HO_3.out) (Kd.R_base ho0) hb); replace HO348 := Aside0.mk (Kd.R_elder' (kR HO348.out) (Kd.R_base ho0) hb); replace HB := Aside0.mk (below_step tb hb); (try clear hb); (try clear hb2); (try clear hk); (try clear hi); (try clear ho0)))
           go_roundg k1
           case measure => have := HK1.out; omega
           case rel => exact ⟨(t349), (wrap64 (x4_1 + 1)), (by first | rfl | (simp; done) | (simp [*]; done)), H', ⟨by have := HK1.out; omega⟩, ⟨by (with_reducible repeat (first | apply Kd.R_alloc | apply Kd.R_drewN | apply Kd.R_drew)); exact Kd.R_mono HO351.out (fun _ hk => trivial)⟩, ⟨tb⟩⟩
          ·rw [if_neg c18] at H
           have c18b0 : ((Int.tmod a0 x4_1) == 0) = false := beq_eq_false_iff_ne.mpr c18
           have c18b1 : ((Int.tmod a0 x4_1) != 0) = true := bne_iff_ne.mpr c18
           have H' := Aside0.mk H
           clear H
           go_wp2
           go_roundg k1
           case measure => have := HK1.out; omega
           case rel => exact ⟨(x3_1), (wrap64 (x4_1 + 1)), (by first | rfl | (simp; done) | (simp [*]; done)), H', ⟨by have := HK1.out; omega⟩, ⟨kR HO_3.out⟩, ⟨tb⟩⟩
        ·rw [if_neg c16] at H
         have c16b0 : decide (x4_1 < a0) = false := decide_eq_false c16
         clear c16
         obtain rfl := Option.some.inj H
         go_wp2
         go_ret
         exact ⟨_, by first | rfl | (simp [errW_none, errW_some] <;> rfl) | (simp only [← hji2]; first | rfl | (simp [errW_none, errW_some] <;> rfl)) | (simp [*, errW_none, errW_some] <;> rfl), kR HO_3.out, tb⟩
     ·rw [if_neg c8] at H
      exact absurd H (by simp)
    ·rw [if_neg c7] at H
     exact absurd H (by simp)
   ·rw [if_neg c5] at H
    exact absurd H (by simp)
  ·rw [if_neg c4] at H
   exact absurd H (by simp)
 ·rw [if_neg c3] at H
  exact absurd H (by simp)

end Go.Proofs.Ytgcggngleiggiaa.Pr
