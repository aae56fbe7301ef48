-- Printed by a program of this session, hand-proved contracts among it.
import Derived.Test.YtgcggngleiggiaaPr0
import Derived.Test.YtgcggngleiggiaaPr2
import Derived.Test.YtgcggngleiggiaaPr7
import Derived.Test.YtgcggngleiggiaaPr8
namespace Go.Proofs.Ytgcggngleiggiaa.Pr
open Go.RowKit Go.Proofs.YtgcggngleiggiaaW.PrintWords Go.Proofs.YtgcggngleiggiaaW.PrintLast Go.Proofs.YtgcggngleiggiaaW.PrintMore Go.Proofs.Ytgcggngleiggiaa.Sq
attribute [local go_sem] max2_int min2_int max_two min_two max_three min_three max_four min_four   -- for this text's walks alone
set_option linter.unusedVariables false
set_option linter.unusedSimpArgs false

/-! ### impl_powers: function 217 -/
mutual
def impl_powers.l0 : Nat → List Int → Int → List Int → List (List Int) → Int → Int → Option ((List (List Int)))
 | 0, _, _, _, _, _, _ => none
 | k + 1, x3, x4, x5, x6, x23, x24 => if x24 < x23 then ((slices_Clone_int64_int64.f x5).bind fun t365 => (if x6.length < 5864062014805 then (if 0 ≤ (wrap64 (x4 - 1)) then (if (wrap64 (x4 - 1)) < (x5.length : Int) then (if 1 ≤ (x5.length : Int) then (if (wrap64 (x4 - 1)) ≤ (x5.length : Int) then (if 0 < (x5.length : Int) then (impl_powers.l1 k x3 x4 ((Cu.shiftUp x5 ((wrap64 (x4 - 1)) : Int).toNat).set (0 : Int).toNat 0) (x6 ++ [t365]) (rd x5 (wrap64 (x4 - 1))) x23 x24 (x5.length : Int) 0) else (none)) else (none)) else (none)) else (none)) else (none)) else (none))) else (some x6)
def impl_powers.l1 : Nat → List Int → Int → List Int → List (List Int) → Int → Int → Int → Int → Int → Option ((List (List Int)))
 | 0, _, _, _, _, _, _, _, _, _ => none
 | k + 1, x3, x4, x5, x6, x7, x23, x24, x46, x47 => if x47 < x46 then (if 0 ≤ x47 then (if x47 < (x5.length : Int) then (if x47 < (x3.length : Int) then (impl_powers.l1 k x3 x4 (x5.set (x47 : Int).toNat (wrap64 ((rd x5 x47) - (wrap64 (x7 * (rd x3 x47)))))) x6 x7 x23 x24 x46 (wrap64 (x47 + 1))) else (none)) else (none)) else (none)) else (impl_powers.l0 k x3 x4 x5 x6 x23 (wrap64 (x24 + 1)))
end
def impl_powers.f (k : Nat) (a0 : Int) : Option ((List (List Int))) := (impl_cyclotomic.f k a0).bind fun t352 => (if 0 ≤ (wrap64 ((t352.length : Int) - 1)) then (if (wrap64 ((t352.length : Int) - 1) : Int).toNat ≤ 35184372088832 then ((some (List.replicate (wrap64 ((t352.length : Int) - 1) : Int).toNat 0 : List Int)).bind fun y355 => (if 0 < (y355.length : Int) then ((some (y355.set (0 : Int).toNat 1 : List Int)).bind fun y358 => (if a0 = 1 then (some (([y358] : List (List Int)))) else (impl_powers.l0 k t352 (wrap64 ((t352.length : Int) - 1)) y358 (([] : List (List Int))) a0 0))) else (none))) else (none)) else (none))
def impl_powers.T17 : Bool × List (List Nat × List Nat) := (true, [([], []), ([], []), ([0, 1], [0, 1]), ([2], [2]), ([], []), ([], []), ([], []), ([5, 6], [5, 6]), ([7], [7]), ([4, 8], [4, 8]), ([3, 9], [3, 9]), ([0, 1, 0, 1, 2, 3, 4, 5, 6, 7, 8, 9, 10], [0, 1]), ([11, 10, 0, 1, 2, 3, 4, 5, 6, 7, 8, 9, 10], [10, 11])])
def impl_powers.B17 : List Nat := [0, 0, 3, 7, 0, 0, 0, 96, 224, 496, 1023, 2047, 4095]
theorem impl_powers.tab17 : rtab .any (opsOf Try.f217 17) = impl_powers.T17 := by kernel_rfl
theorem impl_powers.bits17 : waitsOk impl_powers.T17.2 impl_powers.B17 = true := by kernel_rfl
set_option maxHeartbeats 8000000 in
set_option maxRecDepth 100000 in
theorem impl_powers.calls (k : Nat) (a0 : Int) (r : List (List Int)) (w : World) (h : impl_powers.f k a0 = some r) :
  Calls Try.prog 217 #[.int .i64 a0] w fun e w' => ∃ v0_ : Value, e = .returned (v0_) ∧ Kd.N (Kd.slice 2 (Kd.int .i64)) 27 w' w.heap.size (fun k_ => (w.heap.size ≤ k_)) v0_ r ∧ Below w.heap.size w w' := by
 have HB := Aside0.mk (Below.refl w.heap.size w)
 have H : ((impl_cyclotomic.f k a0).bind fun t352 => (if 0 ≤ (wrap64 ((t352.length : Int) - 1)) then (if (wrap64 ((t352.length : Int) - 1) : Int).toNat ≤ 35184372088832 then ((some (List.replicate (wrap64 ((t352.length : Int) - 1) : Int).toNat 0 : List Int)).bind fun y355 => (if 0 < (y355.length : Int) then ((some (y355.set (0 : Int).toNat 1 : List Int)).bind fun y358 => (if a0 = 1 then (some (([y358] : List (List Int)))) else (impl_powers.l0 k t352 (wrap64 ((t352.length : Int) - 1)) y358 (([] : List (List Int))) a0 0))) else (none))) else (none)) else (none))) = some r := h
 clear h
 replace H := Option.bind_eq_some_iff.mp H
 obtain ⟨t352, A20, H⟩ := H
 replace H : (if 0 ≤ (wrap64 ((t352.length : Int) - 1)) then (if (wrap64 ((t352.length : Int) - 1) : Int).toNat ≤ 35184372088832 then ((some (List.replicate (wrap64 ((t352.length : Int) - 1) : Int).toNat 0 : List Int)).bind fun y355 => (if 0 < (y355.length : Int) then ((some (y355.set (0 : Int).toNat 1 : List Int)).bind fun y358 => (if a0 = 1 then (some (([y358] : List (List Int)))) else (impl_powers.l0 k t352 (wrap64 ((t352.length : Int) - 1)) y358 (([] : List (List Int))) a0 0))) else (none))) else (none)) else (none)) = some r := H
 have A2 := Aside0.mk A20
 clear A20
 obtain ⟨ji3, hji3⟩ : ∃ j_ : Int, (wrap64 ((t352.length : Int) - 1)) = j_ := ⟨_, rfl⟩
 replace H : (if 0 ≤ (ji3) then (if (ji3 : Int).toNat ≤ 35184372088832 then ((some (List.replicate (ji3 : Int).toNat 0 : List Int)).bind fun y355 => (if 0 < (y355.length : Int) then ((some (y355.set (0 : Int).toNat 1 : List Int)).bind fun y358 => (if a0 = 1 then (some (([y358] : List (List Int)))) else (impl_powers.l0 k t352 ji3 y358 (([] : List (List Int))) a0 0))) else (none))) else (none)) else (none)) = some r := by first | (rw [hji3] at H; exact H) | (simp only [hji3] at H ⊢; exact H)
 (try rw [hji3] at A2)
 have hji3w : (IntKind.i64.wrap ((t352.length : Int) - 1)) = ji3 := (i64_w _).trans hji3
 by_cases c4 : 0 ≤ (ji3)
 ·rw [if_pos c4] at H
  have c4b0 := eq_true c4
  have c4b1 : decide (0 ≤ (ji3)) = true := decide_eq_true c4
  clear c4
  by_cases c5 : (ji3 : Int).toNat ≤ 35184372088832
  ·rw [if_pos c5] at H
   have c5b0 := eq_true c5
   have c5b1 : decide ((ji3 : Int).toNat ≤ 35184372088832) = true := decide_eq_true c5
   clear c5
   obtain ⟨y355, hy355⟩ : ∃ y_ : List Int, y_ = (List.replicate (ji3 : Int).toNat 0) := ⟨_, rfl⟩
   replace H : (if 0 < (y355.length : Int) then ((some (y355.set (0 : Int).toNat 1 : List Int)).bind fun y358 => (if a0 = 1 then (some (([y358] : List (List Int)))) else (impl_powers.l0 k t352 ji3 y358 (([] : List (List Int))) a0 0))) else (none)) = some r := by first | (rw [hy355]; with_reducible exact H) | (rw [hy355]; with_reducible exact (bs H :)) | with_reducible exact (bs H :) | exact H
   have Ny355 := Aside0.mk hy355
   clear hy355
   by_cases c6 : 0 < (y355.length : Int)
   ·rw [if_pos c6] at H
    have c6b0 : decide (0 < (y355.length : Int)) = true := decide_eq_true c6
    have c6b1 : decide (0 < y355.length) = true := decide_eq_true (by omega)
    clear c6
    obtain ⟨y358, hy358⟩ : ∃ y_ : List Int, y_ = (y355.set (0 : Int).toNat 1) := ⟨_, rfl⟩
    replace H : (if a0 = 1 then (some (([y358] : List (List Int)))) else (impl_powers.l0 k t352 ji3 y358 (([] : List (List Int))) a0 0)) = some r := by first | (rw [hy358]; with_reducible exact H) | (rw [hy358]; with_reducible exact (bs H :)) | with_reducible exact (bs H :) | exact H
    have Ny358 := Aside0.mk hy358
    clear hy358
    by_cases c8 : a0 = 1
    ·rw [if_pos c8] at H
     have c8b0 : (a0 == 1) = true := beq_iff_eq.mpr c8
     have c8b1 : (a0 != 1) = false := bne_eq_false_iff_eq.mpr c8
     clear c8
     obtain ⟨y359, hy359⟩ : ∃ y_ : List (List Int), y_ = (([y358] : List (List Int))) := ⟨_, rfl⟩
     replace H : (some y359) = some r := by first | (rw [hy359]; with_reducible exact H) | (rw [hy359]; with_reducible exact (bs H :)) | with_reducible exact (bs H :) | exact H
     have Ny359 := Aside0.mk hy359
     clear hy359
     obtain rfl := Option.some.inj H
     go_enter Try.func217, Try.ntmps217
     go_wp2_with (first | ((with_reducible refine gate_callee (f := 266) rfl ?_); refine goesL_ (some 10) rfl rfl Try.func266 (by kernel_rfl) rfl #[.int .i64 a0] rfl ar ?_; (with_reducible refine (impl_cyclotomic.calls k a0 t352 _ A2.out).mono ?_); rintro e w9 ⟨v353, rfl, ho0, hb⟩; refine ⟨_, rfl, ?_⟩; have HO354 := Aside0.mk (Kd.R_lower (Kd.R_newM (M := fun k_ => (w.heap.size ≤ k_)) ho0 (below_size tb) (fun k_ h_ => h_)) (below_size tb)); replace HB := Aside0.mk (below_step tb hb); (try clear hb); (try clear hb2); (try clear hk); (try clear hi); (try clear ho0); obtain ⟨Ao10, co10, eo10⟩ := Kd.R_slice HO354.out; subst eo10) | ((with_reducible refine gate_dst (N := 15) rfl ?_); refine Kd.R_make (Kd.int .i64) _ 2 rfl (N := 15) rfl 27 _ _ rfl ji3 rfl rfl Try.underlying27 (.int .i64 0) 8 info2 rfl (by decide) (by omega) 0 (ok := fun _ => True) (okp := fun _ => True) rfl (fun _ hk => hk) trivial (od) (Nat.le_trans (Nat.mul_le_mul_right _ (od : ji3.toNat ≤ 35184372088832)) (by omega)) (Below.refl _ _) (Nat.le_refl _) ?_; intro v356 w11 ho12 hb hg_ hnew_; clear hg_ hnew_; (first | rw [← Ny355.out] at ho12 | (simp only [Int.reduceToNat] at ho12; rw [← Ny355.out] at ho12)); have HO357 := Aside0.mk (Kd.R_lower (Kd.R_new' (Kd.R_newM (M := fun k_ => (w.heap.size ≤ k_)) ho12 (below_size tb) (fun k_ h_ => h_)) (Kd.R_lt (kR HO354.out))) (below_size tb)); replace HO354 := Aside0.mk (Kd.R_elder' (kR HO354.out) (Kd.R_base ho12) hb); replace HB := Aside0.mk (below_step tb hb); clear hb ho12; have p7 : 0 ≤ (0 : Int) := (by omega); have q7 : (0 : Int) < ((y355.length : Int) : Int) := od; have qi7 : (0 < y355.length) = True := eq_true (by omega); obtain ⟨go7, co7, eo7, gb7, gl7, cl7, HG7⟩ := Kd.R_form HO357.out (by omega); (first | cases eo7 | (injection eo7 with ea_ en_ ec_; (first | subst ea_ | (injection ea_ with ea_; subst ea_)); subst ec_; clear en_)); have GB7 := Aside0.mk gb7; have GG7 := Aside0.mk HG7; clear gb7 gl7 HG7; obtain ⟨hx7_0, hf7_0⟩ := Kd.R_celln 0 HO357.out (0 : Int) p7 q7; (try rw [show ((0 : Int)).toNat = 0 from rfl] at hx7_0); (try simp only [Nat.reduceMul, Nat.zero_mul, Nat.zero_add, Nat.reduceAdd] at hx7_0); (try rw [show ((0 : Int)).toNat = 0 from rfl] at hf7_0); (try simp only [Nat.reduceMul, Nat.zero_mul, Nat.zero_add, Nat.reduceAdd] at hf7_0); replace p7 := eq_true p7; replace q7 := eq_true q7; have n_ := Aside0.mk (Kd.R_mono (ok' := (fun k_ => (w.heap.size ≤ k_) ∧ some k_ ≠ (.slice Ao10 t352.length co10 : Value).ownBlock)) HO357.out (fun k_ hk => ⟨hk.1.1, hk.2⟩)); clear HO357; have HO357 := n_; clear n_; obtain ⟨hy13_, hz13_⟩ := Kd.R_celln 0 HO357.out (0 : Int) (by omega) (od); (try simp only [Int.reduceToNat, Int.toNat_zero, Int.toNat_ofNat, Nat.reduceMul, Nat.zero_mul, Nat.zero_add] at hy13_ hz13_); (try rw [show ((0 : Int)).toNat = 0 from rfl] at hy13_); (try rw [show ((0 : Int)).toNat = 0 from rfl] at hz13_); have HP13 := Kd.R_putg HO357.out (0 : Int) 1) | ((with_reducible refine gate_store (t := 2) (p := 17) rfl ?_); refine store_event (t := 2) (p := 17) (v := ?vo_w14) (w1 := (w11.setCell ⟨go7, (0 : Int).toNat, none⟩ (.int .i64 1))) ?hg ?ho ?hn ?hr ?_; (case ho => rfl); (case hg => rfl); (case hn => rfl); (case hr => first | (go_simp; done) | (go_simp; rfl)); intro w14 hw; have hg : w11.grownBy w14 (some go7) := (by rw [hw]; exact HP13.2); have hp_ : Kd.R (Kd.int .i64) 2 w14 w.heap.size (fun k_ => (w.heap.size ≤ k_) ∧ some k_ ≠ (.slice Ao10 t352.length co10 : Value).ownBlock) (.slice (some ⟨go7, 0, none⟩) y355.length co7) y358 := (by rw [hw, Ny358.out]; exact HP13.1); clear HP13; replace HO354 := Aside0.mk (Kd.R_after (v := (.slice (some ⟨go7, 0, none⟩) y355.length co7)) (v1 := (.slice (some ⟨go7, 0, none⟩) y355.length co7)) (ok := (fun k_ => (w.heap.size ≤ k_))) (by (with_reducible repeat (first | apply Kd.R_alloc | apply Kd.R_drewN | apply Kd.R_drew)); exact Kd.R_mono HO354.out (fun _ hk => ⟨hk.1.1, hk.2⟩)) hg (.inl rfl)); replace HO357 := Aside0.mk (hp_); replace HB := Aside0.mk ((by rw [hw]; exact below_set (HB.out) GB7.out : Below w.heap.size w w14)); clear hg hw hp_) | ((with_reducible refine gate_dst (N := 21) rfl ?_); refine Kd.N_lit (Kd.slice 2 (Kd.int .i64)) _ 27 ?hg (N' := 21) ?hd (xs := ([y358] : List (List Int))) (inner := [.slice (some ⟨go7, 0, none⟩) y355.length co7]) (ok := (fun k_ => (w.heap.size ≤ k_) ∧ some k_ ≠ (.slice Ao10 t352.length co10 : Value).ownBlock)) (okp := (fun k_ => (w.heap.size ≤ k_) ∧ some k_ ≠ (.slice Ao10 t352.length co10 : Value).ownBlock)) ?hr ?hp (fun _ hk => hk) ((show ∀ k_, w14.heap.size ≤ k_ → (fun k_ => (w.heap.size ≤ k_) ∧ some k_ ≠ (.slice Ao10 t352.length co10 : Value).ownBlock) k_ from fun k_ hk => ⟨(Nat.le_trans (below_size tb) hk), Kd.fresh' (Kd.R_lt (kR HO354.out)) k_ hk⟩) _ (Nat.le_refl _)) (Below.refl _ _) (Nat.le_refl _) (by simp) ?_; (case hd => rfl); (case hg => rfl); (case hr => first | (go_simp; done) | (go_simp; rfl)); (case hp => exact (Reps.one (show Kd.FK (Kd.slice 2 (Kd.int .i64)) _ _ y358 [.slice (some ⟨go7, 0, none⟩) y355.length co7] from (Cu.FK_of_R (Kd.R_mono (ok' := (fun k_ => (w.heap.size ≤ k_) ∧ some k_ ≠ (.slice Ao10 t352.length co10 : Value).ownBlock)) (HO357.out) (fun k_ hk => ⟨hk.1, hk.2⟩)))) (Reps.none _ _))); intro v360 w15 ho16 hb hg_ hnew_; clear hg_ hnew_; (first | rw [← Ny359.out] at ho16 | (simp only [Int.reduceToNat] at ho16; rw [← Ny359.out] at ho16)); have n0_ := Aside0.mk (Kd.R_below (kR HO354.out) hb); have n1_ := Aside0.mk (Kd.N_lower ho16 (below_size tb)); have n2_ := Aside0.mk (below_step tb hb); clear HO354; clear HB; clear HO357; have HO354 := n0_; have HO361 := n1_; have HB := n2_; clear n0_ n1_ n2_; clear hb ho16))
     go_ret
     exact ⟨_, by first | rfl | (simp [errW_none, errW_some] <;> rfl) | (simp only [← hji3]; first | rfl | (simp [errW_none, errW_some] <;> rfl)) | (simp [*, errW_none, errW_some] <;> rfl), by (with_reducible repeat (first | apply Kd.N_alloc | apply Kd.N_drewN | apply Kd.N_drew)); exact Kd.N_mono HO361.out (fun _ hk => hk.1), tb⟩
    ·rw [if_neg c8] at H
     have c8b0 : (a0 == 1) = false := beq_eq_false_iff_ne.mpr c8
     have c8b1 : (a0 != 1) = true := bne_iff_ne.mpr c8
     obtain ⟨y362, hy362⟩ : ∃ y_ : List (List Int), y_ = (([] : List (List Int))) := ⟨_, rfl⟩
     replace H : (impl_powers.l0 k t352 ji3 y358 y362 a0 0) = some r := by first | (rw [hy362]; with_reducible exact H) | (rw [hy362]; with_reducible exact (bs H :)) | with_reducible exact (bs H :) | exact H
     have Ny362 := Aside0.mk hy362
     clear hy362
     have H' := Aside0.mk H
     clear H
     go_enter Try.func217, Try.ntmps217
     go_wp2_with (first | ((with_reducible refine gate_callee (f := 266) rfl ?_); refine goesL_ (some 10) rfl rfl Try.func266 (by kernel_rfl) rfl #[.int .i64 a0] rfl ar ?_; (with_reducible refine (impl_cyclotomic.calls k a0 t352 _ A2.out).mono ?_); rintro e w17 ⟨v353, rfl, ho0, hb⟩; refine ⟨_, rfl, ?_⟩; have HO354 := Aside0.mk (Kd.R_lower (Kd.R_newM (M := fun k_ => (w.heap.size ≤ k_)) ho0 (below_size tb) (fun k_ h_ => h_)) (below_size tb)); replace HB := Aside0.mk (below_step tb hb); (try clear hb); (try clear hb2); (try clear hk); (try clear hi); (try clear ho0); obtain ⟨Ao18, co18, eo18⟩ := Kd.R_slice HO354.out; subst eo18) | ((with_reducible refine gate_dst (N := 15) rfl ?_); refine Kd.R_make (Kd.int .i64) _ 2 rfl (N := 15) rfl 27 _ _ rfl ji3 rfl rfl Try.underlying27 (.int .i64 0) 8 info2 rfl (by decide) (by omega) 0 (ok := fun _ => True) (okp := fun _ => True) rfl (fun _ hk => hk) trivial (od) (Nat.le_trans (Nat.mul_le_mul_right _ (od : ji3.toNat ≤ 35184372088832)) (by omega)) (Below.refl _ _) (Nat.le_refl _) ?_; intro v356 w19 ho20 hb hg_ hnew_; clear hg_ hnew_; (first | rw [← Ny355.out] at ho20 | (simp only [Int.reduceToNat] at ho20; rw [← Ny355.out] at ho20)); have HO357 := Aside0.mk (Kd.R_lower (Kd.R_new' (Kd.R_newM (M := fun k_ => (w.heap.size ≤ k_)) ho20 (below_size tb) (fun k_ h_ => h_)) (Kd.R_lt (kR HO354.out))) (below_size tb)); replace HO354 := Aside0.mk (Kd.R_elder' (kR HO354.out) (Kd.R_base ho20) hb); replace HB := Aside0.mk (below_step tb hb); clear hb ho20; have p7 : 0 ≤ (0 : Int) := (by omega); have q7 : (0 : Int) < ((y355.length : Int) : Int) := od; have qi7 : (0 < y355.length) = True := eq_true (by omega); obtain ⟨go7, co7, eo7, gb7, gl7, cl7, HG7⟩ := Kd.R_form HO357.out (by omega); (first | cases eo7 | (injection eo7 with ea_ en_ ec_; (first | subst ea_ | (injection ea_ with ea_; subst ea_)); subst ec_; clear en_)); have GB7 := Aside0.mk gb7; have GG7 := Aside0.mk HG7; clear gb7 gl7 HG7; obtain ⟨hx7_0, hf7_0⟩ := Kd.R_celln 0 HO357.out (0 : Int) p7 q7; (try rw [show ((0 : Int)).toNat = 0 from rfl] at hx7_0); (try simp only [Nat.reduceMul, Nat.zero_mul, Nat.zero_add, Nat.reduceAdd] at hx7_0); (try rw [show ((0 : Int)).toNat = 0 from rfl] at hf7_0); (try simp only [Nat.reduceMul, Nat.zero_mul, Nat.zero_add, Nat.reduceAdd] at hf7_0); replace p7 := eq_true p7; replace q7 := eq_true q7; have n_ := Aside0.mk (Kd.R_mono (ok' := (fun k_ => (w.heap.size ≤ k_) ∧ some k_ ≠ (.slice Ao18 t352.length co18 : Value).ownBlock)) HO357.out (fun k_ hk => ⟨hk.1.1, hk.2⟩)); clear HO357; have HO357 := n_; clear n_; obtain ⟨hy21_, hz21_⟩ := Kd.R_celln 0 HO357.out (0 : Int) (by omega) (od); (try simp only [Int.reduceToNat, Int.toNat_zero, Int.toNat_ofNat, Nat.reduceMul, Nat.zero_mul, Nat.zero_add] at hy21_ hz21_); (try rw [show ((0 : Int)).toNat = 0 from rfl] at hy21_); (try rw [show ((0 : Int)).toNat = 0 from rfl] at hz21_); have HP21 := Kd.R_putg HO357.out (0 : Int) 1) | ((with_reducible refine gate_store (t := 2) (p := 17) rfl ?_); refine store_event (t := 2) (p := 17) (v := ?vo_w22) (w1 := (w19.setCell ⟨go7, (0 : Int).toNat, none⟩ (.int .i64 1))) ?hg ?ho ?hn ?hr ?_; (case ho => rfl); (case hg => rfl); (case hn => rfl); (case hr => first | (go_simp; done) | (go_simp; rfl)); intro w22 hw; have hg : w19.grownBy w22 (some go7) := (by rw [hw]; exact HP21.2); have hp_ : Kd.R (Kd.int .i64) 2 w22 w.heap.size (fun k_ => (w.heap.size ≤ k_) ∧ some k_ ≠ (.slice Ao18 t352.length co18 : Value).ownBlock) (.slice (some ⟨go7, 0, none⟩) y355.length co7) y358 := (by rw [hw, Ny358.out]; exact HP21.1); clear HP21; replace HO354 := Aside0.mk (Kd.R_after (v := (.slice (some ⟨go7, 0, none⟩) y355.length co7)) (v1 := (.slice (some ⟨go7, 0, none⟩) y355.length co7)) (ok := (fun k_ => (w.heap.size ≤ k_))) (by (with_reducible repeat (first | apply Kd.R_alloc | apply Kd.R_drewN | apply Kd.R_drew)); exact Kd.R_mono HO354.out (fun _ hk => ⟨hk.1.1, hk.2⟩)) hg (.inl rfl)); replace HO357 := Aside0.mk (hp_); replace HB := Aside0.mk ((by rw [hw]; exact below_set (HB.out) GB7.out : Below w.heap.size w w22)); clear hg hw hp_) | ((with_reducible refine gate_dst (N := 22) rfl ?_); refine Kd.N_lit (Kd.slice 2 (Kd.int .i64)) _ 27 ?hg (N' := 22) ?hd (xs := ([] : List (List Int))) (inner := []) (ok := (fun k_ => (w.heap.size ≤ k_) ∧ some k_ ≠ (.slice Ao18 t352.length co18 : Value).ownBlock ∧ some k_ ≠ (.slice (some ⟨go7, 0, none⟩) y355.length co7 : Value).ownBlock)) (okp := (fun k_ => (w.heap.size ≤ k_) ∧ some k_ ≠ (.slice Ao18 t352.length co18 : Value).ownBlock ∧ some k_ ≠ (.slice (some ⟨go7, 0, none⟩) y355.length co7 : Value).ownBlock)) ?hr ?hp (fun _ hk => hk) ((show ∀ k_, w22.heap.size ≤ k_ → (fun k_ => (w.heap.size ≤ k_) ∧ some k_ ≠ (.slice Ao18 t352.length co18 : Value).ownBlock ∧ some k_ ≠ (.slice (some ⟨go7, 0, none⟩) y355.length co7 : Value).ownBlock) k_ from fun k_ hk => ⟨(Nat.le_trans (below_size tb) hk), Kd.fresh' (Kd.R_lt (kR HO354.out)) k_ hk, Kd.fresh' (Kd.R_lt (kR HO357.out)) k_ hk⟩) _ (Nat.le_refl _)) (Below.refl _ _) (Nat.le_refl _) (by simp) ?_; (case hd => rfl); (case hg => rfl); (case hr => first | (go_simp; done) | (go_simp; rfl)); (case hp => exact (Reps.none _ _)); intro v363 w23 ho24 hb hg_ hnew_; clear hg_ hnew_; (first | rw [← Ny362.out] at ho24 | (simp only [Int.reduceToNat] at ho24; rw [← Ny362.out] at ho24)); replace HO354 := Aside0.mk (Kd.R_below (kR HO354.out) hb); replace HO357 := Aside0.mk (Kd.R_below (kR HO357.out) hb); have HO364 := Aside0.mk (Kd.N_lower ho24 (below_size tb)); replace HB := Aside0.mk (below_step tb hb); clear hb ho24))
     go_loopg [6, 24] k (fun kq v6 v24 w' => ∃ (x5_1 : List Int) (x6_1 : List (List Int)) (x24_1 : Int), v24 = .int .i64 x24_1 ∧ Aside0 (impl_powers.l0 kq t352 ji3 x5_1 x6_1 a0 x24_1 = some r) ∧ Aside0 (kq ≤ k) ∧ Aside0 (Kd.R (Kd.int .i64) 2 w' w.heap.size (fun k_ => (w.heap.size ≤ k_) ∧ some k_ ≠ ((.slice (some ⟨go7, 0, none⟩) y355.length co7) : Value).ownBlock) (.slice Ao18 t352.length co18) t352) ∧ Aside0 (Kd.R (Kd.int .i64) 2 w' w.heap.size (fun k_ => (w.heap.size ≤ k_) ∧ some k_ ≠ ((.slice Ao18 t352.length co18) : Value).ownBlock) (.slice (some ⟨go7, 0, none⟩) y355.length co7) x5_1) ∧ Aside0 (Kd.N (Kd.slice 2 (Kd.int .i64)) 27 w' w.heap.size (fun k_ => (w.heap.size ≤ k_) ∧ some k_ ≠ ((.slice Ao18 t352.length co18) : Value).ownBlock ∧ some k_ ≠ ((.slice (some ⟨go7, 0, none⟩) y355.length co7) : Value).ownBlock) v6 x6_1) ∧ Aside0 (Below w.heap.size w w'))
     case atStart => exact ⟨(y358), (y362), (0), (by first | rfl | (simp; done) | (simp [*]; done)), H', ⟨Nat.le_refl _⟩, ⟨kR HO354.out⟩, ⟨kR HO357.out⟩, ⟨kN HO364.out⟩, ⟨tb⟩⟩
     case round =>
      clear H'
      try clear c2
      try clear p2
      try clear c4
      try clear c4b0
      try clear c4b1
      try clear c5
      try clear c5b0
      try clear c5b1
      try clear c6
      try clear c6b0
      try clear c6b1
      try clear p6
      try clear p7
      try clear q7
      try clear hx7
      try clear qi7
      try clear hf7
      try clear c8
      try clear c8b0
      try clear c8b1
      try clear c21
      try clear hx7_0
      try clear p7
      try clear q7
      obtain ⟨x5_1, x6_1, x24_1, rfl, HA, HK1, HO_3, HO_5, HO_6, HB⟩ := hrel
      have hl5_1 := (Kd.R_reads' HO_5.out).1
      rw [hl5_1] at HO_5
      (try simp only [hl5_1])
      (try simp only [hl5_1] at HO_3)
      (try simp only [hl5_1] at HO_6)
      cases gk with
      | zero => exact absurd HA.out (by simp [impl_powers.l0])
      | succ k1 =>
       have H := HA.out
       clear HA
       simp only [impl_powers.l0] at H
       by_cases c25 : x24_1 < a0
       ·rw [if_pos c25] at H
        have c25b0 : decide (x24_1 < a0) = true := decide_eq_true c25
        clear c25
        replace H := Option.bind_eq_some_iff.mp H
        obtain ⟨t365, A260, H⟩ := H
        replace H : (if x6_1.length < 5864062014805 then (if 0 ≤ (wrap64 (ji3 - 1)) then (if (wrap64 (ji3 - 1)) < (x5_1.length : Int) then (if 1 ≤ (x5_1.length : Int) then (if (wrap64 (ji3 - 1)) ≤ (x5_1.length : Int) then (if 0 < (x5_1.length : Int) then (impl_powers.l1 k1 t352 ji3 ((Cu.shiftUp x5_1 ((wrap64 (ji3 - 1)) : Int).toNat).set (0 : Int).toNat 0) (x6_1 ++ [t365]) (rd x5_1 (wrap64 (ji3 - 1))) a0 x24_1 (x5_1.length : Int) 0) else (none)) else (none)) else (none)) else (none)) else (none)) else (none)) = some r := H
        have A26 := Aside0.mk A260
        clear A260
        by_cases c27 : x6_1.length < 5864062014805
        ·rw [if_pos c27] at H
         have LMc27 := Aside0.mk c27
         clear c27
         obtain ⟨y368, hy368⟩ : ∃ y_ : List (List Int), y_ = (x6_1 ++ [t365]) := ⟨_, rfl⟩
         replace H : (if 0 ≤ (wrap64 (ji3 - 1)) then (if (wrap64 (ji3 - 1)) < (x5_1.length : Int) then (if 1 ≤ (x5_1.length : Int) then (if (wrap64 (ji3 - 1)) ≤ (x5_1.length : Int) then (if 0 < (x5_1.length : Int) then (impl_powers.l1 k1 t352 ji3 ((Cu.shiftUp x5_1 ((wrap64 (ji3 - 1)) : Int).toNat).set (0 : Int).toNat 0) y368 (rd x5_1 (wrap64 (ji3 - 1))) a0 x24_1 (x5_1.length : Int) 0) else (none)) else (none)) else (none)) else (none)) else (none)) = some r := by first | (rw [hy368]; with_reducible exact H) | (rw [hy368]; with_reducible exact (bs H :)) | with_reducible exact (bs H :) | exact H
         have Ny368 := Aside0.mk hy368
         clear hy368
         obtain ⟨ji28, hji28⟩ : ∃ j_ : Int, (wrap64 (ji3 - 1)) = j_ := ⟨_, rfl⟩
         replace H : (if 0 ≤ (ji28) then (if (ji28) < (x5_1.length : Int) then (if 1 ≤ (x5_1.length : Int) then (if (ji28) ≤ (x5_1.length : Int) then (if 0 < (x5_1.length : Int) then (impl_powers.l1 k1 t352 ji3 ((Cu.shiftUp x5_1 ((ji28) : Int).toNat).set (0 : Int).toNat 0) y368 (rd x5_1 (ji28)) a0 x24_1 (x5_1.length : Int) 0) else (none)) else (none)) else (none)) else (none)) else (none)) = some r := by first | (rw [hji28] at H; exact H) | (simp only [hji28] at H ⊢; exact H)
         (try rw [hji28] at A26)
         have hji28w : (IntKind.i64.wrap (ji3 - 1)) = ji28 := (i64_w _).trans hji28
         by_cases c29 : 0 ≤ (ji28)
         ·rw [if_pos c29] at H
          have c29b0 : decide (0 ≤ (ji28)) = true := decide_eq_true c29
          clear c29
          by_cases c30 : (ji28) < (x5_1.length : Int)
          ·rw [if_pos c30] at H
           have c30b0 : decide ((ji28) < (x5_1.length : Int)) = true := decide_eq_true c30
           clear c30
           by_cases c31 : 1 ≤ (x5_1.length : Int)
           ·rw [if_pos c31] at H
            have c31b0 := eq_true c31
            have c31b1 : decide (1 ≤ (x5_1.length : Int)) = true := decide_eq_true c31
            clear c31
            obtain ⟨y372, hy372⟩ : ∃ y_ : List Int, y_ = (x5_1.drop 1) := ⟨_, rfl⟩
            replace H : (if (ji28) ≤ (x5_1.length : Int) then (if 0 < (x5_1.length : Int) then (impl_powers.l1 k1 t352 ji3 ((Cu.shiftUp x5_1 ((ji28) : Int).toNat).set (0 : Int).toNat 0) y368 (rd x5_1 (ji28)) a0 x24_1 (x5_1.length : Int) 0) else (none)) else (none)) = some r := by first | (rw [hy372]; with_reducible exact H) | (rw [hy372]; with_reducible exact (bs H :)) | with_reducible exact (bs H :) | exact H
            have Ny372 := Aside0.mk hy372
            clear hy372
            have c32b0 := eq_true (od : 0 ≤ (ji28))
            by_cases c33 : (ji28) ≤ (x5_1.length : Int)
            ·rw [if_pos c33] at H
             have c33b0 := eq_true c33
             have c33b1 : decide ((ji28) ≤ (x5_1.length : Int)) = true := decide_eq_true c33
             clear c33
             obtain ⟨y377, hy377⟩ : ∃ y_ : List Int, y_ = (x5_1.take ((ji28) : Int).toNat) := ⟨_, rfl⟩
             replace H : (if 0 < (x5_1.length : Int) then (impl_powers.l1 k1 t352 ji3 ((Cu.shiftUp x5_1 ((ji28) : Int).toNat).set (0 : Int).toNat 0) y368 (rd x5_1 (ji28)) a0 x24_1 (x5_1.length : Int) 0) else (none)) = some r := by first | (rw [hy377]; with_reducible exact H) | (rw [hy377]; with_reducible exact (bs H :)) | with_reducible exact (bs H :) | exact H
             have Ny377 := Aside0.mk hy377
             clear hy377
             obtain ⟨y382, hy382⟩ : ∃ y_ : List Int, y_ = (Cu.shiftUp x5_1 ((ji28) : Int).toNat) := ⟨_, rfl⟩
             replace H : (if 0 < (x5_1.length : Int) then (impl_powers.l1 k1 t352 ji3 (y382.set (0 : Int).toNat 0) y368 (rd x5_1 (ji28)) a0 x24_1 (x5_1.length : Int) 0) else (none)) = some r := by first | (rw [hy382]; with_reducible exact H) | (rw [hy382]; with_reducible exact (bs H :)) | with_reducible exact (bs H :) | exact H
             have Ny382 := Aside0.mk hy382
             clear hy382
             by_cases c34 : 0 < (x5_1.length : Int)
             ·rw [if_pos c34] at H
              have c34b0 : decide (0 < (x5_1.length : Int)) = true := decide_eq_true c34
              have c34b1 : decide (0 < x5_1.length) = true := decide_eq_true (by omega)
              clear c34
              obtain ⟨y383, hy383⟩ : ∃ y_ : List Int, y_ = (y382.set (0 : Int).toNat 0) := ⟨_, rfl⟩
              replace H : (impl_powers.l1 k1 t352 ji3 y383 y368 (rd x5_1 (ji28)) a0 x24_1 (x5_1.length : Int) 0) = some r := by first | (rw [hy383]; with_reducible exact H) | (rw [hy383]; with_reducible exact (bs H :)) | with_reducible exact (bs H :) | exact H
              have Ny383 := Aside0.mk hy383
              clear hy383
              have H' := Aside0.mk H
              clear H
              try go_wp2_with (first | ((with_reducible refine gate_callee (f := 183) rfl ?_); refine goesL_ (some 28) rfl rfl Try.func183 (by kernel_rfl) rfl #[.slice (some ⟨go7, 0, none⟩) x5_1.length co7] rfl ar ?_; (with_reducible refine (slices_Clone_int64_int64.calls _ _ x5_1 t365 _ ?side1 ?side2 A26.out).mono ?_); (case side1 => exact kC (Kd.R_reads' HO_5.out).2.2); (case side2 => exact (Kd.R_reads' HO_5.out).2.1); rintro e w36 ⟨v366, rfl, ho0, hb⟩; refine ⟨_, rfl, ?_⟩; replace HO_6 := Aside0.mk (Kd.N_elder' (kN HO_6.out) (Kd.R_base ho0) hb); have HO367 := Aside0.mk (Kd.R_lower (Kd.R_new' (Kd.R_new' (Kd.R_newM (M := fun k_ => (w.heap.size ≤ k_)) ho0 (below_size tb) (fun k_ h_ => h_)) (Kd.R_lt (kR HO_3.out))) (Kd.R_lt (kR HO_5.out))) (below_size tb)); replace HO_3 := Aside0.mk (Kd.R_elder' (kR HO_3.out) (Kd.R_base ho0) hb); replace HO_5 := Aside0.mk (Kd.R_elder' (kR HO_5.out) (Kd.R_base ho0) hb); replace HB := Aside0.mk (below_step tb hb); (try clear hb); (try clear hb2); (try clear hk); (try clear hi); (try clear ho0); obtain ⟨Ao38, co38, eo38⟩ := Kd.R_slice HO367.out; subst eo38) | ((with_reducible refine gate_builtin (b := .append) (xs := #[.tmp 26, .tmp 29]) rfl ?_); at_builtin; refine Kd.N_append (Kd.slice 2 (Kd.int .i64)) (w0 := w) w.heap.size rfl (.tmp 26) (.tmp 29) 50 27 (.slice none 0 0) 24 rfl Try.underlying50 info27 rfl (by decide) (by omega) u6 x6_1 t365 [.slice Ao38 t365.length co38] (fun k_ => (w.heap.size ≤ k_) ∧ some k_ ≠ (.slice Ao18 t352.length co18 : Value).ownBlock ∧ some k_ ≠ (.slice (some ⟨go7, 0, none⟩) x5_1.length co7 : Value).ownBlock) (fun k_ => ((fun k_ => (w.heap.size ≤ k_) ∧ some k_ ≠ (.slice Ao18 t352.length co18 : Value).ownBlock ∧ some k_ ≠ (.slice (some ⟨go7, 0, none⟩) x5_1.length co7 : Value).ownBlock)) k_ ∧ some k_ ≠ (u6 : Value).ownBlock) rfl rfl ?aP (fun _ hk => hk) ?aF ?aO ?aB ?aS ?aL ?_; (case aP => exact (Cu.FK_of_R (Kd.R_mono (ok' := (fun k_ => ((fun k_ => (w.heap.size ≤ k_) ∧ some k_ ≠ (.slice Ao18 t352.length co18 : Value).ownBlock ∧ some k_ ≠ (.slice (some ⟨go7, 0, none⟩) x5_1.length co7 : Value).ownBlock)) k_ ∧ some k_ ≠ (u6 : Value).ownBlock)) (Kd.R_apart' (HO367.out) (Kd.N_typed HO_6.out) (by decide)) (fun k_ hk => ⟨⟨hk.1.1.1.1, ⟨hk.1.1.2, hk.1.2⟩⟩, hk.2⟩)))); (case aB => exact tb); (case aF => exact (fun k_ hk => ⟨(Nat.le_trans (below_size tb) hk), Kd.fresh' (Kd.R_lt (kR HO_3.out)) k_ hk, Kd.fresh' (Kd.R_lt (kR HO_5.out)) k_ hk⟩)); (case aO => exact (by (with_reducible repeat (first | apply Kd.N_alloc | apply Kd.N_drewN | apply Kd.N_drew)); exact Kd.N_mono HO_6.out (fun _ hk => ⟨hk.1.1, ⟨hk.1.2.1, hk.1.2.2⟩⟩))); (case aS => exact (below_size tb)); (case aL => have := LMc27.out; omega); intro v369 w37 ho hb hg hat; rw [← Ny368.out] at ho; have n0_ := Aside0.mk (Kd.R_over' (kR HO_3.out) (Kd.N_typed (kN HO_6.out)) (by decide) hg); have n1_ := Aside0.mk (Kd.R_over' (kR HO_5.out) (Kd.N_typed (kN HO_6.out)) (by decide) hg); have n2_ := Aside0.mk (hb); have n3_ := Aside0.mk (ho); clear HO_3; clear HO_5; clear HB; clear HO_6; clear HO367; have HO_3 := n0_; have HO_5 := n1_; have HB := n2_; have HO370 := n3_; clear n0_ n1_ n2_ n3_; clear ho hb hg hat; have p371 : 0 ≤ ((ji28) : Int) := od; have q371 : (ji28) < (x5_1.length : Int) := od; obtain ⟨ad371, e371, hx371_0⟩ := Kd.at_int (Kd.R_reads' HO_5.out).2.2 (ji28) p371 q371; obtain rfl : (⟨go7, 0, none⟩ : Addr) = ad371 := (by injection e371); (first | simp only [add_plain] at hx371_0 | simp only [add_at] at hx371_0 | simp only [Addr.add, Nat.zero_add] at hx371_0 | skip); replace p371 := eq_true p371; replace q371 := eq_true q371))
              replace HO_3 := Aside0.mk (Kd.R_drew HO_3.out)
              replace HO_5 := Aside0.mk (Kd.R_drew HO_5.out)
              replace HO370 := Aside0.mk (Kd.N_drew HO370.out)
              replace HB := Aside0.mk (below_drew1 HB.out)
              have q40 : (1 : Int) ≤ ((x5_1.length : Int) : Int) := od
              obtain ⟨i040, hi040, _, hsz40, _⟩ := info_parts info2
              have hroom40 : x5_1.length ≤ co7 := (Kd.R_reads' HO_5.out).2.1
              have hC40 : Kd.F (Kd.int .i64) _ _ (some ⟨go7, 0, none⟩) x5_1.length x5_1 := (Kd.V_at (base := w.heap.size) (Kd.R_V (Kd.R_apart' (HO_5.out) (Kd.N_typed HO370.out) (by decide)))).2.2
              have hcut40 := cut_from (P := Try.prog) 27 2 .i64 Try.underlying27 hi040 1 hsz40 (some ⟨go7, 0, none⟩) x5_1.length co7 1 (by omega) q40
              have hr40 := Kd.F_cut (m := (1 : Int).toNat) (c := co7) hC40 (by omega) hroom40
              obtain ⟨A40, hA40⟩ : ∃ A1, A1 = (if co7 = (1 : Int).toNat then (some ⟨go7, 0, none⟩) else ((some ⟨go7, 0, none⟩) : Option Addr).map (·.add ((1 : Int).toNat * 1))) := ⟨_, rfl⟩
              obtain ⟨c40, hc40⟩ : ∃ c1, c1 = co7 - (1 : Int).toNat := ⟨_, rfl⟩
              have hy40 : y372.length = x5_1.length - (1 : Int).toNat := (by rw [Ny372.out, List.length_drop] <;> omega)
              rw [show (x5_1).drop (1 : Int).toNat = y372 from Ny372.out.symm] at hr40
              replace hr40 : Kd.F (Kd.int .i64) _ _ A40 y372.length y372 := (by rw [hA40]; exact hr40)
              rw [← hy40, ← hA40, ← hc40] at hcut40
              have HO376 := Aside0.mk (show Kd.V (Kd.int .i64) 2 _ w.heap.size _ (.slice A40 y372.length c40) y372 from Kd.V_mk (by rw [hy40, hc40]; exact Nat.sub_le_sub_right hroom40 _) hr40)
              have HC376 := Aside0.mk (show y372.length ≤ c40 from by rw [hy40, hc40]; exact Nat.sub_le_sub_right hroom40 _)
              clear hr40 hC40 hroom40 hi040 hsz40 hc40
              have KY40 := Aside0.mk hy40
              have KA40 := Aside0.mk hA40
              clear hy40 hA40
              replace q40 := eq_true q40
              have q41 : ((ji28) : Int) ≤ ((x5_1.length : Int) : Int) := od
              obtain ⟨i041, hi041, _, hsz41, _⟩ := info_parts info2
              have hroom41 : x5_1.length ≤ co7 := (Kd.R_reads' HO_5.out).2.1
              have hC41 : Kd.F (Kd.int .i64) _ _ (some ⟨go7, 0, none⟩) x5_1.length x5_1 := (Kd.V_at (base := w.heap.size) (Kd.R_V (Kd.R_apart' (HO_5.out) (Kd.N_typed HO370.out) (by decide)))).2.2
              have hcut41 := cut_to (P := Try.prog) 27 2 .i64 Try.underlying27 hi041 (some ⟨go7, 0, none⟩) x5_1.length co7 (ji28) (od) q41 hroom41
              have hr41 := Kd.F_take (m := ((ji28) : Int).toNat) hC41 (by omega)
              have hy41 : y377.length = ((ji28) : Int).toNat := (by rw [Ny377.out, List.length_take]; omega)
              rw [← Ny377.out] at hr41
              rw [← hy41] at hcut41
              have HO381 := Aside0.mk (show Kd.V (Kd.int .i64) 2 _ w.heap.size _ (.slice (some ⟨go7, 0, none⟩) y377.length co7) y377 from Kd.V_mk (by omega) hr41)
              have HC381 := Aside0.mk (show y377.length ≤ co7 from by omega)
              clear hr41 hC41 hroom41 hi041 hsz41
              have KY41 := Aside0.mk hy41
              clear hy41
              replace q41 := eq_true q41
              have n_ := Aside0.mk (Kd.R_mono (ok' := (fun k_ => (w.heap.size ≤ k_) ∧ some k_ ≠ (.slice Ao18 t352.length co18 : Value).ownBlock)) HO_5.out (fun k_ hk => ⟨hk.1.1, hk.1.2⟩))
              clear HO_5
              have HO_5 := n_
              clear n_
              refine start_ (n := 7) (S := fun w' => True) (ds := []) #[false, false, false, false, false, false, false] (by kernel_rfl) rfl rfl trivial (fun hHeld => ?_)
              generalize w37.drew = w39 at HO_3 HO_5 HO370 HB HO376 HO381 hHeld ⊢
              refine pu 0 (some 36) #[true, false, false, false, false, false, false] ?_
              refine pu 1 (some 37) #[true, true, false, false, false, false, false] ?_
              refine pu 2 (some 38) #[true, true, true, false, false, false, false] ?_
              refine pu 3 (some 39) #[true, true, true, true, false, false, false] ?_
              refine pu 4 (some 40) #[true, true, true, true, true, false, false] ?_
              refine pu 5 (some 41) #[true, true, true, true, true, true, false] ?_
              refine one_ (i := 6) (N := some 42) #[true, true, true, true, true, true, true] rfl rfl (by kernel_rfl) (by decide) (fun K hK => ?_)
              have hl_ : (1 : Int) ≤ ((x5_1.length : Int) : Int) := od
              have hh_ : ((ji28) : Int) ≤ ((x5_1.length : Int) : Int) := od
              have hr_ := (Kd.R_reads' HO_5.out).1
              have hy2_ := KY41.out
              refine Cu.R_copyup_step (w0 := w) w.heap.size (by rfl) (.tmp 37) (.tmp 41) 27 2 rfl Try.underlying27 (by kernel_rfl) (g := go7) (n := x5_1.length) (cap := co7) (h := y377.length) rfl rfl ?hA ?hm (kR HO_5.out) ?hk tb (below_size tb) ?_
              (case hA => have ha_ := KA40.out; exact ha_)
              (case hm => have ha_ := KY40.out; omega)
              (case hk => omega)
              intro w42 ho hb hg
              rw [hy2_, ← Ny382.out] at ho
              clear hl_ hh_ hr_ hy2_
              replace HO_3 := Aside0.mk (Kd.R_after (v := (.slice (some ⟨go7, 0, none⟩) x5_1.length co7)) (v1 := (.slice (some ⟨go7, 0, none⟩) x5_1.length co7)) (ok := (fun k_ => (w.heap.size ≤ k_))) (by (with_reducible repeat (first | apply Kd.R_alloc | apply Kd.R_drewN | apply Kd.R_drew)); exact Kd.R_mono HO_3.out (fun _ hk => ⟨hk.1.1, hk.1.2⟩)) hg (.inl rfl))
              replace HO_5 := Aside0.mk (ho)
              replace HO370 := Aside0.mk (Kd.N_afterv (v := (.slice (some ⟨go7, 0, none⟩) x5_1.length co7)) (v1 := (.slice (some ⟨go7, 0, none⟩) x5_1.length co7)) (ok := (fun k_ => (w.heap.size ≤ k_) ∧ some k_ ≠ (.slice Ao18 t352.length co18 : Value).ownBlock)) (by (with_reducible repeat (first | apply Kd.N_alloc | apply Kd.N_drewN | apply Kd.N_drew)); exact Kd.N_mono HO370.out (fun _ hk => ⟨⟨hk.1, hk.2.1⟩, hk.2.2⟩)) hg (.inl rfl))
              replace HB := Aside0.mk (hb)
              clear ho hb hg
              refine hK.out _ _ trivial (fun hHeld => ?_)
              clear hK K
              refine nr ?_
              refine done_ (by kernel_rfl) ?_
              have p35 : 0 ≤ (0 : Int) := (by omega)
              have q35 : (0 : Int) < ((x5_1.length : Int) : Int) := od
              have qi35 : (0 < x5_1.length) = True := eq_true (by omega)
              obtain ⟨hx35_0, hf35_0⟩ := Kd.R_celln 0 HO_5.out (0 : Int) p35 q35
              (try rw [show ((0 : Int)).toNat = 0 from rfl] at hx35_0)
              (try simp only [Nat.reduceMul, Nat.zero_mul, Nat.zero_add, Nat.reduceAdd] at hx35_0)
              (try rw [show ((0 : Int)).toNat = 0 from rfl] at hf35_0)
              (try simp only [Nat.reduceMul, Nat.zero_mul, Nat.zero_add, Nat.reduceAdd] at hf35_0)
              replace p35 := eq_true p35
              replace q35 := eq_true q35
              obtain ⟨hy44_, hz44_⟩ := Kd.R_celln 0 HO_5.out (0 : Int) (by omega) (od)
              (try simp only [Int.reduceToNat, Int.toNat_zero, Int.toNat_ofNat, Nat.reduceMul, Nat.zero_mul, Nat.zero_add] at hy44_ hz44_)
              (try rw [show ((0 : Int)).toNat = 0 from rfl] at hy44_)
              (try rw [show ((0 : Int)).toNat = 0 from rfl] at hz44_)
              have HP44 := Kd.R_putg HO_5.out (0 : Int) 0
              try go_wp2_with (first | ((with_reducible refine gate_store (t := 2) (p := 44) rfl ?_); refine store_event (t := 2) (p := 44) (v := ?vo_w45) (w1 := (w42.setCell ⟨go7, (0 : Int).toNat, none⟩ (.int .i64 0))) ?hg ?ho ?hn ?hr ?_; (case ho => rfl); (case hg => rfl); (case hn => rfl); (case hr => first | (go_simp; done) | (go_simp; rfl)); intro w45 hw; have hg : w42.grownBy w45 (some go7) := (by rw [hw]; exact HP44.2); have hp_ : Kd.R (Kd.int .i64) 2 w45 w.heap.size (fun k_ => (w.heap.size ≤ k_) ∧ some k_ ≠ (.slice Ao18 t352.length co18 : Value).ownBlock) (.slice (some ⟨go7, 0, none⟩) x5_1.length co7) y383 := (by rw [hw, Ny383.out]; exact HP44.1); clear HP44; replace HO_3 := Aside0.mk (Kd.R_after (v := (.slice (some ⟨go7, 0, none⟩) x5_1.length co7)) (v1 := (.slice (some ⟨go7, 0, none⟩) x5_1.length co7)) (ok := (fun k_ => (w.heap.size ≤ k_))) (kR HO_3.out) hg (.inl rfl)); replace HO_5 := Aside0.mk (hp_); replace HO370 := Aside0.mk (Kd.N_afterv (v := (.slice (some ⟨go7, 0, none⟩) x5_1.length co7)) (v1 := (.slice (some ⟨go7, 0, none⟩) x5_1.length co7)) (ok := (fun k_ => (w.heap.size ≤ k_) ∧ some k_ ≠ (.slice Ao18 t352.length co18 : Value).ownBlock)) (kN HO370.out) hg (.inl rfl)); replace HB := Aside0.mk ((by rw [hw]; exact below_set (HB.out) GB7.out : Below w.heap.size w w45)); clear hg hw hp_))
              go_loopg [47] k1 (fun kq v47 w' => ∃ (x5_2 : List Int) (x47_2 : Int), v47 = .int .i64 x47_2 ∧ Aside0 (impl_powers.l1 kq t352 ji3 x5_2 y368 (rd x5_1 (ji28)) a0 x24_1 (x5_1.length : Int) x47_2 = some r) ∧ Aside0 (kq ≤ k1) ∧ Aside0 (Kd.R (Kd.int .i64) 2 w' w.heap.size (fun k_ => (w.heap.size ≤ k_) ∧ some k_ ≠ ((.slice (some ⟨go7, 0, none⟩) x5_1.length co7) : Value).ownBlock) (.slice Ao18 t352.length co18) t352) ∧ Aside0 (Kd.R (Kd.int .i64) 2 w' w.heap.size (fun k_ => (w.heap.size ≤ k_) ∧ some k_ ≠ ((.slice Ao18 t352.length co18) : Value).ownBlock) (.slice (some ⟨go7, 0, none⟩) x5_1.length co7) x5_2) ∧ Aside0 (Kd.N (Kd.slice 2 (Kd.int .i64)) 27 w' w.heap.size (fun k_ => (w.heap.size ≤ k_) ∧ some k_ ≠ ((.slice Ao18 t352.length co18) : Value).ownBlock ∧ some k_ ≠ ((.slice (some ⟨go7, 0, none⟩) x5_1.length co7) : Value).ownBlock) v369 y368) ∧ Aside0 (Below w.heap.size w w'))
              case atStart => exact ⟨(y383), (0), (by first | rfl | (simp; done) | (simp [*]; done)), H', ⟨Nat.le_refl _⟩, ⟨by (try simp only [hl5_1]); (with_reducible repeat (first | apply Kd.R_alloc | apply Kd.R_drewN | apply Kd.R_drew)); exact HO_3.out⟩, ⟨by (try simp only [hl5_1]); (with_reducible repeat (first | apply Kd.R_alloc | apply Kd.R_drewN | apply Kd.R_drew)); exact HO_5.out⟩, ⟨by (try simp only [hl5_1]); (with_reducible repeat (first | apply Kd.N_alloc | apply Kd.N_drewN | apply Kd.N_drew)); exact Kd.N_mono HO370.out (fun _ hk => ⟨hk.1.1, ⟨hk.1.2, hk.2⟩⟩)⟩, ⟨tb⟩⟩
              case round =>
               clear H'
               try clear c1
               try clear c2
               try clear p2
               try clear c3
               try clear p3
               try clear q3
               try clear hx3
               try clear qi3
               try clear hf3
               try clear c4
               try clear c4b0
               try clear c4b1
               try clear q4
               try clear c5
               try clear c5b0
               try clear c5b1
               try clear c6
               try clear c6b0
               try clear c6b1
               try clear p6
               try clear p7
               try clear q7
               try clear hx7
               try clear qi7
               try clear hf7
               try clear c8
               try clear c8b0
               try clear c8b1
               try clear c18
               try clear c21
               try clear c25
               try clear c25b0
               try clear c26
               try clear c27
               try clear c29
               try clear c29b0
               try clear c30
               try clear c30b0
               try clear c31
               try clear c31b0
               try clear c31b1
               try clear c32
               try clear c32b0
               try clear c33
               try clear c33b0
               try clear c33b1
               try clear c34
               try clear c34b0
               try clear c34b1
               try clear p35
               try clear q35
               try clear hx35
               try clear qi35
               try clear hf35
               try clear p37
               try clear q37
               try clear hx37
               try clear c40
               try clear q40
               try clear q41
               try clear hx35_0
               try clear hx371_0
               try clear hx7_0
               try clear p2
               try clear p35
               try clear p371
               try clear p6
               try clear p7
               try clear q35
               try clear q371
               try clear q40
               try clear q41
               try clear q7
               obtain ⟨x5_2, x47_2, rfl, HA, HK2, HO_3, HO_5, HO_6, HB⟩ := hrel
               have hl5_2 := (Kd.R_reads' HO_5.out).1
               rw [hl5_2] at HO_5
               (try simp only [hl5_2])
               (try simp only [hl5_2] at HO_3)
               (try simp only [hl5_2] at HO_6)
               cases gk with
               | zero => exact absurd HA.out (by simp [impl_powers.l1])
               | succ k2 =>
                have H := HA.out
                clear HA
                simp only [impl_powers.l1] at H
                by_cases c46 : x47_2 < (x5_1.length : Int)
                ·rw [if_pos c46] at H
                 have c46b0 : decide (x47_2 < (x5_1.length : Int)) = true := decide_eq_true c46
                 clear c46
                 by_cases c47 : 0 ≤ x47_2
                 ·rw [if_pos c47] at H
                  have c47b0 : decide (0 ≤ x47_2) = true := decide_eq_true c47
                  clear c47
                  by_cases c48 : x47_2 < (x5_2.length : Int)
                  ·rw [if_pos c48] at H
                   have c48b0 : decide (x47_2 < (x5_2.length : Int)) = true := decide_eq_true c48
                   clear c48
                   by_cases c49 : x47_2 < (t352.length : Int)
                   ·rw [if_pos c49] at H
                    have c49b0 : decide (x47_2 < (t352.length : Int)) = true := decide_eq_true c49
                    clear c49
                    obtain ⟨y386, hy386⟩ : ∃ y_ : List Int, y_ = (x5_2.set (x47_2 : Int).toNat (wrap64 ((rd x5_2 x47_2) - (wrap64 ((rd x5_1 (ji28)) * (rd t352 x47_2)))))) := ⟨_, rfl⟩
                    replace H : (impl_powers.l1 k2 t352 ji3 y386 y368 (rd x5_1 (ji28)) a0 x24_1 (x5_1.length : Int) (wrap64 (x47_2 + 1))) = some r := by first | (rw [hy386]; with_reducible exact H) | (rw [hy386]; with_reducible exact (bs H :)) | with_reducible exact (bs H :) | exact H
                    have Ny386 := Aside0.mk hy386
                    clear hy386
                    have H' := Aside0.mk H
                    clear H
                    try go_wp2
                    replace HO_3 := Aside0.mk (Kd.R_drew HO_3.out)
                    replace HO_5 := Aside0.mk (Kd.R_drew HO_5.out)
                    replace HO_6 := Aside0.mk (Kd.N_drew HO_6.out)
                    replace HB := Aside0.mk (below_drew1 HB.out)
                    have p384 : 0 ≤ (x47_2 : Int) := od
                    have q384 : x47_2 < (x5_2.length : Int) := od
                    obtain ⟨ad384, e384, hx384_0⟩ := Kd.at_int (Kd.R_reads' HO_5.out).2.2 x47_2 p384 q384
                    obtain rfl : (⟨go7, 0, none⟩ : Addr) = ad384 := (by injection e384)
                    (first | simp only [add_plain] at hx384_0 | simp only [add_at] at hx384_0 | simp only [Addr.add, Nat.zero_add] at hx384_0 | skip)
                    replace p384 := eq_true p384
                    replace q384 := eq_true q384
                    have p385 : 0 ≤ (x47_2 : Int) := od
                    have q385 : x47_2 < (t352.length : Int) := od
                    obtain ⟨ad385, e385, hx385_0⟩ := Kd.at_int (Kd.R_reads' HO_3.out).2.2 x47_2 p385 q385
                    cases e385
                    replace p385 := eq_true p385
                    replace q385 := eq_true q385
                    have p50 : 0 ≤ (x47_2 : Int) := od
                    have q50 : (x47_2 : Int) < ((x5_2.length : Int) : Int) := od
                    obtain ⟨hx50_0, hf50_0⟩ := Kd.R_celln 0 HO_5.out (x47_2 : Int) p50 q50
                    replace p50 := eq_true p50
                    replace q50 := eq_true q50
                    have HP52 := Kd.R_putn HO_5.out (x47_2 : Int) (wrap64 ((rd x5_2 x47_2) - (wrap64 ((rd x5_1 (ji28)) * (rd t352 x47_2)))))
                    rw [← Ny386.out] at HP52
                    have HQ52 := Aside0.mk HP52
                    clear HP52
                    refine start_ (n := 13) (S := fun w' => w'.cell? ⟨go7, (x47_2).toNat, none⟩ = some (.int .i64 (rd x5_2 x47_2)) ∧ w'.cell? (ad385.add (x47_2).toNat) = some (.int .i64 (rd t352 x47_2))) (ds := [12]) #[false, false, false, false, false, false, false, false, false, false, false, false, false] (by kernel_rfl) rfl rfl ⟨hx384_0, hx385_0⟩ (fun hHeld => ?_); refine with_tabW impl_powers.tab17 impl_powers.bits17 (fun HT_ HW_ => ?_)
                    generalize wr.drew = w51 at HO_3 HO_5 HO_6 HB HQ52 hf50_0 hx384_0 hx385_0 hx50_0 hHeld ⊢
                    refine pu 0 (some 50) #[true, false, false, false, false, false, false, false, false, false, false, false, false] ?_
                    refine pu 1 (some 51) #[true, true, false, false, false, false, false, false, false, false, false, false, false] ?_
                    refine pu 2 (some 52) #[true, true, true, false, false, false, false, false, false, false, false, false, false] ?_
                    refine pu 4 (some 54) #[true, true, true, false, true, false, false, false, false, false, false, false, false] ?_
                    refine pu 5 (some 55) #[true, true, true, false, true, true, false, false, false, false, false, false, false] ?_
                    refine pu 6 (some 56) #[true, true, true, false, true, true, true, false, false, false, false, false, false] ?_
                    refine pu 7 (some 57) #[true, true, true, false, true, true, true, true, false, false, false, false, false] ?_
                    refine tk 3 (some 53) #[true, true, true, true, true, true, true, true, false, false, false, false, false] hHeld ?_
                    refine tk 8 (some 58) #[true, true, true, true, true, true, true, true, true, false, false, false, false] hHeld ?_
                    refine pu 9 (some 59) #[true, true, true, true, true, true, true, true, true, true, false, false, false] ?_
                    refine pu 10 (some 60) #[true, true, true, true, true, true, true, true, true, true, true, false, false] ?_
                    refine pu 11 (some 61) #[true, true, true, true, true, true, true, true, true, true, true, true, false] ?_
                    refine last_ (i := 12) (N := none) #[true, true, true, true, true, true, true, true, true, true, true, true, true] rfl rfl (one_of HT_.out (by kernel_rfl)) (by decide) (fun K hK => ?_)
                    refine skip_ (w1 := ?_) (by rfl) rfl ?_ ?_
                    rotate_left
                    ·go_simp
                     rfl
                    refine hK.out _ _ ?_
                    clear hK K
                    refine done_ (done_of HT_.out (by kernel_rfl)) ?_
                    try go_wp2
                    (try simp only [← hl5_2])
                    go_roundg k2
                    case measure => have := HK1.out; have := HK2.out; omega
                    case rel => exact ⟨(y386), (wrap64 (x47_2 + 1)), (by first | rfl | (simp; done) | (simp [*]; done)), H', ⟨by have := HK1.out; have := HK2.out; omega⟩, ⟨by (try simp only [hl5_1]); (try simp only [hl5_2]); (with_reducible repeat (first | apply Kd.R_alloc | apply Kd.R_drewN | apply Kd.R_drew)); exact Kd.R_mono (Kd.R_far (p := ⟨go7, (x47_2 : Int).toNat, none⟩) (Kd.R_mono HO_3.out (fun k_ hk => (⟨hk, fun e_ => hk.2 (by rw [e_]; rfl)⟩ : _ ∧ k_ ≠ go7))) (fun _ hk => hk.2) (.int .i64 (wrap64 ((rd x5_2 x47_2) - (wrap64 ((rd x5_1 (ji28)) * (rd t352 x47_2))))))) (fun _ hk => ⟨hk.1.1, hk.1.2⟩)⟩, ⟨by (try simp only [hl5_1]); (try simp only [hl5_2]); (with_reducible repeat (first | apply Kd.R_alloc | apply Kd.R_drewN | apply Kd.R_drew)); exact HQ52.out⟩, ⟨by (try simp only [hl5_1]); (try simp only [hl5_2]); (with_reducible repeat (first | apply Kd.N_alloc | apply Kd.N_drewN | apply Kd.N_drew)); exact Kd.N_mono (Kd.N_far (p := ⟨go7, (x47_2 : Int).toNat, none⟩) (Kd.N_mono HO_6.out (fun k_ hk => (⟨hk, fun e_ => hk.2.2 (by rw [e_]; rfl)⟩ : _ ∧ k_ ≠ go7))) (fun _ hk => hk.2) (.int .i64 (wrap64 ((rd x5_2 x47_2) - (wrap64 ((rd x5_1 (ji28)) * (rd t352 x47_2))))))) (fun _ hk => ⟨hk.1.1, ⟨hk.1.2.1, hk.1.2.2⟩⟩)⟩, ⟨tb⟩⟩
                   ·rw [if_neg c49] at H
                    exact absurd H (by simp)
                  ·rw [if_neg c48] at H
                   exact absurd H (by simp)
                 ·rw [if_neg c47] at H
                  exact absurd H (by simp)
                ·rw [if_neg c46] at H
                 have c46b0 : decide (x47_2 < (x5_1.length : Int)) = false := decide_eq_false c46
                 (try (have c46b0_hl5_1 := c46b0; simp only [hl5_1] at c46b0_hl5_1))
                 (try (have c46b0_hl5_1_ := c46b0; simp only [← hl5_1] at c46b0_hl5_1_))
                 (try (have c46b0_hl5_2 := c46b0; simp only [hl5_2] at c46b0_hl5_2))
                 (try (have c46b0_hl5_2_ := c46b0; simp only [← hl5_2] at c46b0_hl5_2_))
                 clear c46
                 have H' := Aside0.mk H
                 clear H
                 go_wp2
                 (try simp only [← hl5_1, ← hl5_2])
                 go_roundg k2
                 case measure => have := HK1.out; have := HK2.out; omega
                 case rel => exact ⟨(x5_2), (y368), (wrap64 (x24_1 + 1)), (by first | rfl | (simp; done) | (simp [*]; done)), H', ⟨by have := HK1.out; have := HK2.out; omega⟩, ⟨by (try simp only [hl5_1]); (try simp only [hl5_2]); (with_reducible repeat (first | apply Kd.R_alloc | apply Kd.R_drewN | apply Kd.R_drew)); exact HO_3.out⟩, ⟨by (try simp only [hl5_1]); (try simp only [hl5_2]); (with_reducible repeat (first | apply Kd.R_alloc | apply Kd.R_drewN | apply Kd.R_drew)); exact HO_5.out⟩, ⟨by (try simp only [hl5_1]); (try simp only [hl5_2]); (with_reducible repeat (first | apply Kd.N_alloc | apply Kd.N_drewN | apply Kd.N_drew)); exact HO_6.out⟩, ⟨tb⟩⟩
             ·rw [if_neg c34] at H
              exact absurd H (by simp)
            ·rw [if_neg c33] at H
             exact absurd H (by simp)
           ·rw [if_neg c31] at H
            exact absurd H (by simp)
          ·rw [if_neg c30] at H
           exact absurd H (by simp)
         ·rw [if_neg c29] at H
          exact absurd H (by simp)
        ·rw [if_neg c27] at H
         exact absurd H (by simp)
       ·rw [if_neg c25] at H
        have c25b0 : decide (x24_1 < a0) = false := decide_eq_false c25
        clear c25
        obtain rfl := Option.some.inj H
        go_wp2
        go_ret
        exact ⟨_, by first | rfl | (simp [errW_none, errW_some] <;> rfl) | (simp only [← hji3]; first | rfl | (simp [errW_none, errW_some] <;> rfl)) | (simp [*, errW_none, errW_some] <;> rfl), by (with_reducible repeat (first | apply Kd.N_alloc | apply Kd.N_drewN | apply Kd.N_drew)); exact Kd.N_mono HO_6.out (fun _ hk => hk.1), tb⟩
   ·rw [if_neg c6] at H
    exact absurd H (by simp)
  ·rw [if_neg c5] at H
   exact absurd H (by simp)
 ·rw [if_neg c4] at H
  exact absurd H (by simp)

/-! ### impl_fieldOf: function 113 -/
def impl_fieldOf.f (k : Nat) (a0 : Int) : Option (Int × Int × (List (List Int))) := (impl_powers.f k a0).bind fun t388 => (if 0 < (t388.length : Int) then (some (a0, ((rd_L3 t388 0).length : Int), t388)) else (none))
set_option maxHeartbeats 8000000 in
set_option maxRecDepth 100000 in
theorem impl_fieldOf.calls (k : Nat) (a0 : Int) (r1 : Int) (r2 : Int) (r3 : List (List Int)) (w : World) (h : impl_fieldOf.f k a0 = some (r1, r2, r3)) :
  Calls Try.prog 113 #[.int .i64 a0] w fun e w' => ∃ v2_ : Value, e = .returned (.agg #[.int .i64 r1, .int .i64 r2, v2_]) ∧ Kd.N (Kd.slice 2 (Kd.int .i64)) 27 w' w.heap.size (fun k_ => (w.heap.size ≤ k_)) v2_ r3 ∧ Below w.heap.size w w' := by
 have hu117 := Try.underlying117
 have HB := Aside0.mk (Below.refl w.heap.size w)
 have H : ((impl_powers.f k a0).bind fun t388 => (if 0 < (t388.length : Int) then (some (a0, ((rd_L3 t388 0).length : Int), t388)) else (none))) = some (r1, r2, r3) := h
 clear h
 replace H := Option.bind_eq_some_iff.mp H
 obtain ⟨t388, A20, H⟩ := H
 replace H : (if 0 < (t388.length : Int) then (some (a0, ((rd_L3 t388 0).length : Int), t388)) else (none)) = some (r1, r2, r3) := H
 have A2 := Aside0.mk A20
 clear A20
 by_cases c3 : 0 < (t388.length : Int)
 ·rw [if_pos c3] at H
  have c3b0 : decide (0 < (t388.length : Int)) = true := decide_eq_true c3
  have c3b1 : decide (0 < t388.length) = true := decide_eq_true (by omega)
  clear c3
  simp only [Option.some.injEq, Prod.mk.injEq] at H
  obtain ⟨rfl, rfl, rfl⟩ := H
  go_enter Try.func113, Try.ntmps113
  go_wp2_with (first | ((with_reducible refine gate_dst (N := 2) rfl ?_); refine box_event ?hg (N := 2) ?hd (cs := #[.int .i64 0, .int .i64 0, .slice none 0 0]) (t := 117) ?hr ?_; (case hd => rfl); (case hg => rfl); (case hr => first | (go_simp; done) | (go_simp; rfl)); intro gb387 hg w4 hbox hb; have BK387 := Aside0.mk (hbox); have GW387 := Aside0.mk ((by rw [hg]; exact (below_size tb) : w.heap.size ≤ gb387)); have GE387 := Aside0.mk ((by rw [hg]; exact (below_size tb) : w.heap.size ≤ gb387)); replace HB := Aside0.mk (below_step tb hb); clear hb hbox hg) | ((with_reducible refine gate_callee (f := 217) rfl ?_); refine goesL_ (some 5) rfl rfl Try.func217 (by kernel_rfl) rfl #[.int .i64 a0] rfl ar ?_; (with_reducible refine (impl_powers.calls k a0 t388 _ A2.out).mono ?_); rintro e w5 ⟨v389, rfl, ho0, hb⟩; refine ⟨_, rfl, ?_⟩; have HO390 := Aside0.mk (Kd.N_lower (Kd.N_mono (ok' := fun k_ => (w.heap.size ≤ k_) ∧ k_ ≠ gb387) ho0 (fun k_ hk_ => ⟨(Nat.le_trans (below_size tb) hk_), (Kd.freshB (kb BK387.out) k_ hk_)⟩)) (below_size tb)); replace BK387 := Aside0.mk (blk_below (kb BK387.out) hb); replace HB := Aside0.mk (below_step tb hb); (try clear hb); (try clear hb2); (try clear hk); (try clear hi); (try clear ho0); obtain ⟨Ao6, co6, eo6⟩ := Kd.N_slice HO390.out; subst eo6; have p391 : 0 ≤ (0 : Int) := (by omega); have q391 : 0 < (t388.length : Int) := od; obtain ⟨ad391, A391_0, c391_0, e391, hx391_0, hl391_0, hi391_0⟩ := at_L3 (Kd.N_reads' HO390.out).2.2 0 p391 q391; cases e391; obtain ⟨ce391, hce391, hMe391, hcc391⟩ := Kd.N_get HO390.out [] 0 p391 (by first | exact q391 | exact od | (have e_ := (Kd.N_reads' HO390.out).1; omega)); obtain ⟨ua391_0, uc391_0, rfl, ul391_0, ge391_0⟩ := Kd.FK_slice_open hMe391; have hv391_0 := hcc391 0 _ rfl; rw [Nat.add_zero, show ((Kd.slice 2 (Kd.int .i64))).sz = 1 from rfl, Nat.mul_one] at hv391_0; replace hv391_0 := Option.some.inj (hv391_0.symm.trans hx391_0); injection hv391_0 with hva_ hvn_ hvc_; rw [hva_] at ge391_0; rw [hvc_] at ul391_0; have HL391_0 := Aside0.mk (show Kd.V (Kd.int .i64) 2 _ w.heap.size _ _ (rd_L3 t388 0) from Kd.V_mk ul391_0 ge391_0); clear hva_ hvn_ hvc_ ge391_0 ul391_0; clear hcc391 hce391; have qi391 : (0 < t388.length) = True := eq_true (by omega); (try rw [show ((0 : Int)).toNat = 0 from rfl] at hx391_0); (try rw [Addr.add_zero'] at hx391_0); have HR391_0 := Aside0.mk hi391_0; have HC391_0 := Aside0.mk hl391_0; clear hi391_0 hl391_0; replace p391 := eq_true p391; replace q391 := eq_true q391; have hcz7_0 : w5.cell? ⟨gb387, 0, none⟩ = some (.int .i64 0) := (blk_cell BK387.out 0).trans rfl; have hcz7_1 : w5.cell? ⟨gb387, 1, none⟩ = some (.int .i64 0) := (blk_cell BK387.out 1).trans rfl; have hcz7_2 : w5.cell? ⟨gb387, 2, none⟩ = some (.slice none 0 0) := (blk_cell BK387.out 2).trans rfl; have hfz7_0 := blk_frozen BK387.out 0; have hfz7_1 := blk_frozen BK387.out 1; have hfz7_2 := blk_frozen BK387.out 2))
  refine bodyPost_ret (results_cell_row rfl _ _ gb387 117 #[.int .i64 a0, .int .i64 ((rd_L3 t388 0).length : Int), .slice (some ad391) t388.length co6] (0, 0) _ rfl (by (with_reducible repeat (first | refine blk_drewN ?_ _ | refine blk_drew ?_ | refine blk_alloc ?_ _)); refine blk_put (cs := #[.int .i64 a0, .int .i64 ((rd_L3 t388 0).length : Int), .slice none 0 0]) ?_ 2 _ rfl; (with_reducible repeat (first | refine blk_drewN ?_ _ | refine blk_drew ?_ | refine blk_alloc ?_ _)); refine blk_put (cs := #[.int .i64 a0, .int .i64 0, .slice none 0 0]) ?_ 1 _ rfl; (with_reducible repeat (first | refine blk_drewN ?_ _ | refine blk_drew ?_ | refine blk_alloc ?_ _)); refine blk_put (cs := #[.int .i64 0, .int .i64 0, .slice none 0 0]) ?_ 0 _ rfl; (with_reducible repeat (first | refine blk_drewN ?_ _ | refine blk_drew ?_ | refine blk_alloc ?_ _)); exact BK387.out) Try.underlying117 rfl (by kernel_rfl)) rfl ?_
  exact ⟨_, by first | rfl | (simp [errW_none, errW_some] <;> rfl) | (simp [*, errW_none, errW_some] <;> rfl), by (with_reducible repeat (first | apply Kd.N_alloc | apply Kd.N_drewN | apply Kd.N_drew)); exact Kd.N_mono (Kd.N_far (p := ⟨gb387, 2, none⟩) (Kd.N_far (p := ⟨gb387, 1, none⟩) (Kd.N_far (p := ⟨gb387, 0, none⟩) (Kd.N_mono HO390.out (fun k_ hk => (⟨hk, hk.2⟩ : _ ∧ k_ ≠ gb387))) (fun _ hk => hk.2) (.int .i64 a0)) (fun _ hk => hk.2) (.int .i64 ((rd_L3 t388 0).length : Int))) (fun _ hk => hk.2) (.slice (some ad391) t388.length co6)) (fun _ hk => hk.1.1), tb⟩
 ·rw [if_neg c3] at H
  exact absurd H (by simp)

-- NOT PRINTED: function 278 (slices_IndexFunc_int64_int64)

-- NOT PRINTED: function 262 (slices_ContainsFunc_int64_int64)

/-! ### impl_areSmall: function 204 -/
/-- The first element that a predicate holds of: found or not. -/
def Found_ (p : Int → Bool) (l : List Int) (e : Ending) : Prop := ∃ n : Int, e = .returned (.int .i64 n) ∧ -1 ≤ n ∧ n ≤ 9223372036854775807 ∧ decide (0 ≤ n) = l.any p
theorem any_hit_ (p : Int → Bool) (l : List Int) (kk : Nat) (hlt : kk < l.length) (h : p (rd l (kk : Int)) = true) : l.any p = true := by
 rw [List.any_eq_true]
 refine ⟨l[kk], List.getElem_mem hlt, ?_⟩
 have : rd l (kk : Int) = l[kk] := by
  unfold rd
  simp [List.getD_eq_getElem?_getD, List.getElem?_eq_getElem hlt]
 rw [← this]
 exact h
theorem any_miss_ (p : Int → Bool) (l : List Int) (h : ∀ j, j < l.length → p (rd l (j : Int)) = false) : l.any p = false := by
 rw [List.any_eq_false]
 intro x hx
 obtain ⟨i, hi, rfl⟩ := List.getElem_of_mem hx
 have := h i hi
 have e : rd l (i : Int) = l[i] := by
  unfold rd
  simp [List.getD_eq_getElem?_getD, List.getElem?_eq_getElem hi]
 rw [e] at this
 simp [this]
set_option maxHeartbeats 2000000 in
set_option maxRecDepth 100000 in
theorem indexFunc_int_ (p : Int → Bool) (g : Nat) (lb : Array Value) (eg : ∀ args w, (callFunc g args).run Try.prog w = .ok (.enter g args) w) (A0 : Option Addr) (c0 : Nat) (l0 : List Int) (w : World)
  (hp : PredAt Try.prog g lb (Value.int .i64) p w) (hr0 : Kd.C (Kd.int .i64) w A0 l0.length l0) :
  Calls Try.prog 278 #[.slice A0 l0.length c0, .func (.func g) #[] lb] w fun e w' => Found_ p l0 e ∧ ∃ q, w' = w.drewN q := by
 have hbig : l0.length ≤ 9223372036854775807 := hr0.2.1
 have hpAt : ∀ (x : Int) (q : Nat), Calls Try.prog g (#[Value.int .i64 x] ++ lb) (w.drewN q) fun e w' => e = .returned (.bool (p x)) ∧ ∃ q', w' = (w.drewN q).drewN q' := fun x q => hp _ x (below_drewN' (Below.refl _ w) q)
 clear hp
 have HR0 := Aside0.mk hr0
 clear hr0
 go_enter Try.func278, Try.ntmps278
 go_wp2
 go_loopg [5, 8] l0.length (fun gg _ s8 wr => ∃ kk q : Nat, kk ≤ l0.length ∧ l0.length - kk ≤ gg ∧ s8 = .int .i64 kk ∧ wr = w.drewN q ∧ Aside0 (∀ j : Nat, j < kk → p (rd l0 (j : Int)) = false))
 case atStart => exact ⟨0, 0, Nat.zero_le _, by omega, rfl, rfl, ⟨fun j hj => absurd hj (Nat.not_lt_zero _)⟩⟩
 case round =>
  obtain ⟨kk, q, hkk, hg, rfl, rfl, A⟩ := hrel
  by_cases hlt : kk < l0.length
  ·have hltz : (kk : Int) < (l0.length : Int) := by omega
   obtain ⟨ad, rfl, hcell⟩ := Kd.at_int HR0.out (kk : Int) (by omega) hltz
   rw [Int.toNat_natCast] at hcell
   generalize hy : rd l0 (kk : Int) = y at hcell
   have B : Aside0 (rd l0 (kk : Int) = y) := ⟨hy⟩
   clear hy
   have hcall := hpAt y
   cases hq : p y with
   | true =>
    rw [hq] at hcall
    go_wp2_with (go_at_fn g; refine (hcall _).mono ?_; rintro e w' ⟨rfl, q', rfl⟩)
    go_ret
    exact ⟨⟨_, rfl, by omega, by omega, by rw [any_hit_ p l0 kk hlt (by rw [B.out]; exact hq)]; exact decide_eq_true (by omega)⟩, _, rfl⟩
   | false =>
    rw [hq] at hcall
    go_wp2_with (go_at_fn g; refine (hcall _).mono ?_; rintro e w' ⟨rfl, q', rfl⟩)
    go_roundg (l0.length - (kk + 1))
    case measure => omega
    case rel =>
     refine ⟨kk + 1, _, by omega, by omega, by go_num, rfl, ⟨fun j hj => ?_⟩⟩
     by_cases e : j = kk
     ·subst e
      rw [B.out]; exact hq
     ·exact A.out j (by omega)
  ·have hltz : ¬ (kk : Int) < (l0.length : Int) := by omega
   have hk : kk = l0.length := by omega
   have HK := Aside0.mk hk
   clear hk
   go_wp2
   go_ret
   exact ⟨⟨_, rfl, by omega, by omega, by rw [any_miss_ p l0 (fun j hj => A.out j (by have := HK.out; omega))]; rfl⟩, q, rfl⟩
set_option maxHeartbeats 1000000 in
set_option maxRecDepth 100000 in
theorem containsFunc_int_ (p : Int → Bool) (g : Nat) (lb : Array Value) (eg : ∀ args w, (callFunc g args).run Try.prog w = .ok (.enter g args) w) (A0 : Option Addr) (c0 : Nat) (l0 : List Int) (w : World)
  (hp : PredAt Try.prog g lb (Value.int .i64) p w) (hr0 : Kd.C (Kd.int .i64) w A0 l0.length l0) (r : Bool) (h : l0.any p = r) :
  Calls Try.prog 262 #[.slice A0 l0.length c0, .func (.func g) #[] lb] w fun e w' => e = .returned (.bool r) ∧ ∃ q, w' = w.drewN q := by
 have HC := indexFunc_int_ p g lb eg A0 c0 l0 w hp hr0
 rw [show Found_ p l0 = fun e => ∃ n : Int, e = .returned (.int .i64 n) ∧ -1 ≤ n ∧ n ≤ 9223372036854775807 ∧ decide (0 ≤ n) = r from by funext e; unfold Found_; rw [h]] at HC
 have H := Aside0.mk HC
 clear HC hp hr0 h
 go_enter Try.func262, Try.ntmps262
 go_wp2_with (go_at_call 278; refine H.out.mono ?_; rintro e w' ⟨⟨n, rfl, hn1, hn2, hn⟩, q, rfl⟩)
 go_ret
 exact ⟨by first | rfl | (rw [hn]) | (simp; done) | simp_all, q, rfl⟩
set_option maxHeartbeats 1000000 in
set_option maxRecDepth 100000 in
theorem areSmall_pred_ (a1 : Int) (h0 : 0 ≤ a1) (h1 : a1 ≤ 4611686018427387904) (B : Nat) (w : World) (hB : B < w.heap.size) (hc : w.cell? ⟨B, 0, none⟩ = some (.int .i64 a1)) :
  PredAt Try.prog 263 #[.pointer (some ⟨B, 0, none⟩)] (Value.int .i64) (fun n => !(decide (-a1 ≤ n) && decide (n ≤ a1))) w := fun W n hb => by
 have hc' : W.cell? ⟨B, 0, none⟩ = some (.int .i64 a1) := (hb.cell (p := ⟨B, 0, none⟩) hB).trans hc
 clear hc
 unfold FnGives
 obtain ⟨r, hr⟩ : ∃ r, r = (decide (-a1 ≤ n) && decide (n ≤ a1)) := ⟨_, rfl⟩
 have hw : impl_within.f n (-a1) a1 = some r := by
  unfold impl_within.f
  by_cases c : -a1 ≤ n
  ·rw [if_pos c, hr, decide_eq_true c]; rfl
  ·rw [if_neg c, hr, decide_eq_false c]; rfl
 show Calls Try.prog 263 (#[Value.int .i64 n] ++ #[.pointer (some ⟨B, 0, none⟩)]) W fun e w' => e = .returned (.bool (!(decide (-a1 ≤ n) && decide (n ≤ a1)))) ∧ ∃ q, w' = W.drewN q
 rw [← hr]
 have H := Aside0.mk hw
 clear hw hr
 go_enter Try.func263, Try.ntmps263
 go_wp2_with (go_at_call 159; refine (impl_within.calls n (-a1) a1 r _ H.out).mono ?_; rintro e w' ⟨rfl, ⟨nd, rfl⟩⟩)
 go_ret
 exact ⟨rfl, _, rfl⟩
def impl_areSmall.f (l0 : List Int) (a1 : Int) : Option Bool := if 0 ≤ a1 ∧ a1 ≤ 4611686018427387904 then some (!(l0.any fun n => !(decide (-a1 ≤ n) && decide (n ≤ a1)))) else none

set_option maxHeartbeats 8000000 in
set_option maxRecDepth 100000 in
theorem impl_areSmall.calls (A0 : Option Addr) (c0 : Nat) (l0 : List Int) (a1 : Int) (r : Bool) (w : World) (hr0 : Kd.C (Kd.int .i64) w A0 l0.length l0) (hc0 : l0.length ≤ c0) (h : impl_areSmall.f l0 a1 = some r) :
  Calls Try.prog 204 #[.slice A0 l0.length c0, .int .i64 a1] w fun e w' => e = .returned (.bool r) ∧ Below w.heap.size w w' := by
 unfold impl_areSmall.f at h
 by_cases c : 0 ≤ a1 ∧ a1 ≤ 4611686018427387904
 ·rw [if_pos c] at h
  obtain ⟨h0, h1⟩ := c
  obtain ⟨q, hq⟩ : ∃ q, q = (l0.any fun n => !(decide (-a1 ≤ n) && decide (n ≤ a1))) := ⟨_, rfl⟩
  rw [← hq] at h
  obtain rfl := Option.some.inj h
  have HC : ∀ W : World, Below w.heap.size w W → W.cell? ⟨w.heap.size, 0, none⟩ = some (.int .i64 a1) → w.heap.size < W.heap.size → Calls Try.prog 262 #[.slice A0 l0.length c0, .func (.func 263) #[] #[.pointer (some ⟨w.heap.size, 0, none⟩)]] W fun e w' => e = .returned (.bool q) ∧ ∃ n, w' = W.drewN n := fun W hb hc hlt =>
   containsFunc_int_ _ 263 _ (enters_of Try.func263 (by kernel_rfl) rfl) A0 c0 l0 W (areSmall_pred_ a1 h0 h1 w.heap.size W hlt hc) (Kd.C_below hr0 hb) q hq.symm
  have H := Aside0.mk HC
  clear HC h hq hr0 hc0
  go_enter Try.func204, Try.ntmps204
  go_wp2_with (go_at_call 262; refine (H.out _ ((Below.refl _ _).alloc (Nat.le_refl _) _) (by simp) (by simp)).mono ?_; rintro e w' ⟨rfl, nd, rfl⟩)
  go_ret
  exact ⟨rfl, below_drewN' ((Below.refl _ _).alloc (Nat.le_refl _) _) _⟩
 ·rw [if_neg c] at h
  exact absurd h (by simp)

end Go.Proofs.Ytgcggngleiggiaa.Pr
