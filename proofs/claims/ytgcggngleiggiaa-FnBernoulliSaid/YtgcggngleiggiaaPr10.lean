-- Printed by a program of this session, hand-proved contracts among it.
import Derived.Test.YtgcggngleiggiaaPr0
import Derived.Test.YtgcggngleiggiaaPr2
import Derived.Test.YtgcggngleiggiaaPr4
import Derived.Test.YtgcggngleiggiaaPr9
namespace Go.Proofs.Ytgcggngleiggiaa.Pr
open Go.RowKit Go.Proofs.YtgcggngleiggiaaW.PrintWords Go.Proofs.YtgcggngleiggiaaW.PrintLast Go.Proofs.YtgcggngleiggiaaW.PrintMore Go.Proofs.Ytgcggngleiggiaa.Sq
attribute [local go_sem] max2_int min2_int max_two min_two max_three min_three max_four min_four   -- for this text's walks alone
set_option linter.unusedVariables false
set_option linter.unusedSimpArgs false

/-! ### impl_cycloOf: function 176 -/
def impl_cycloOf.f (a0 : Int) (l1 : List Int) : Option (Int × List Int × Int) := (impl_areSmall.f l1 1000000000).bind fun t393 => (if t393 = true then (some (a0, l1, 0)) else (some (0, ([] : List Int), 3)))
set_option maxHeartbeats 8000000 in
set_option maxRecDepth 100000 in
theorem impl_cycloOf.calls (a0 : Int) (P1_ : Nat → Prop) (u9000_ : Value) (l1 : List Int) (r1 : Int) (r2 : List Int) (r3 : Int) (w0 w : World) (hB : Below w0.heap.size w0 w) (ho1 : Kd.R (Kd.int .i64) 2 w w0.heap.size P1_ u9000_ l1) (h : impl_cycloOf.f a0 l1 = some (r1, r2, r3)) :
  Calls Try.prog 176 #[.int .i64 a0, u9000_] w fun e w' => ∃ v1_ : Value, e = .returned (.tuple #[.agg #[.int .i64 r1, v1_], .int .i64 r3]) ∧ Kd.R (Kd.int .i64) 2 w' w0.heap.size (fun k_ => (P1_ k_ ∨ w.heap.size ≤ k_)) v1_ r2 ∧ Below w0.heap.size w0 w' ∧ Kept w w' (fun k_ => P1_ k_) := by
 have hu32 := Try.underlying32
 have HO1 := Aside0.mk (show Kd.R (Kd.int .i64) 2 w w0.heap.size (fun k_ => (P1_ k_ ∨ w.heap.size ≤ k_)) u9000_ l1 from Kd.R_mono ho1 (fun k_ hk => (.inl hk)))
 have HK := Aside0.mk (Kept.refl w (fun k_ => P1_ k_))
 have HW0 := Aside0.mk hB.size
 have HB := Aside0.mk hB
 clear hB
 have H : ((impl_areSmall.f l1 1000000000).bind fun t393 => (if t393 = true then (some (a0, l1, 0)) else (some (0, ([] : List Int), 3)))) = some (r1, r2, r3) := h
 clear h
 replace H := Option.bind_eq_some_iff.mp H
 obtain ⟨t393, A30, H⟩ := H
 replace H : (if t393 = true then (some (a0, l1, 0)) else (some (0, ([] : List Int), 3))) = some (r1, r2, r3) := H
 have A3 := Aside0.mk A30
 clear A30
 by_cases c4 : t393 = true
 ·subst c4
  have H1 : (some (a0, l1, 0)) = some (r1, r2, r3) := by rw [if_pos rfl] at H; exact H
  clear H
  have H := H1
  clear H1
  simp only [Option.some.injEq, Prod.mk.injEq] at H
  obtain ⟨rfl, rfl, rfl⟩ := H
  go_enter Try.func176, Try.ntmps176
  go_wp2_with (first | ((with_reducible refine gate_dst (N := 4) rfl ?_); refine box_event ?hg (N := 4) ?hd (cs := #[.int .i64 0, .slice none 0 0]) (t := 32) ?hr ?_; (case hd => rfl); (case hg => rfl); (case hr => first | (go_simp; done) | (go_simp; rfl)); intro gb392 hg w5 hbox hb; replace HO1 := Aside0.mk (Kd.R_below (kR HO1.out) hb); have BK392 := Aside0.mk (hbox); have GW392 := Aside0.mk ((by rw [hg]; exact (by first | exact HK.out.1 | exact (show Kept w _ (fun k_ => P1_ k_) from by repeat (first | (with_reducible first | exact HK.out | apply Kept.alloc | apply Kept.drewN | apply Kept.drew) | exact HK.out)).1) : w.heap.size ≤ gb392)); replace HK := Aside0.mk (Kept.below (S := (fun k_ => P1_ k_)) (by repeat (first | (with_reducible first | exact HK.out | apply Kept.alloc | apply Kept.drewN | apply Kept.drew) | exact HK.out)) hb); have GE392 := Aside0.mk ((by rw [hg]; exact (below_size tb) : w0.heap.size ≤ gb392)); replace HB := Aside0.mk (below_step tb hb); clear hb hbox hg; obtain ⟨Ao6, co6, eo6⟩ := Kd.R_slice HO1.out; subst eo6) | ((with_reducible refine gate_callee (f := 204) rfl ?_); refine goesL_ (some 7) rfl rfl Try.func204 (by kernel_rfl) rfl #[.slice Ao6 l1.length co6, .int .i64 1000000000] rfl ar ?_; (with_reducible refine (impl_areSmall.calls _ _ l1 1000000000 true _ ?side1 ?side2 A3.out).mono ?_); (case side1 => exact kC (Kd.R_reads' HO1.out).2.2); (case side2 => exact (Kd.R_reads' HO1.out).2.1); rintro e w7 ⟨rfl, hb⟩; refine ⟨_, rfl, ?_⟩; replace HO1 := Aside0.mk (Kd.R_below (kR HO1.out) hb); replace BK392 := Aside0.mk (blk_below (kb BK392.out) hb); replace HK := Aside0.mk (Kept.below (S := (fun k_ => P1_ k_)) (by repeat (first | (with_reducible first | exact HK.out | apply Kept.alloc | apply Kept.drewN | apply Kept.drew | refine Kept.setCell ?_ (.inr GW392.out) _) | exact HK.out)) hb); replace HB := Aside0.mk (below_step tb hb); (try clear hb); (try clear hb2); (try clear hk); (try clear hi); have hcz8_0 : w7.cell? ⟨gb392, 0, none⟩ = some (.int .i64 0) := (blk_cell BK392.out 0).trans rfl; have hcz8_1 : w7.cell? ⟨gb392, 1, none⟩ = some (.slice none 0 0) := (blk_cell BK392.out 1).trans rfl; have hfz8_0 := blk_frozen BK392.out 0; have hfz8_1 := blk_frozen BK392.out 1))
  refine bodyPost_ret (results_ct rfl _ _ gb392 32 #[.int .i64 a0, .slice Ao6 l1.length co6] (0, 0) _ rfl (by (with_reducible repeat (first | refine blk_drewN ?_ _ | refine blk_drew ?_ | refine blk_alloc ?_ _)); refine blk_put (cs := #[.int .i64 a0, .slice none 0 0]) ?_ 1 _ rfl; (with_reducible repeat (first | refine blk_drewN ?_ _ | refine blk_drew ?_ | refine blk_alloc ?_ _)); refine blk_put (cs := #[.int .i64 0, .slice none 0 0]) ?_ 0 _ rfl; (with_reducible repeat (first | refine blk_drewN ?_ _ | refine blk_drew ?_ | refine blk_alloc ?_ _)); exact BK392.out) Try.underlying32 rfl (by kernel_rfl)) rfl ?_
  exact ⟨_, by first | rfl | (simp [errW_none, errW_some] <;> rfl) | (simp [*, errW_none, errW_some] <;> rfl), by (with_reducible repeat (first | apply Kd.R_alloc | apply Kd.R_drewN | apply Kd.R_drew)); exact Kd.R_mono (Kd.R_far (p := ⟨gb392, 1, none⟩) (Kd.R_far (p := ⟨gb392, 0, none⟩) (Kd.R_types HO1.out BK392.out (by decide)) (fun _ hk => hk.2) (.int .i64 a0)) (fun _ hk => hk.2) (.slice Ao6 l1.length co6)) (fun _ hk => hk.1), tb, by repeat (first | (with_reducible first | exact HK.out | apply Kept.alloc | apply Kept.drewN | apply Kept.drew | refine Kept.setCell ?_ (.inr GW392.out) _) | exact HK.out)⟩
 ·replace c4 := Bool.eq_false_iff.mpr c4
  subst c4
  have H1 : (some (0, ([] : List Int), 3)) = some (r1, r2, r3) := by rw [if_neg (show ¬ (false = true) by decide)] at H; exact H
  clear H
  have H := H1
  clear H1
  simp only [Option.some.injEq, Prod.mk.injEq] at H
  obtain ⟨rfl, rfl, rfl⟩ := H
  go_enter Try.func176, Try.ntmps176
  go_wp2_with (first | ((with_reducible refine gate_dst (N := 4) rfl ?_); refine box_event ?hg (N := 4) ?hd (cs := #[.int .i64 0, .slice none 0 0]) (t := 32) ?hr ?_; (case hd => rfl); (case hg => rfl); (case hr => first | (go_simp; done) | (go_simp; rfl)); intro gb392 hg w9 hbox hb; replace HO1 := Aside0.mk (Kd.R_below (kR HO1.out) hb); have BK392 := Aside0.mk (hbox); have GW392 := Aside0.mk ((by rw [hg]; exact (by first | exact HK.out.1 | exact (show Kept w _ (fun k_ => P1_ k_) from by repeat (first | (with_reducible first | exact HK.out | apply Kept.alloc | apply Kept.drewN | apply Kept.drew) | exact HK.out)).1) : w.heap.size ≤ gb392)); replace HK := Aside0.mk (Kept.below (S := (fun k_ => P1_ k_)) (by repeat (first | (with_reducible first | exact HK.out | apply Kept.alloc | apply Kept.drewN | apply Kept.drew) | exact HK.out)) hb); have GE392 := Aside0.mk ((by rw [hg]; exact (below_size tb) : w0.heap.size ≤ gb392)); replace HB := Aside0.mk (below_step tb hb); clear hb hbox hg; obtain ⟨Ao10, co10, eo10⟩ := Kd.R_slice HO1.out; subst eo10) | ((with_reducible refine gate_callee (f := 204) rfl ?_); refine goesL_ (some 7) rfl rfl Try.func204 (by kernel_rfl) rfl #[.slice Ao10 l1.length co10, .int .i64 1000000000] rfl ar ?_; (with_reducible refine (impl_areSmall.calls _ _ l1 1000000000 false _ ?side1 ?side2 A3.out).mono ?_); (case side1 => exact kC (Kd.R_reads' HO1.out).2.2); (case side2 => exact (Kd.R_reads' HO1.out).2.1); rintro e w11 ⟨rfl, hb⟩; refine ⟨_, rfl, ?_⟩; replace HO1 := Aside0.mk (Kd.R_below (kR HO1.out) hb); replace BK392 := Aside0.mk (blk_below (kb BK392.out) hb); replace HK := Aside0.mk (Kept.below (S := (fun k_ => P1_ k_)) (by repeat (first | (with_reducible first | exact HK.out | apply Kept.alloc | apply Kept.drewN | apply Kept.drew | refine Kept.setCell ?_ (.inr GW392.out) _) | exact HK.out)) hb); replace HB := Aside0.mk (below_step tb hb); (try clear hb); (try clear hb2); (try clear hk); (try clear hi); have hcz12_0 : w11.cell? ⟨gb392, 0, none⟩ = some (.int .i64 0) := (blk_cell BK392.out 0).trans rfl; have hcz12_1 : w11.cell? ⟨gb392, 1, none⟩ = some (.slice none 0 0) := (blk_cell BK392.out 1).trans rfl; have hfz12_0 := blk_frozen BK392.out 0; have hfz12_1 := blk_frozen BK392.out 1))
  refine bodyPost_ret (results_ct rfl _ _ gb392 32 #[.int .i64 0, .slice none 0 0] (0, 0) _ rfl (by (with_reducible repeat (first | refine blk_drewN ?_ _ | refine blk_drew ?_ | refine blk_alloc ?_ _)); refine blk_put (cs := #[.int .i64 0, .slice none 0 0]) ?_ 1 _ rfl; (with_reducible repeat (first | refine blk_drewN ?_ _ | refine blk_drew ?_ | refine blk_alloc ?_ _)); refine blk_put (cs := #[.int .i64 0, .slice none 0 0]) ?_ 0 _ rfl; (with_reducible repeat (first | refine blk_drewN ?_ _ | refine blk_drew ?_ | refine blk_alloc ?_ _)); exact BK392.out) Try.underlying32 rfl (by kernel_rfl)) rfl ?_
  exact ⟨_, by first | rfl | (simp [errW_none, errW_some] <;> rfl) | (simp [*, errW_none, errW_some] <;> rfl), by first | exact Kd.R_nil _ _ _ _ _ | exact Kd.N_nil _ _ _ _ _ | exact Kd.V_nil _ _ _ _ _ | exact Kd.Q_nil _ _ _ _ _ | exact Kd.S_nil _ _ _ _ _, tb, by repeat (first | (with_reducible first | exact HK.out | apply Kept.alloc | apply Kept.drewN | apply Kept.drew | refine Kept.setCell ?_ (.inr GW392.out) _) | exact HK.out)⟩

/-! ### impl_isOrder: function 187 -/
def impl_isOrder.f (a0 : Int) : Option (Bool) := (impl_within.f a0 1 16).bind fun t394 => (some t394)
set_option maxHeartbeats 8000000 in
set_option maxRecDepth 100000 in
theorem impl_isOrder.calls (a0 : Int) (r : Bool) (w : World) (h : impl_isOrder.f a0 = some r) :
  Calls Try.prog 187 #[.int .i64 a0] w fun e w' => e = .returned (.bool r) ∧ Drawn0 w w' := by
 have H : ((impl_within.f a0 1 16).bind fun t394 => (some t394)) = some r := h
 clear h
 replace H := Option.bind_eq_some_iff.mp H
 obtain ⟨t394, A20, H⟩ := H
 replace H : (some t394) = some r := H
 have A2 := Aside0.mk A20
 clear A20
 obtain rfl := Option.some.inj H
 go_enter Try.func187, Try.ntmps187
 go_wp2_with (first | ((with_reducible refine gate_callee (f := 159) rfl ?_); refine goesL_ (some 4) rfl rfl Try.func159 (by kernel_rfl) rfl #[.int .i64 a0, .int .i64 1, .int .i64 16] rfl ar ?_; (with_reducible refine (impl_within.calls a0 1 16 t394 _ A2.out).mono ?_); rintro e w' ⟨rfl, ⟨nd, rfl⟩⟩; refine ⟨_, rfl, ?_⟩))
 go_ret
 exact ⟨by first | rfl | (simp; done) | (simp [*]; done), by repeat (first | exact Drawn0.refl _ | apply Drawn0.step)⟩

/-! ### impl_field_with: function 188 -/
mutual
def impl_field_with.l0 : Nat → (Int → Int) → List Int → List Int → Int → Int → Int → Int → List (List Int) → Option (List Int)
 | 0, _, _, _, _, _, _, _, _ => none
 | k + 1, x2, x7, x17, x18, x19, x1000, x1001, x1002 => if x19 < x18 then (if 0 ≤ x19 then (if x19 < (x17.length : Int) then ((some (x2 x19)).bind fun t399 => ((impl_around.f t399 x1000).bind fun t400 => (if 0 ≤ t400 then (if t400 < (x1002.length : Int) then (impl_field_with.l1 k x2 x7 (rd x17 x19) x17 x18 x19 (rd_L3 x1002 t400) ((rd_L3 x1002 t400).length : Int) 0 x1000 x1001 x1002) else (none)) else (none)))) else (none)) else (none)) else (some x7)
def impl_field_with.l1 : Nat → (Int → Int) → List Int → Int → List Int → Int → Int → List Int → Int → Int → Int → Int → List (List Int) → Option (List Int)
 | 0, _, _, _, _, _, _, _, _, _, _, _, _ => none
 | k + 1, x2, x7, x9, x17, x18, x19, x37, x38, x39, x1000, x1001, x1002 => if x39 < x38 then (if 0 ≤ x39 then (if x39 < (x37.length : Int) then (if x39 < (x7.length : Int) then (impl_field_with.l1 k x2 (x7.set (x39 : Int).toNat (wrap64 ((rd x7 x39) + (wrap64 (x9 * (rd x37 x39)))))) x9 x17 x18 x19 x37 x38 (wrap64 (x39 + 1)) x1000 x1001 x1002) else (none)) else (none)) else (none)) else (impl_field_with.l0 k x2 x7 x17 x18 (wrap64 (x19 + 1)) x1000 x1001 x1002)
end
def impl_field_with.f (k : Nat) (a0_0 : Int) (a0_1 : Int) (l0_2 : List (List Int)) (l1 : List Int) (a2 : (Int → Int)) : Option (List Int) := if 0 ≤ a0_1 then (if (a0_1 : Int).toNat ≤ 35184372088832 then (impl_field_with.l0 k a2 (List.replicate (a0_1 : Int).toNat 0) l1 (l1.length : Int) 0 a0_0 a0_1 l0_2) else (none)) else (none)
set_option maxHeartbeats 8000000 in
set_option maxRecDepth 100000 in
theorem impl_field_with.calls (k : Nat) (g0 : Nat) (a0_0 : Int) (a0_1 : Int) (A0_2 : Option Addr) (c0_2 : Nat) (l0_2 : List (List Int)) (A1 : Option Addr) (c1 : Nat) (l1 : List Int) (g2 : Nat) (lb2 : Array Value) (a2 : (Int → Int)) (r : List Int) (w : World) (hg0 : w.heap[g0]? = some (.cells #[.int .i64 a0_0, .int .i64 a0_1, .slice A0_2 l0_2.length c0_2] 117 (0, 0))) (hr0_2 : Kd.C (Kd.slice 2 (Kd.int .i64)) w A0_2 l0_2.length l0_2) (hc0_2 : l0_2.length ≤ c0_2) (hr1 : Kd.C (Kd.int .i64) w A1 l1.length l1) (hc1 : l1.length ≤ c1) (eg2 : ∀ args w, (callFunc g2 args).run Try.prog w = .ok (.enter g2 args) w) (hf2 : ∀ (W : World) (x : Int), Below w.heap.size w W → Calls Try.prog g2 (#[Value.int .i64 x] ++ lb2) W fun e w' => e = .returned (.int .i64 (a2 x)) ∧ Drawn0 W w') (h : impl_field_with.f k a0_0 a0_1 l0_2 l1 a2 = some r) :
  Calls Try.prog 188 #[.pointer (some ⟨g0, 0, none⟩), .slice A1 l1.length c1, .func (.func g2) #[] lb2] w fun e w' => ∃ v0_ : Value, e = .returned (v0_) ∧ Kd.R (Kd.int .i64) 2 w' w.heap.size (fun _ => True) v0_ r ∧ Below w.heap.size w w' := by
 have HR0_2 := Aside0.mk hr0_2
 have HC0_2 := Aside0.mk hc0_2
 clear hr0_2 hc0_2
 have HR1 := Aside0.mk hr1
 have HC1 := Aside0.mk hc1
 clear hr1 hc1
 have BK0 := Aside0.mk hg0
 clear hg0
 have EF2 := Aside0.mk eg2
 have HF2 := Aside0.mk hf2
 clear hf2
 have HB := Aside0.mk (Below.refl w.heap.size w)
 have H : (if 0 ≤ a0_1 then (if (a0_1 : Int).toNat ≤ 35184372088832 then (impl_field_with.l0 k a2 (List.replicate (a0_1 : Int).toNat 0) l1 (l1.length : Int) 0 a0_0 a0_1 l0_2) else (none)) else (none)) = some r := h
 clear h
 by_cases c4 : 0 ≤ a0_1
 ·rw [if_pos c4] at H
  have c4b0 := eq_true c4
  have c4b1 : decide (0 ≤ a0_1) = true := decide_eq_true c4
  clear c4
  by_cases c5 : (a0_1 : Int).toNat ≤ 35184372088832
  ·rw [if_pos c5] at H
   have c5b0 := eq_true c5
   have c5b1 : decide ((a0_1 : Int).toNat ≤ 35184372088832) = true := decide_eq_true c5
   clear c5
   obtain ⟨y395, hy395⟩ : ∃ y_ : List Int, y_ = (List.replicate (a0_1 : Int).toNat 0) := ⟨_, rfl⟩
   replace H : (impl_field_with.l0 k a2 y395 l1 (l1.length : Int) 0 a0_0 a0_1 l0_2) = some r := by first | (rw [hy395]; with_reducible exact H) | (rw [hy395]; with_reducible exact (bs H :)) | with_reducible exact (bs H :) | exact H
   have Ny395 := Aside0.mk hy395
   clear hy395
   have H' := Aside0.mk H
   clear H
   have hcz6_0 : w.cell? ⟨g0, 0, none⟩ = some (.int .i64 a0_0) := (blk_cell BK0.out 0).trans rfl
   have hcz6_1 : w.cell? ⟨g0, 1, none⟩ = some (.int .i64 a0_1) := (blk_cell BK0.out 1).trans rfl
   have hcz6_2 : w.cell? ⟨g0, 2, none⟩ = some (.slice A0_2 l0_2.length c0_2) := (blk_cell BK0.out 2).trans rfl
   have hfz6_0 := blk_frozen BK0.out 0
   have hfz6_1 := blk_frozen BK0.out 1
   have hfz6_2 := blk_frozen BK0.out 2
   go_enter Try.func188, Try.ntmps188
   go_wp2_with (first | ((with_reducible refine gate_dst (N := 16) rfl ?_); refine Kd.R_make (Kd.int .i64) _ 2 rfl (N := 16) rfl 27 _ _ rfl a0_1 rfl rfl Try.underlying27 (.int .i64 0) 8 info2 rfl (by decide) (by omega) 0 (ok := fun _ => True) (okp := fun _ => True) rfl (fun _ hk => hk) trivial (od) (Nat.le_trans (Nat.mul_le_mul_right _ (od : a0_1.toNat ≤ 35184372088832)) (by omega)) (Below.refl _ _) (Nat.le_refl _) ?_; intro v396 w7 ho8 hb hg_ hnew_; clear hg_ hnew_; (first | rw [← Ny395.out] at ho8 | (simp only [Int.reduceToNat] at ho8; rw [← Ny395.out] at ho8)); have HO397 := Aside0.mk (Kd.R_lower ho8 (below_size tb)); replace BK0 := Aside0.mk (blk_below (kb BK0.out) hb); replace HB := Aside0.mk (below_step tb hb); clear hb ho8))
   repeat (go_quiet (first | ((with_reducible refine gate_dst (N := 16) rfl ?_); refine Kd.R_make (Kd.int .i64) _ 2 rfl (N := 16) rfl 27 _ _ rfl a0_1 rfl rfl Try.underlying27 (.int .i64 0) 8 info2 rfl (by decide) (by omega) 0 (ok := fun _ => True) (okp := fun _ => True) rfl (fun _ hk => hk) trivial (od) (Nat.le_trans (Nat.mul_le_mul_right _ (od : a0_1.toNat ≤ 35184372088832)) (by omega)) (Below.refl _ _) (Nat.le_refl _) ?_; intro v396 w7 ho8 hb hg_ hnew_; clear hg_ hnew_; (first | rw [← Ny395.out] at ho8 | (simp only [Int.reduceToNat] at ho8; rw [← Ny395.out] at ho8)); have HO397 := Aside0.mk (Kd.R_lower ho8 (below_size tb)); replace BK0 := Aside0.mk (blk_below (kb BK0.out) hb); replace HB := Aside0.mk (below_step tb hb); clear hb ho8)); try go_wp2_with (first | ((with_reducible refine gate_dst (N := 16) rfl ?_); refine Kd.R_make (Kd.int .i64) _ 2 rfl (N := 16) rfl 27 _ _ rfl a0_1 rfl rfl Try.underlying27 (.int .i64 0) 8 info2 rfl (by decide) (by omega) 0 (ok := fun _ => True) (okp := fun _ => True) rfl (fun _ hk => hk) trivial (od) (Nat.le_trans (Nat.mul_le_mul_right _ (od : a0_1.toNat ≤ 35184372088832)) (by omega)) (Below.refl _ _) (Nat.le_refl _) ?_; intro v396 w7 ho8 hb hg_ hnew_; clear hg_ hnew_; (first | rw [← Ny395.out] at ho8 | (simp only [Int.reduceToNat] at ho8; rw [← Ny395.out] at ho8)); have HO397 := Aside0.mk (Kd.R_lower ho8 (below_size tb)); replace BK0 := Aside0.mk (blk_below (kb BK0.out) hb); replace HB := Aside0.mk (below_step tb hb); clear hb ho8)))
   go_loopg [19] k (fun kq v19 w' => ∃ (x7_1 : List Int) (x19_1 : Int), v19 = .int .i64 x19_1 ∧ Aside0 (impl_field_with.l0 kq a2 x7_1 l1 (l1.length : Int) x19_1 a0_0 a0_1 l0_2 = some r) ∧ Aside0 (kq ≤ k) ∧ Aside0 (Kd.R (Kd.int .i64) 2 w' w.heap.size (fun _ => True) v396 x7_1) ∧ Aside0 (w'.heap[g0]? = some (.cells #[.int .i64 a0_0, .int .i64 a0_1, (.slice A0_2 l0_2.length c0_2)] 117 (0, 0))) ∧ Aside0 (Below w.heap.size w w'))
   case atStart => exact ⟨(y395), (0), (by first | rfl | (simp; done) | (simp [*]; done)), H', ⟨Nat.le_refl _⟩, ⟨kR HO397.out⟩, ⟨kb BK0.out⟩, ⟨tb⟩⟩
   case round =>
    clear H'
    try clear c1
    try clear p2
    try clear c4
    try clear c4b0
    try clear c4b1
    try clear c5
    try clear c5b0
    try clear c5b1
    try clear hcz6_0
    try clear hcz6_1
    try clear hcz6_2
    try clear hfz6_0
    try clear hfz6_1
    try clear hfz6_2
    obtain ⟨x7_1, x19_1, rfl, HA, HK1, HO_7, BK0, HB⟩ := hrel
    cases gk with
    | zero => exact absurd HA.out (by simp [impl_field_with.l0])
    | succ k1 =>
     have H := HA.out
     clear HA
     simp only [impl_field_with.l0] at H
     by_cases c9 : x19_1 < (l1.length : Int)
     ·rw [if_pos c9] at H
      have c9b0 : decide (x19_1 < (l1.length : Int)) = true := decide_eq_true c9
      clear c9
      by_cases c10 : 0 ≤ x19_1
      ·rw [if_pos c10] at H
       have c10b0 : decide (0 ≤ x19_1) = true := decide_eq_true c10
       clear c10
       by_cases c11 : x19_1 < (l1.length : Int)
       ·rw [if_pos c11] at H
        have c11b0 : decide (x19_1 < (l1.length : Int)) = true := decide_eq_true c11
        clear c11
        replace H := Option.bind_eq_some_iff.mp H
        obtain ⟨t399, A120, H⟩ := H
        replace H : ((impl_around.f t399 a0_0).bind fun t400 => (if 0 ≤ t400 then (if t400 < (l0_2.length : Int) then (impl_field_with.l1 k1 a2 x7_1 (rd l1 x19_1) l1 (l1.length : Int) x19_1 (rd_L3 l0_2 t400) ((rd_L3 l0_2 t400).length : Int) 0 a0_0 a0_1 l0_2) else (none)) else (none))) = some r := H
        have A12 := Aside0.mk A120
        clear A120
        replace H := Option.bind_eq_some_iff.mp H
        obtain ⟨t400, A130, H⟩ := H
        replace H : (if 0 ≤ t400 then (if t400 < (l0_2.length : Int) then (impl_field_with.l1 k1 a2 x7_1 (rd l1 x19_1) l1 (l1.length : Int) x19_1 (rd_L3 l0_2 t400) ((rd_L3 l0_2 t400).length : Int) 0 a0_0 a0_1 l0_2) else (none)) else (none)) = some r := H
        have A13 := Aside0.mk A130
        clear A130
        by_cases c14 : 0 ≤ t400
        ·rw [if_pos c14] at H
         have c14b0 : decide (0 ≤ t400) = true := decide_eq_true c14
         clear c14
         by_cases c15 : t400 < (l0_2.length : Int)
         ·rw [if_pos c15] at H
          have c15b0 : decide (t400 < (l0_2.length : Int)) = true := decide_eq_true c15
          clear c15
          have H' := Aside0.mk H
          clear H
          have p398 : 0 ≤ (x19_1 : Int) := od
          have q398 : x19_1 < (l1.length : Int) := od
          obtain ⟨ad398, e398, hx398_0⟩ := Kd.at_int HR1.out x19_1 p398 q398
          cases e398
          replace hx398_0 := (HB.out.cell (World.block_lt_of_cell? _ _ hx398_0)).trans hx398_0
          replace p398 := eq_true p398
          replace q398 := eq_true q398
          have hcz16_0 : wr.cell? ⟨g0, 0, none⟩ = some (.int .i64 a0_0) := (blk_cell BK0.out 0).trans rfl
          have hcz16_1 : wr.cell? ⟨g0, 1, none⟩ = some (.int .i64 a0_1) := (blk_cell BK0.out 1).trans rfl
          have hcz16_2 : wr.cell? ⟨g0, 2, none⟩ = some (.slice A0_2 l0_2.length c0_2) := (blk_cell BK0.out 2).trans rfl
          have hfz16_0 := blk_frozen BK0.out 0
          have hfz16_1 := blk_frozen BK0.out 1
          have hfz16_2 := blk_frozen BK0.out 2
          go_wp2_with (first | (go_at_fn g2; (with_reducible refine (Calls.mono (fn_call_ HF2.out tb A12.out) ?_)); rintro e w' ⟨rfl, ⟨nd, rfl⟩⟩; (try first | exact ⟨rfl, _, World.drewN_drewN _ _ _⟩ | exact ⟨rfl, _, Eq.trans (World.drewN_drewN _ _ _) (congrArg (World.drewN _) (Nat.add_assoc _ _ _))⟩)) | (go_at_call 223; (with_reducible refine (impl_around.calls t399 a0_0 t400 _ A13.out).mono ?_); rintro e w' ⟨rfl, ⟨nd, rfl⟩⟩; (try first | exact ⟨rfl, _, World.drewN_drewN _ _ _⟩ | exact ⟨rfl, _, Eq.trans (World.drewN_drewN _ _ _) (congrArg (World.drewN _) (Nat.add_assoc _ _ _))⟩); have p401 : 0 ≤ (t400 : Int) := od; have q401 : t400 < (l0_2.length : Int) := od; obtain ⟨ad401, A401_0, c401_0, e401, hx401_0, hl401_0, hi401_0⟩ := at_L3 HR0_2.out t400 p401 q401; cases e401; replace hx401_0 := (HB.out.cell (World.block_lt_of_cell? _ _ hx401_0)).trans hx401_0; have HR401_0 := Aside0.mk hi401_0; have HC401_0 := Aside0.mk hl401_0; clear hi401_0 hl401_0; replace p401 := eq_true p401; replace q401 := eq_true q401))
          repeat (go_quiet (first | (go_at_fn g2; (with_reducible refine (Calls.mono (fn_call_ HF2.out tb A12.out) ?_)); rintro e w' ⟨rfl, ⟨nd, rfl⟩⟩; (try first | exact ⟨rfl, _, World.drewN_drewN _ _ _⟩ | exact ⟨rfl, _, Eq.trans (World.drewN_drewN _ _ _) (congrArg (World.drewN _) (Nat.add_assoc _ _ _))⟩)) | (go_at_call 223; (with_reducible refine (impl_around.calls t399 a0_0 t400 _ A13.out).mono ?_); rintro e w' ⟨rfl, ⟨nd, rfl⟩⟩; (try first | exact ⟨rfl, _, World.drewN_drewN _ _ _⟩ | exact ⟨rfl, _, Eq.trans (World.drewN_drewN _ _ _) (congrArg (World.drewN _) (Nat.add_assoc _ _ _))⟩); have p401 : 0 ≤ (t400 : Int) := od; have q401 : t400 < (l0_2.length : Int) := od; obtain ⟨ad401, A401_0, c401_0, e401, hx401_0, hl401_0, hi401_0⟩ := at_L3 HR0_2.out t400 p401 q401; cases e401; replace hx401_0 := (HB.out.cell (World.block_lt_of_cell? _ _ hx401_0)).trans hx401_0; have HR401_0 := Aside0.mk hi401_0; have HC401_0 := Aside0.mk hl401_0; clear hi401_0 hl401_0; replace p401 := eq_true p401; replace q401 := eq_true q401)); try go_wp2_with (first | (go_at_fn g2; (with_reducible refine (Calls.mono (fn_call_ HF2.out tb A12.out) ?_)); rintro e w' ⟨rfl, ⟨nd, rfl⟩⟩; (try first | exact ⟨rfl, _, World.drewN_drewN _ _ _⟩ | exact ⟨rfl, _, Eq.trans (World.drewN_drewN _ _ _) (congrArg (World.drewN _) (Nat.add_assoc _ _ _))⟩)) | (go_at_call 223; (with_reducible refine (impl_around.calls t399 a0_0 t400 _ A13.out).mono ?_); rintro e w' ⟨rfl, ⟨nd, rfl⟩⟩; (try first | exact ⟨rfl, _, World.drewN_drewN _ _ _⟩ | exact ⟨rfl, _, Eq.trans (World.drewN_drewN _ _ _) (congrArg (World.drewN _) (Nat.add_assoc _ _ _))⟩); have p401 : 0 ≤ (t400 : Int) := od; have q401 : t400 < (l0_2.length : Int) := od; obtain ⟨ad401, A401_0, c401_0, e401, hx401_0, hl401_0, hi401_0⟩ := at_L3 HR0_2.out t400 p401 q401; cases e401; replace hx401_0 := (HB.out.cell (World.block_lt_of_cell? _ _ hx401_0)).trans hx401_0; have HR401_0 := Aside0.mk hi401_0; have HC401_0 := Aside0.mk hl401_0; clear hi401_0 hl401_0; replace p401 := eq_true p401; replace q401 := eq_true q401)))
          (try generalize Value.pointer (some (ad398.add (x19_1 : Int).toNat)) = dp_ad398_)
          go_loopg [39] k1 (fun kq v39 w' => ∃ (x7_2 : List Int) (x39_2 : Int), v39 = .int .i64 x39_2 ∧ Aside0 (impl_field_with.l1 kq a2 x7_2 (rd l1 x19_1) l1 (l1.length : Int) x19_1 (rd_L3 l0_2 t400) ((rd_L3 l0_2 t400).length : Int) x39_2 a0_0 a0_1 l0_2 = some r) ∧ Aside0 (kq ≤ k1) ∧ Aside0 (Kd.R (Kd.int .i64) 2 w' w.heap.size (fun _ => True) v396 x7_2) ∧ Aside0 (w'.heap[g0]? = some (.cells #[.int .i64 a0_0, .int .i64 a0_1, (.slice (some ad401) l0_2.length c0_2)] 117 (0, 0))) ∧ Aside0 (Below w.heap.size w w'))
          case atStart => exact ⟨(x7_1), (0), (by first | rfl | (simp; done) | (simp [*]; done)), H', ⟨Nat.le_refl _⟩, ⟨kR HO_7.out⟩, ⟨kb BK0.out⟩, ⟨tb⟩⟩
          case round =>
           clear H'
           try clear c1
           try clear p2
           try clear p3
           try clear q3
           try clear hx3
           try clear c4
           try clear c4b0
           try clear c4b1
           try clear p4
           try clear q4
           try clear hx4
           try clear c5
           try clear c5b0
           try clear c5b1
           try clear c9
           try clear c9b0
           try clear c10
           try clear c10b0
           try clear c11
           try clear c11b0
           try clear c14
           try clear c14b0
           try clear c15
           try clear c15b0
           try clear hcz16_0
           try clear hcz16_1
           try clear hcz16_2
           try clear hcz6_0
           try clear hcz6_1
           try clear hcz6_2
           try clear hfz16_0
           try clear hfz16_1
           try clear hfz16_2
           try clear hfz6_0
           try clear hfz6_1
           try clear hfz6_2
           try clear hx398_0
           try clear hx401_0
           try clear p2
           try clear p398
           try clear p401
           try clear q398
           try clear q401
           obtain ⟨x7_2, x39_2, rfl, HA, HK2, HO_7, BK0, HB⟩ := hrel
           cases gk with
           | zero => exact absurd HA.out (by simp [impl_field_with.l1])
           | succ k2 =>
            have H := HA.out
            clear HA
            simp only [impl_field_with.l1] at H
            by_cases c17 : x39_2 < ((rd_L3 l0_2 t400).length : Int)
            ·rw [if_pos c17] at H
             have c17b0 : decide (x39_2 < ((rd_L3 l0_2 t400).length : Int)) = true := decide_eq_true c17
             clear c17
             by_cases c18 : 0 ≤ x39_2
             ·rw [if_pos c18] at H
              have c18b0 : decide (0 ≤ x39_2) = true := decide_eq_true c18
              clear c18
              by_cases c19 : x39_2 < ((rd_L3 l0_2 t400).length : Int)
              ·rw [if_pos c19] at H
               have c19b0 : decide (x39_2 < ((rd_L3 l0_2 t400).length : Int)) = true := decide_eq_true c19
               clear c19
               by_cases c20 : x39_2 < (x7_2.length : Int)
               ·rw [if_pos c20] at H
                have c20b0 : decide (x39_2 < (x7_2.length : Int)) = true := decide_eq_true c20
                clear c20
                obtain ⟨y404, hy404⟩ : ∃ y_ : List Int, y_ = (x7_2.set (x39_2 : Int).toNat (wrap64 ((rd x7_2 x39_2) + (wrap64 ((rd l1 x19_1) * (rd (rd_L3 l0_2 t400) x39_2)))))) := ⟨_, rfl⟩
                replace H : (impl_field_with.l1 k2 a2 y404 (rd l1 x19_1) l1 (l1.length : Int) x19_1 (rd_L3 l0_2 t400) ((rd_L3 l0_2 t400).length : Int) (wrap64 (x39_2 + 1)) a0_0 a0_1 l0_2) = some r := by first | (rw [hy404]; with_reducible exact H) | (rw [hy404]; with_reducible exact (bs H :)) | with_reducible exact (bs H :) | exact H
                have Ny404 := Aside0.mk hy404
                clear hy404
                have H' := Aside0.mk H
                clear H
                have p402 : 0 ≤ (x39_2 : Int) := od
                have q402 : x39_2 < ((rd_L3 l0_2 t400).length : Int) := od
                obtain ⟨ad402, e402, hx402_0⟩ := Kd.at_int HR401_0.out x39_2 p402 q402
                cases e402
                replace hx402_0 := (HB.out.cell (World.block_lt_of_cell? _ _ hx402_0)).trans hx402_0
                replace p402 := eq_true p402
                replace q402 := eq_true q402
                obtain ⟨Ao22, co22, eo22⟩ := Kd.R_slice HO_7.out
                subst eo22
                have p403 : 0 ≤ (x39_2 : Int) := od
                have q403 : x39_2 < (x7_2.length : Int) := od
                obtain ⟨ad403, e403, hx403_0⟩ := Kd.at_int (Kd.R_reads' HO_7.out).2.2 x39_2 p403 q403
                cases e403
                replace p403 := eq_true p403
                replace q403 := eq_true q403
                have p21 : 0 ≤ (x39_2 : Int) := od
                have q21 : (x39_2 : Int) < ((x7_2.length : Int) : Int) := od
                obtain ⟨go21, co21, eo21, gb21, gl21, cl21, HG21⟩ := Kd.R_form HO_7.out (by omega)
                (first | cases eo21 | (injection eo21 with ea_ en_ ec_; (first | subst ea_ | (injection ea_ with ea_; subst ea_)); subst ec_; clear en_))
                have GB21 := Aside0.mk gb21
                have GG21 := Aside0.mk HG21
                clear gb21 gl21 HG21
                (first | simp only [add_plain] at hx403_0 | skip)
                obtain ⟨hx21_0, hf21_0⟩ := Kd.R_celln 0 HO_7.out (x39_2 : Int) p21 q21
                replace p21 := eq_true p21
                replace q21 := eq_true q21
                have HP23 := Kd.R_putg HO_7.out (x39_2 : Int) (wrap64 ((rd x7_2 x39_2) + (wrap64 ((rd l1 x19_1) * (rd (rd_L3 l0_2 t400) x39_2)))))
                go_wp2_with (first | ((with_reducible refine gate_store (t := 2) (p := 52) rfl ?_); (try (rw [drewN_self wr]; generalize hq_ : World.drewN wr _ = wr; have n0_ := Aside0.mk (Kd.R_at hq_ HO_7.out); have n1_ := Aside0.mk (blk_at hq_ BK0.out); have n2_ := Aside0.mk (below_at hq_ HB.out); clear hq_ HO_7 BK0 HB; have HO_7 := n0_; have BK0 := n1_; have HB := n2_; clear n0_ n1_ n2_; (try (have HP23 := Kd.R_putg HO_7.out (x39_2 : Int) (wrap64 ((rd x7_2 x39_2) + (wrap64 ((rd l1 x19_1) * (rd (rd_L3 l0_2 t400) x39_2))))))))); refine store_event (t := 2) (p := 52) (v := ?vo_w24) (w1 := (wr.setCell ⟨go21, (x39_2 : Int).toNat, none⟩ (.int .i64 (wrap64 ((rd x7_2 x39_2) + (wrap64 ((rd l1 x19_1) * (rd (rd_L3 l0_2 t400) x39_2)))))))) ?hg ?ho ?hn ?hr ?_; (case ho => rfl); (case hg => rfl); (case hn => rfl); (case hr => first | (go_simp; done) | (go_simp; rfl)); intro w24 hw; have hg : wr.grownBy w24 (some go21) := (by rw [hw]; exact HP23.2); have hp_ : Kd.R (Kd.int .i64) 2 w24 w.heap.size (fun _ => True) (.slice (some ⟨go21, 0, none⟩) x7_2.length co22) y404 := (by rw [hw, Ny404.out]; exact HP23.1); clear HP23; replace BK0 := Aside0.mk (blk_grown (kb BK0.out) hg (Kd.R_ne HO_7.out BK0.out (by decide))); replace HO_7 := Aside0.mk (hp_); replace HB := Aside0.mk ((by rw [hw]; exact below_set (HB.out) GB21.out : Below w.heap.size w w24)); clear hg hw hp_))
                repeat (go_quiet (first | ((with_reducible refine gate_store (t := 2) (p := 52) rfl ?_); (try (rw [drewN_self wr]; generalize hq_ : World.drewN wr _ = wr; have n0_ := Aside0.mk (Kd.R_at hq_ HO_7.out); have n1_ := Aside0.mk (blk_at hq_ BK0.out); have n2_ := Aside0.mk (below_at hq_ HB.out); clear hq_ HO_7 BK0 HB; have HO_7 := n0_; have BK0 := n1_; have HB := n2_; clear n0_ n1_ n2_; (try (have HP23 := Kd.R_putg HO_7.out (x39_2 : Int) (wrap64 ((rd x7_2 x39_2) + (wrap64 ((rd l1 x19_1) * (rd (rd_L3 l0_2 t400) x39_2))))))))); refine store_event (t := 2) (p := 52) (v := ?vo_w24) (w1 := (wr.setCell ⟨go21, (x39_2 : Int).toNat, none⟩ (.int .i64 (wrap64 ((rd x7_2 x39_2) + (wrap64 ((rd l1 x19_1) * (rd (rd_L3 l0_2 t400) x39_2)))))))) ?hg ?ho ?hn ?hr ?_; (case ho => rfl); (case hg => rfl); (case hn => rfl); (case hr => first | (go_simp; done) | (go_simp; rfl)); intro w24 hw; have hg : wr.grownBy w24 (some go21) := (by rw [hw]; exact HP23.2); have hp_ : Kd.R (Kd.int .i64) 2 w24 w.heap.size (fun _ => True) (.slice (some ⟨go21, 0, none⟩) x7_2.length co22) y404 := (by rw [hw, Ny404.out]; exact HP23.1); clear HP23; replace BK0 := Aside0.mk (blk_grown (kb BK0.out) hg (Kd.R_ne HO_7.out BK0.out (by decide))); replace HO_7 := Aside0.mk (hp_); replace HB := Aside0.mk ((by rw [hw]; exact below_set (HB.out) GB21.out : Below w.heap.size w w24)); clear hg hw hp_)); try go_wp2_with (first | ((with_reducible refine gate_store (t := 2) (p := 52) rfl ?_); (try (rw [drewN_self wr]; generalize hq_ : World.drewN wr _ = wr; have n0_ := Aside0.mk (Kd.R_at hq_ HO_7.out); have n1_ := Aside0.mk (blk_at hq_ BK0.out); have n2_ := Aside0.mk (below_at hq_ HB.out); clear hq_ HO_7 BK0 HB; have HO_7 := n0_; have BK0 := n1_; have HB := n2_; clear n0_ n1_ n2_; (try (have HP23 := Kd.R_putg HO_7.out (x39_2 : Int) (wrap64 ((rd x7_2 x39_2) + (wrap64 ((rd l1 x19_1) * (rd (rd_L3 l0_2 t400) x39_2))))))))); refine store_event (t := 2) (p := 52) (v := ?vo_w24) (w1 := (wr.setCell ⟨go21, (x39_2 : Int).toNat, none⟩ (.int .i64 (wrap64 ((rd x7_2 x39_2) + (wrap64 ((rd l1 x19_1) * (rd (rd_L3 l0_2 t400) x39_2)))))))) ?hg ?ho ?hn ?hr ?_; (case ho => rfl); (case hg => rfl); (case hn => rfl); (case hr => first | (go_simp; done) | (go_simp; rfl)); intro w24 hw; have hg : wr.grownBy w24 (some go21) := (by rw [hw]; exact HP23.2); have hp_ : Kd.R (Kd.int .i64) 2 w24 w.heap.size (fun _ => True) (.slice (some ⟨go21, 0, none⟩) x7_2.length co22) y404 := (by rw [hw, Ny404.out]; exact HP23.1); clear HP23; replace BK0 := Aside0.mk (blk_grown (kb BK0.out) hg (Kd.R_ne HO_7.out BK0.out (by decide))); replace HO_7 := Aside0.mk (hp_); replace HB := Aside0.mk ((by rw [hw]; exact below_set (HB.out) GB21.out : Below w.heap.size w w24)); clear hg hw hp_)))
                go_roundg k2
                case measure => have := HK1.out; have := HK2.out; omega
                case rel => exact ⟨(y404), (wrap64 (x39_2 + 1)), (by first | rfl | (simp; done) | (simp [*]; done)), H', ⟨by have := HK1.out; have := HK2.out; omega⟩, ⟨kR HO_7.out⟩, ⟨kb BK0.out⟩, ⟨tb⟩⟩
               ·rw [if_neg c20] at H
                exact absurd H (by simp)
              ·rw [if_neg c19] at H
               exact absurd H (by simp)
             ·rw [if_neg c18] at H
              exact absurd H (by simp)
            ·rw [if_neg c17] at H
             have c17b0 : decide (x39_2 < ((rd_L3 l0_2 t400).length : Int)) = false := decide_eq_false c17
             clear c17
             have H' := Aside0.mk H
             clear H
             go_wp2
             repeat (go_quiet (fail); try go_wp2)
             go_roundg k2
             case measure => have := HK1.out; have := HK2.out; omega
             case rel => exact ⟨(x7_2), (wrap64 (x19_1 + 1)), (by first | rfl | (simp; done) | (simp [*]; done)), H', ⟨by have := HK1.out; have := HK2.out; omega⟩, ⟨kR HO_7.out⟩, ⟨kb BK0.out⟩, ⟨tb⟩⟩
         ·rw [if_neg c15] at H
          exact absurd H (by simp)
        ·rw [if_neg c14] at H
         exact absurd H (by simp)
       ·rw [if_neg c11] at H
        exact absurd H (by simp)
      ·rw [if_neg c10] at H
       exact absurd H (by simp)
     ·rw [if_neg c9] at H
      have c9b0 : decide (x19_1 < (l1.length : Int)) = false := decide_eq_false c9
      clear c9
      obtain rfl := Option.some.inj H
      go_wp2
      repeat (go_quiet (fail); try go_wp2)
      go_ret
      exact ⟨_, by first | rfl | (simp [errW_none, errW_some] <;> rfl) | (simp [*, errW_none, errW_some] <;> rfl), kR HO_7.out, tb⟩
  ·rw [if_neg c5] at H
   exact absurd H (by simp)
 ·rw [if_neg c4] at H
  exact absurd H (by simp)

set_option maxRecDepth 100000 in
theorem id_fn205_ (W : World) (x : Int) : Calls Try.prog 205 (#[Value.int .i64 x] ++ #[]) W fun e w' => e = .returned (.int .i64 x) ∧ Drawn0 W w' := by
 go_enter Try.func205, Try.ntmps205
 go_wp2
 go_ret
 exact ⟨rfl, Drawn0.refl _⟩
/-! ### impl_CycloOf: function 94 -/
def impl_CycloOf.j0 : Nat → Int → List Int → Bool → Option (Int × List Int × Int)
 | 0, _, _, _ => none
 | k + 1, x0, x1, x20 => if x20 = true then (some (0, ([] : List Int), 2)) else ((impl_fieldOf.f k x0).bind fun bt408 => ((impl_field_with.f k bt408.1 bt408.2.1 bt408.2.2 x1 (fun i_ => i_)).bind fun t414 => ((impl_cycloOf.f x0 t414).bind fun bt417 => (some (bt417.1, bt417.2.1, bt417.2.2)))))
def impl_CycloOf.f (k : Nat) (a0 : Int) (l1 : List Int) : Option (Int × List Int × Int) := (impl_isOrder.f a0).bind fun t406 => (if t406 = true then (if (l1.length : Int) > a0 then (impl_CycloOf.j0 k a0 l1 true) else ((impl_areSmall.f l1 1000000000).bind fun t407 => (impl_CycloOf.j0 k a0 l1 (!t407)))) else (impl_CycloOf.j0 k a0 l1 true))
set_option maxHeartbeats 8000000 in
set_option maxRecDepth 100000 in
theorem impl_CycloOf.calls (k : Nat) (a0 : Int) (A1 : Option Addr) (c1 : Nat) (l1 : List Int) (r1 : Int) (r2 : List Int) (r3 : Int) (w : World) (hr1 : Kd.C (Kd.int .i64) w A1 l1.length l1) (hc1 : l1.length ≤ c1) (h : impl_CycloOf.f k a0 l1 = some (r1, r2, r3)) :
  Calls Try.prog 94 #[.int .i64 a0, .slice A1 l1.length c1] w fun e w' => ∃ v1_ : Value, e = .returned (.tuple #[.agg #[.int .i64 r1, v1_], .int .i64 r3]) ∧ Kd.R (Kd.int .i64) 2 w' w.heap.size (fun _ => True) v1_ r2 ∧ Below w.heap.size w w' := by
 have hu32 := Try.underlying32
 have hu117 := Try.underlying117
 have HR1 := Aside0.mk hr1
 have HC1 := Aside0.mk hc1
 clear hr1 hc1
 have HB := Aside0.mk (Below.refl w.heap.size w)
 have H : ((impl_isOrder.f a0).bind fun t406 => (if t406 = true then (if (l1.length : Int) > a0 then (impl_CycloOf.j0 k a0 l1 true) else ((impl_areSmall.f l1 1000000000).bind fun t407 => (impl_CycloOf.j0 k a0 l1 (!t407)))) else (impl_CycloOf.j0 k a0 l1 true))) = some (r1, r2, r3) := h
 clear h
 have HC3 := Aside0.mk H
 clear H
 go_enter Try.func94, Try.ntmps94
 go_upto_region 1 with (first | ((with_reducible refine gate_dst (N := 4) rfl ?_); (try (refine gate_guard (by rfl) ?_; dsimp only)); refine box_event ?hg (N := 4) ?hd (cs := #[.int .i64 0, .slice none 0 0]) (t := 32) ?hr ?_; (case hd => rfl); (case hg => rfl); (case hr => first | (go_simp; done) | (go_simp; rfl)); intro gb405 hg w4 hbox hb; have BK405 := Aside0.mk (hbox); have GW405 := Aside0.mk ((by rw [hg]; exact (below_size tb) : w.heap.size ≤ gb405)); have GE405 := Aside0.mk ((by rw [hg]; exact (below_size tb) : w.heap.size ≤ gb405)); replace HB := Aside0.mk (below_step tb hb); clear hb hbox hg))
 (try simp only [Act.put, List.setIfInBounds_toArray, List.set_cons_zero, List.set_cons_succ])
 go_cut [20] (fun v20 wc => ∃ (kq : Nat) (x20_2 : Bool), v20 = .bool x20_2 ∧ Aside0 (impl_CycloOf.j0 kq a0 l1 x20_2 = some (r1, r2, r3)) ∧ Aside0 (kq ≤ k) ∧ Aside0 (wc.heap[gb405]? = some (.cells #[.int .i64 0, (.slice none 0 0)] 32 (0, 0))) ∧ Aside0 (Below w.heap.size w wc))
 case first =>
  have H := HC3.out
  clear HC3
  replace H := Option.bind_eq_some_iff.mp H
  obtain ⟨t406, A50, H⟩ := H
  replace H : (if t406 = true then (if (l1.length : Int) > a0 then (impl_CycloOf.j0 k a0 l1 true) else ((impl_areSmall.f l1 1000000000).bind fun t407 => (impl_CycloOf.j0 k a0 l1 (!t407)))) else (impl_CycloOf.j0 k a0 l1 true)) = some (r1, r2, r3) := H
  have A5 := Aside0.mk A50
  clear A50
  by_cases c6 : t406 = true
  ·subst c6
   have H1 : (if (l1.length : Int) > a0 then (impl_CycloOf.j0 k a0 l1 true) else ((impl_areSmall.f l1 1000000000).bind fun t407 => (impl_CycloOf.j0 k a0 l1 (!t407)))) = some (r1, r2, r3) := by rw [if_pos rfl] at H; exact H
   clear H
   have H := H1
   clear H1
   by_cases c7 : (l1.length : Int) > a0
   ·rw [if_pos c7] at H
    have c7b0 : decide (a0 < (l1.length : Int)) = true := decide_eq_true c7
    clear c7
    (first | rw [c7b0] | (simp only [i64_w, i32_w]; rw [c7b0]) | skip)
    have H' := Aside0.mk H
    clear H
    go_wp2_with (first | ((with_reducible refine gate_callee (f := 187) rfl ?_); refine goesL_ (some 8) rfl rfl Try.func187 (by kernel_rfl) rfl #[.int .i64 a0] rfl ar ?_; (with_reducible refine (impl_isOrder.calls a0 true _ A5.out).mono ?_); rintro e w' ⟨rfl, ⟨nd, rfl⟩⟩; refine ⟨_, rfl, ?_⟩))
    go_meet
    case rel => exact ⟨_, (true), (by first | rfl | (simp; done) | (simp [*]; done)), H', ⟨by first | omega | exact Nat.le_refl _⟩, ⟨kb BK405.out⟩, ⟨tb⟩⟩
   ·rw [if_neg c7] at H
    have c7b0 : decide (a0 < (l1.length : Int)) = false := decide_eq_false c7
    clear c7
    (first | rw [c7b0] | (simp only [i64_w, i32_w]; rw [c7b0]) | skip)
    replace H := Option.bind_eq_some_iff.mp H
    obtain ⟨t407, A80, H⟩ := H
    replace H : (impl_CycloOf.j0 k a0 l1 (!t407)) = some (r1, r2, r3) := H
    have A8 := Aside0.mk A80
    clear A80
    have H' := Aside0.mk H
    clear H
    go_wp2_with (first | ((with_reducible refine gate_callee (f := 187) rfl ?_); refine goesL_ (some 8) rfl rfl Try.func187 (by kernel_rfl) rfl #[.int .i64 a0] rfl ar ?_; (with_reducible refine (impl_isOrder.calls a0 true _ A5.out).mono ?_); rintro e w' ⟨rfl, ⟨nd, rfl⟩⟩; refine ⟨_, rfl, ?_⟩) | (go_at_call 204; (with_reducible refine (impl_areSmall.calls _ _ l1 1000000000 t407 _ ?side1 ?side2 A8.out).mono ?_); (case side1 => exact kC (Kd.C_below HR1.out tb)); (case side2 => exact HC1.out); rintro e w9 ⟨rfl, hb⟩; replace BK405 := Aside0.mk (blk_below (kb BK405.out) hb); replace HB := Aside0.mk (below_step tb hb); (try clear hb); (try clear hb2); (try clear hk); (try clear hi)))
    go_meet
    case rel => exact ⟨_, (!t407), (by first | rfl | (simp; done) | (simp [*]; done)), H', ⟨by first | omega | exact Nat.le_refl _⟩, ⟨kb BK405.out⟩, ⟨tb⟩⟩
  ·replace c6 := Bool.eq_false_iff.mpr c6
   subst c6
   have H1 : (impl_CycloOf.j0 k a0 l1 true) = some (r1, r2, r3) := by rw [if_neg (show ¬ (false = true) by decide)] at H; exact H
   clear H
   have H := H1
   clear H1
   have H' := Aside0.mk H
   clear H
   go_wp2_with (first | ((with_reducible refine gate_callee (f := 187) rfl ?_); refine goesL_ (some 8) rfl rfl Try.func187 (by kernel_rfl) rfl #[.int .i64 a0] rfl ar ?_; (with_reducible refine (impl_isOrder.calls a0 false _ A5.out).mono ?_); rintro e w' ⟨rfl, ⟨nd, rfl⟩⟩; refine ⟨_, rfl, ?_⟩))
   go_meet
   case rel => exact ⟨_, (true), (by first | rfl | (simp; done) | (simp [*]; done)), H', ⟨by first | omega | exact Nat.le_refl _⟩, ⟨kb BK405.out⟩, ⟨tb⟩⟩
 case rest =>
  clear HC3
  try clear c1
  try clear p2
  try clear c6
  try clear c7
  try clear c7b0
  try clear c9
  obtain ⟨kq, x20_2, rfl, HA, HJ2, BK405, HB⟩ := hcut
  cases kq with
  | zero => exact absurd HA.out (by simp [impl_CycloOf.j0])
  | succ kj2 =>
   have H := HA.out
   clear HA
   simp only [impl_CycloOf.j0] at H
   by_cases c10 : x20_2 = true
   ·subst c10
    have H1 : (some (0, ([] : List Int), 2)) = some (r1, r2, r3) := by rw [if_pos rfl] at H; exact H
    clear H
    have H := H1
    clear H1
    simp only [Option.some.injEq, Prod.mk.injEq] at H
    obtain ⟨rfl, rfl, rfl⟩ := H
    have hcz11_0 : wc.cell? ⟨gb405, 0, none⟩ = some (.int .i64 0) := (blk_cell BK405.out 0).trans rfl
    have hcz11_1 : wc.cell? ⟨gb405, 1, none⟩ = some (.slice none 0 0) := (blk_cell BK405.out 1).trans rfl
    have hfz11_0 := blk_frozen BK405.out 0
    have hfz11_1 := blk_frozen BK405.out 1
    go_wp2
    refine bodyPost_ret (results_ct rfl _ _ gb405 32 #[.int .i64 0, .slice none 0 0] (0, 0) _ rfl (by (with_reducible repeat (first | refine blk_drewN ?_ _ | refine blk_drew ?_ | refine blk_alloc ?_ _)); refine blk_put (cs := #[.int .i64 0, .slice none 0 0]) ?_ 1 _ rfl; (with_reducible repeat (first | refine blk_drewN ?_ _ | refine blk_drew ?_ | refine blk_alloc ?_ _)); refine blk_put (cs := #[.int .i64 0, .slice none 0 0]) ?_ 0 _ rfl; (with_reducible repeat (first | refine blk_drewN ?_ _ | refine blk_drew ?_ | refine blk_alloc ?_ _)); exact BK405.out) Try.underlying32 rfl (by kernel_rfl)) rfl ?_
    exact ⟨_, by first | rfl | (simp [errW_none, errW_some] <;> rfl) | (simp [*, errW_none, errW_some] <;> rfl), by first | exact Kd.R_nil _ _ _ _ _ | exact Kd.N_nil _ _ _ _ _ | exact Kd.V_nil _ _ _ _ _ | exact Kd.Q_nil _ _ _ _ _ | exact Kd.S_nil _ _ _ _ _, tb⟩
   ·replace c10 := Bool.eq_false_iff.mpr c10
    subst c10
    have H1 : ((impl_fieldOf.f kj2 a0).bind fun bt408 => ((impl_field_with.f kj2 bt408.1 bt408.2.1 bt408.2.2 l1 (fun i_ => i_)).bind fun t414 => ((impl_cycloOf.f a0 t414).bind fun bt417 => (some (bt417.1, bt417.2.1, bt417.2.2))))) = some (r1, r2, r3) := by rw [if_neg (show ¬ (false = true) by decide)] at H; exact H
    clear H
    have H := H1
    clear H1
    replace H := Option.bind_eq_some_iff.mp H
    obtain ⟨⟨t408, t409, t410⟩, A120, H⟩ := H
    replace H : ((impl_field_with.f kj2 t408 t409 t410 l1 (fun i_ => i_)).bind fun t414 => ((impl_cycloOf.f a0 t414).bind fun bt417 => (some (bt417.1, bt417.2.1, bt417.2.2)))) = some (r1, r2, r3) := H
    have A12 := Aside0.mk A120
    clear A120
    replace H := Option.bind_eq_some_iff.mp H
    obtain ⟨t414, A130, H⟩ := H
    replace H : ((impl_cycloOf.f a0 t414).bind fun bt417 => (some (bt417.1, bt417.2.1, bt417.2.2))) = some (r1, r2, r3) := H
    have A13 := Aside0.mk A130
    clear A130
    replace H := Option.bind_eq_some_iff.mp H
    obtain ⟨⟨t417, t418, t421⟩, A140, H⟩ := H
    replace H : (some (t417, t418, t421)) = some (r1, r2, r3) := H
    have A14 := Aside0.mk A140
    clear A140
    simp only [Option.some.injEq, Prod.mk.injEq] at H
    obtain ⟨rfl, rfl, rfl⟩ := H
    go_wp2_with (first | ((with_reducible refine gate_callee (f := 113) rfl ?_); refine goesL_ (some 23) rfl rfl Try.func113 (by kernel_rfl) rfl #[.int .i64 a0] rfl ar ?_; (with_reducible refine (impl_fieldOf.calls kj2 a0 t408 t409 t410 _ A12.out).mono ?_); rintro e w15 ⟨v411, rfl, ho0, hb⟩; refine ⟨_, rfl, ?_⟩; have HO412 := Aside0.mk (Kd.N_lower (Kd.N_mono (ok' := fun k_ => k_ ≠ gb405) ho0 (fun k_ hk_ => (Kd.freshB (kb BK405.out) k_ hk_))) (below_size tb)); replace BK405 := Aside0.mk (blk_below (kb BK405.out) hb); replace HB := Aside0.mk (below_step tb hb); (try clear hb); (try clear hb2); (try clear hk); (try clear hi); (try clear ho0)) | ((with_reducible refine gate_dst (N := 6) rfl ?_); (try (refine gate_guard (by rfl) ?_; dsimp only)); refine box_event ?hg (N := 6) ?hd (cs := #[.int .i64 0, .int .i64 0, .slice none 0 0]) (t := 117) ?hr ?_; (case hd => rfl); (case hg => rfl); (case hr => first | (go_simp; done) | (go_simp; rfl)); intro gb413 hg w16 hbox hb; replace HO412 := Aside0.mk (Kd.N_below (Kd.N_elderB (kN HO412.out) gb413 (Nat.le_of_eq hg.symm)) hb); have BK413 := Aside0.mk (hbox); have GW413 := Aside0.mk ((by rw [hg]; exact (below_size tb) : w.heap.size ≤ gb413)); have GE413 := Aside0.mk ((by rw [hg]; exact (below_size tb) : w.heap.size ≤ gb413)); replace HB := Aside0.mk (below_step tb hb); have NB405_413 := Aside0.mk ((by rw [hg]; exact Nat.ne_of_lt (blk_lt (kb BK405.out)) : gb405 ≠ gb413)); have NB413_405 := Aside0.mk ((by rw [hg]; exact Nat.ne_of_gt (blk_lt (kb BK405.out)) : gb413 ≠ gb405)); replace BK405 := Aside0.mk (blk_below (kb BK405.out) hb); clear hb hbox hg; have hnb17 := NB413_405.out; have hnc17 := NB405_413.out; have hcz18_0 : w16.cell? ⟨gb413, 0, none⟩ = some (.int .i64 0) := (blk_cell BK413.out 0).trans rfl; have hcz18_1 : w16.cell? ⟨gb413, 1, none⟩ = some (.int .i64 0) := (blk_cell BK413.out 1).trans rfl; have hcz18_2 : w16.cell? ⟨gb413, 2, none⟩ = some (.slice none 0 0) := (blk_cell BK413.out 2).trans rfl; have hfz18_0 := blk_frozen BK413.out 0; have hfz18_1 := blk_frozen BK413.out 1; have hfz18_2 := blk_frozen BK413.out 2; obtain ⟨Ao19, co19, eo19⟩ := Kd.N_slice HO412.out; subst eo19) | ((with_reducible refine gate_callee (f := 188) rfl ?_); refine goesL_ (some 26) rfl rfl Try.func188 (by kernel_rfl) rfl #[.pointer (some ⟨gb413, 0, none⟩), .slice A1 l1.length c1, .func (.func 205) #[] #[]] rfl ar ?_; (with_reducible refine (impl_field_with.calls kj2 gb413 t408 t409 Ao19 co19 t410 _ _ l1 205 #[] (fun i_ => i_) t414 _ ?side1 ?side2 ?side3 ?side4 ?side5 ?side6 ?side7 A13.out).mono ?_); (case side1 => (with_reducible repeat (first | refine blk_drewN ?_ _ | refine blk_drew ?_ | refine blk_alloc ?_ _)); refine blk_put (cs := #[.int .i64 t408, .int .i64 t409, .slice none 0 0]) ?_ 2 _ rfl; (with_reducible repeat (first | refine blk_drewN ?_ _ | refine blk_drew ?_ | refine blk_alloc ?_ _)); refine blk_put (cs := #[.int .i64 t408, .int .i64 0, .slice none 0 0]) ?_ 1 _ rfl; (with_reducible repeat (first | refine blk_drewN ?_ _ | refine blk_drew ?_ | refine blk_alloc ?_ _)); refine blk_put (cs := #[.int .i64 0, .int .i64 0, .slice none 0 0]) ?_ 0 _ rfl; (with_reducible repeat (first | refine blk_drewN ?_ _ | refine blk_drew ?_ | refine blk_alloc ?_ _)); exact BK413.out); (case side2 => refine (Kd.N_reads' (e := 27) (base := w.heap.size) (ok := fun k_ => (k_ ≠ gb405 ∧ k_ ≠ gb413)) (n := t410.length) (c := co19) ?_).2.2; exact (by (with_reducible repeat (first | apply Kd.N_alloc | apply Kd.N_drewN | apply Kd.N_drew)); exact (Kd.N_mono (Kd.N_far (p := ⟨gb413, 2, none⟩) (Kd.N_far (p := ⟨gb413, 1, none⟩) (Kd.N_far (p := ⟨gb413, 0, none⟩) (Kd.N_mono HO412.out (fun k_ hk => (⟨hk, hk.2⟩ : _ ∧ k_ ≠ gb413))) (fun _ hk => hk.2) (.int .i64 t408)) (fun _ hk => hk.2) (.int .i64 t409)) (fun _ hk => hk.2) (.slice Ao19 t410.length co19)) (fun _ h_ => h_.1)))); (case side3 => exact (Kd.N_reads' HO412.out).2.1); (case side4 => exact Kd.C_below HR1.out tb); (case side5 => exact HC1.out); (case side6 => exact enters_of Try.func205 (by kernel_rfl) rfl); (case side7 => exact fun W x _ => id_fn205_ W x); rintro e w20 ⟨v415, rfl, ho0, hb⟩; refine ⟨_, rfl, ?_⟩; replace HO412 := Aside0.mk (Kd.N_elder' (by (with_reducible repeat (first | apply Kd.N_alloc | apply Kd.N_drewN | apply Kd.N_drew)); exact (Kd.N_mono (Kd.N_far (p := ⟨gb413, 2, none⟩) (Kd.N_far (p := ⟨gb413, 1, none⟩) (Kd.N_far (p := ⟨gb413, 0, none⟩) (Kd.N_mono HO412.out (fun k_ hk => (⟨hk, hk.2⟩ : _ ∧ k_ ≠ gb413))) (fun _ hk => hk.2) (.int .i64 t408)) (fun _ hk => hk.2) (.int .i64 t409)) (fun _ hk => hk.2) (.slice Ao19 t410.length co19)) (fun _ h_ => h_.1))) (Kd.R_base ho0) hb); have HO416 := Aside0.mk (Kd.R_lower ho0 (below_size tb)); replace BK405 := Aside0.mk (blk_below (g := gb405) (o := .cells #[.int .i64 0, .slice none 0 0] 32 (0, 0)) (by (with_reducible repeat (first | refine blk_drewN ?_ _ | refine blk_drew ?_ | refine blk_alloc ?_ _)); refine blk_far ?_ NB405_413.out _; (with_reducible repeat (first | refine blk_drewN ?_ _ | refine blk_drew ?_ | refine blk_alloc ?_ _)); refine blk_far ?_ NB405_413.out _; (with_reducible repeat (first | refine blk_drewN ?_ _ | refine blk_drew ?_ | refine blk_alloc ?_ _)); refine blk_far ?_ NB405_413.out _; (with_reducible repeat (first | refine blk_drewN ?_ _ | refine blk_drew ?_ | refine blk_alloc ?_ _)); exact BK405.out) hb); replace BK413 := Aside0.mk (blk_below (g := gb413) (o := .cells #[.int .i64 t408, .int .i64 t409, .slice Ao19 t410.length co19] 117 (0, 0)) (by (with_reducible repeat (first | refine blk_drewN ?_ _ | refine blk_drew ?_ | refine blk_alloc ?_ _)); refine blk_put (cs := #[.int .i64 t408, .int .i64 t409, .slice none 0 0]) ?_ 2 _ rfl; (with_reducible repeat (first | refine blk_drewN ?_ _ | refine blk_drew ?_ | refine blk_alloc ?_ _)); refine blk_put (cs := #[.int .i64 t408, .int .i64 0, .slice none 0 0]) ?_ 1 _ rfl; (with_reducible repeat (first | refine blk_drewN ?_ _ | refine blk_drew ?_ | refine blk_alloc ?_ _)); refine blk_put (cs := #[.int .i64 0, .int .i64 0, .slice none 0 0]) ?_ 0 _ rfl; (with_reducible repeat (first | refine blk_drewN ?_ _ | refine blk_drew ?_ | refine blk_alloc ?_ _)); exact BK413.out) hb); replace HB := Aside0.mk (below_step tb hb); (try clear hb); (try clear hb2); (try clear hk); (try clear hi); (try clear ho0); obtain ⟨Ao21, co21, eo21⟩ := Kd.R_slice HO416.out; subst eo21) | ((with_reducible refine gate_callee (f := 176) rfl ?_); refine goesL_ (some 27) rfl rfl Try.func176 (by kernel_rfl) rfl #[.int .i64 a0, .slice Ao21 t414.length co21] rfl ar ?_; (with_reducible refine (impl_cycloOf.calls a0 (fun k_ => some k_ = (.slice Ao21 t414.length co21 : Value).ownBlock) (.slice Ao21 t414.length co21) t414 t417 t418 t421 w _ ?side1 ?side2 A14.out).mono ?_); (case side1 => exact tb); (case side2 => exact Kd.R_tight rfl HO416.out); rintro e w22 ⟨v419, rfl, ho0, hb, hkp⟩; refine ⟨_, rfl, ?_⟩; have n0_ := Aside0.mk (blk_kept (kb BK405.out) hkp (fun hs_ => (fun e_ => (Kd.R_ne HO416.out BK405.out (by decide)) e_) hs_)); have n1_ := Aside0.mk (Kd.N_mono (ok' := fun k_ => k_ ≠ gb405 ∧ k_ ≠ gb413 ∧ some k_ ≠ (v419 : Value).ownBlock) (Kd.N_keptB (HO412.out) hkp (fun k_ hk_ hs_ => (hk_.2) hs_)) (fun k_ hk_ => ⟨hk_.1.1.1, hk_.1.1.2, fun e_ => Or.elim (ho0.1 k_ e_.symm) (fun hs_ => hk_.2.1 hs_) (fun hn_ => Nat.not_le.2 hk_.2.2 hn_)⟩)); have n2_ := Aside0.mk (blk_kept (kb BK413.out) hkp (fun hs_ => (fun e_ => (Kd.R_ne HO416.out BK413.out (by decide)) e_) hs_)); have n3_ := Aside0.mk (Kd.R_mono (ok' := fun k_ => True) ho0 (fun k_ hk_ => trivial)); have n4_ := Aside0.mk (hb); clear BK405; clear HO412; clear BK413; clear HB; clear HO416; have BK405 := n0_; have HO412 := n1_; have BK413 := n2_; have HO420 := n3_; have HB := n4_; clear n0_ n1_ n2_ n3_ n4_; (try clear hb); (try clear hkp); (try clear ho0); have hcz23_0 : w22.cell? ⟨gb405, 0, none⟩ = some (.int .i64 0) := (blk_cell BK405.out 0).trans rfl; have hcz23_1 : w22.cell? ⟨gb405, 1, none⟩ = some (.slice none 0 0) := (blk_cell BK405.out 1).trans rfl; have hfz23_0 := blk_frozen BK405.out 0; have hfz23_1 := blk_frozen BK405.out 1; obtain ⟨Ao24, co24, eo24⟩ := Kd.R_slice HO420.out; subst eo24))
    refine bodyPost_ret (results_ct rfl _ _ gb405 32 #[.int .i64 t417, .slice Ao24 t418.length co24] (0, 0) _ rfl (by (with_reducible repeat (first | refine blk_drewN ?_ _ | refine blk_drew ?_ | refine blk_alloc ?_ _)); refine blk_put (cs := #[.int .i64 t417, .slice none 0 0]) ?_ 1 _ rfl; (with_reducible repeat (first | refine blk_drewN ?_ _ | refine blk_drew ?_ | refine blk_alloc ?_ _)); refine blk_put (cs := #[.int .i64 0, .slice none 0 0]) ?_ 0 _ rfl; (with_reducible repeat (first | refine blk_drewN ?_ _ | refine blk_drew ?_ | refine blk_alloc ?_ _)); exact BK405.out) Try.underlying32 rfl (by kernel_rfl)) rfl ?_
    exact ⟨_, by first | rfl | (simp [errW_none, errW_some] <;> rfl) | (simp [*, errW_none, errW_some] <;> rfl), by (with_reducible repeat (first | apply Kd.R_alloc | apply Kd.R_drewN | apply Kd.R_drew)); exact Kd.R_mono (Kd.R_far (p := ⟨gb405, 1, none⟩) (Kd.R_far (p := ⟨gb405, 0, none⟩) (Kd.R_types HO420.out BK405.out (by decide)) (fun _ hk => hk.2) (.int .i64 t417)) (fun _ hk => hk.2) (.slice Ao24 t418.length co24)) (fun _ hk => trivial), tb⟩

/-! ### impl_isPrimeTo: function 179 -/
def impl_isPrimeTo.f (k : Nat) (a0 : Int) (a1 : Int) : Option (Bool) := (impl_within.f a0 1 a1).bind fun t422 => (if t422 = true then ((impl_gcd.f k a0 a1).bind fun t423 => (some (t423 == 1))) else (some false))
set_option maxHeartbeats 8000000 in
set_option maxRecDepth 100000 in
theorem impl_isPrimeTo.calls (k : Nat) (a0 : Int) (a1 : Int) (r : Bool) (w : World) (h : impl_isPrimeTo.f k a0 a1 = some r) :
  Calls Try.prog 179 #[.int .i64 a0, .int .i64 a1] w fun e w' => e = .returned (.bool r) ∧ Below w.heap.size w w' := by
 have HB := Aside0.mk (Below.refl w.heap.size w)
 have H : ((impl_within.f a0 1 a1).bind fun t422 => (if t422 = true then ((impl_gcd.f k a0 a1).bind fun t423 => (some (t423 == 1))) else (some false))) = some r := h
 clear h
 replace H := Option.bind_eq_some_iff.mp H
 obtain ⟨t422, A30, H⟩ := H
 replace H : (if t422 = true then ((impl_gcd.f k a0 a1).bind fun t423 => (some (t423 == 1))) else (some false)) = some r := H
 have A3 := Aside0.mk A30
 clear A30
 by_cases c4 : t422 = true
 ·subst c4
  have H1 : ((impl_gcd.f k a0 a1).bind fun t423 => (some (t423 == 1))) = some r := by rw [if_pos rfl] at H; exact H
  clear H
  have H := H1
  clear H1
  replace H := Option.bind_eq_some_iff.mp H
  obtain ⟨t423, A50, H⟩ := H
  replace H : (some (t423 == 1)) = some r := H
  have A5 := Aside0.mk A50
  clear A50
  obtain rfl := Option.some.inj H
  go_enter Try.func179, Try.ntmps179
  go_wp2_with (first | ((with_reducible refine gate_callee (f := 159) rfl ?_); refine goesL_ (some 7) rfl rfl Try.func159 (by kernel_rfl) rfl #[.int .i64 a0, .int .i64 1, .int .i64 a1] rfl ar ?_; (with_reducible refine (impl_within.calls a0 1 a1 true _ A3.out).mono ?_); rintro e w' ⟨rfl, ⟨nd, rfl⟩⟩; refine ⟨_, rfl, ?_⟩) | (go_at_call 120; (with_reducible refine (impl_gcd.calls k a0 a1 t423 _ A5.out).mono ?_); rintro e w6 ⟨rfl, hb⟩; replace HB := Aside0.mk (below_step tb hb); (try clear hb); (try clear hb2); (try clear hk); (try clear hi)))
  go_ret
  exact ⟨by first | rfl | (simp [errW_none, errW_some] <;> rfl) | (simp [*, errW_none, errW_some] <;> rfl), tb⟩
 ·replace c4 := Bool.eq_false_iff.mpr c4
  subst c4
  have H1 : (some false) = some r := by rw [if_neg (show ¬ (false = true) by decide)] at H; exact H
  clear H
  have H := H1
  clear H1
  obtain rfl := Option.some.inj H
  go_enter Try.func179, Try.ntmps179
  go_wp2_with (first | ((with_reducible refine gate_callee (f := 159) rfl ?_); refine goesL_ (some 7) rfl rfl Try.func159 (by kernel_rfl) rfl #[.int .i64 a0, .int .i64 1, .int .i64 a1] rfl ar ?_; (with_reducible refine (impl_within.calls a0 1 a1 false _ A3.out).mono ?_); rintro e w' ⟨rfl, ⟨nd, rfl⟩⟩; refine ⟨_, rfl, ?_⟩))
  go_ret
  exact ⟨by first | rfl | (simp [errW_none, errW_some] <;> rfl) | (simp [*, errW_none, errW_some] <;> rfl), tb⟩

/-! ### bits_Mul32: function 284 -/
def bits_Mul32.f (a0 : Int) (a1 : Int) : Option (Int × Int) := some (((IntKind.u64.wrap ((IntKind.u64.wrap (a0)) * (IntKind.u64.wrap (a1)))) / 4294967296) % 4294967296, (IntKind.u64.wrap ((IntKind.u64.wrap (a0)) * (IntKind.u64.wrap (a1)))) % 4294967296)
set_option maxHeartbeats 8000000 in
set_option maxRecDepth 100000 in
theorem bits_Mul32.calls (a0 : Int) (a1 : Int) (r1 : Int) (r2 : Int) (w : World) (h : bits_Mul32.f a0 a1 = some (r1, r2)) :
  Calls Try.prog 284 #[.int .u32 a0, .int .u32 a1] w fun e w' => e = .returned (.tuple #[.int .u32 r1, .int .u32 r2]) ∧ Drawn0 w w' := by
 have H : (some (((IntKind.u64.wrap ((IntKind.u64.wrap (a0)) * (IntKind.u64.wrap (a1)))) / 4294967296) % 4294967296, (IntKind.u64.wrap ((IntKind.u64.wrap (a0)) * (IntKind.u64.wrap (a1)))) % 4294967296)) = some (r1, r2) := h
 clear h
 simp only [Option.some.injEq, Prod.mk.injEq] at H
 obtain ⟨rfl, rfl⟩ := H
 go_enter Try.func284, Try.ntmps284
 go_wp2
 go_ret2
 exact ⟨by first | rfl | (simp; done) | (simp [*]; done), by repeat (first | exact Drawn0.refl _ | apply Drawn0.step)⟩

/-! ### bits_Mul64: function 285 -/
def bits_Mul64.f (a0 : Int) (a1 : Int) : Option (Int × Int) := some (IntKind.u64.wrap ((IntKind.u64.wrap ((IntKind.u64.wrap ((a0 / 4294967296) * (a1 / 4294967296))) + ((IntKind.u64.wrap ((IntKind.u64.wrap ((a0 / 4294967296) * (Go.bits .and .u64 a1 4294967295))) + ((IntKind.u64.wrap ((Go.bits .and .u64 a0 4294967295) * (Go.bits .and .u64 a1 4294967295))) / 4294967296))) / 4294967296))) + ((IntKind.u64.wrap ((Go.bits .and .u64 (IntKind.u64.wrap ((IntKind.u64.wrap ((a0 / 4294967296) * (Go.bits .and .u64 a1 4294967295))) + ((IntKind.u64.wrap ((Go.bits .and .u64 a0 4294967295) * (Go.bits .and .u64 a1 4294967295))) / 4294967296))) 4294967295) + (IntKind.u64.wrap ((Go.bits .and .u64 a0 4294967295) * (a1 / 4294967296))))) / 4294967296)), IntKind.u64.wrap (a0 * a1))
set_option maxHeartbeats 8000000 in
set_option maxRecDepth 100000 in
theorem bits_Mul64.calls (a0 : Int) (a1 : Int) (r1 : Int) (r2 : Int) (w : World) (h : bits_Mul64.f a0 a1 = some (r1, r2)) :
  Calls Try.prog 285 #[.int .u64 a0, .int .u64 a1] w fun e w' => e = .returned (.tuple #[.int .u64 r1, .int .u64 r2]) ∧ Drawn0 w w' := by
 have H : (some (IntKind.u64.wrap ((IntKind.u64.wrap ((IntKind.u64.wrap ((a0 / 4294967296) * (a1 / 4294967296))) + ((IntKind.u64.wrap ((IntKind.u64.wrap ((a0 / 4294967296) * (Go.bits .and .u64 a1 4294967295))) + ((IntKind.u64.wrap ((Go.bits .and .u64 a0 4294967295) * (Go.bits .and .u64 a1 4294967295))) / 4294967296))) / 4294967296))) + ((IntKind.u64.wrap ((Go.bits .and .u64 (IntKind.u64.wrap ((IntKind.u64.wrap ((a0 / 4294967296) * (Go.bits .and .u64 a1 4294967295))) + ((IntKind.u64.wrap ((Go.bits .and .u64 a0 4294967295) * (Go.bits .and .u64 a1 4294967295))) / 4294967296))) 4294967295) + (IntKind.u64.wrap ((Go.bits .and .u64 a0 4294967295) * (a1 / 4294967296))))) / 4294967296)), IntKind.u64.wrap (a0 * a1))) = some (r1, r2) := h
 clear h
 simp only [Option.some.injEq, Prod.mk.injEq] at H
 obtain ⟨rfl, rfl⟩ := H
 go_enter Try.func285, Try.ntmps285
 go_wp2
 go_ret2
 exact ⟨by first | rfl | (simp; done) | (simp [*]; done), by repeat (first | exact Drawn0.refl _ | apply Drawn0.step)⟩

/-! ### bits_Mul: function 279 -/
def bits_Mul.f (a0 : Int) (a1 : Int) : Option (Int × Int) := (bits_Mul64.f a0 a1).bind fun bt424 => (some (bt424.1, bt424.2))
set_option maxHeartbeats 8000000 in
set_option maxRecDepth 100000 in
theorem bits_Mul.calls (a0 : Int) (a1 : Int) (r1 : Int) (r2 : Int) (w : World) (h : bits_Mul.f a0 a1 = some (r1, r2)) :
  Calls Try.prog 279 #[.int .u64 a0, .int .u64 a1] w fun e w' => e = .returned (.tuple #[.int .u64 r1, .int .u64 r2]) ∧ Drawn0 w w' := by
 have H : ((bits_Mul64.f a0 a1).bind fun bt424 => (some (bt424.1, bt424.2))) = some (r1, r2) := h
 clear h
 replace H := Option.bind_eq_some_iff.mp H
 obtain ⟨⟨t424, t425⟩, A30, H⟩ := H
 replace H : (some (t424, t425)) = some (r1, r2) := H
 have A3 := Aside0.mk A30
 clear A30
 simp only [Option.some.injEq, Prod.mk.injEq] at H
 obtain ⟨rfl, rfl⟩ := H
 go_enter Try.func279, Try.ntmps279
 go_wp2_with (first | ((with_reducible refine gate_callee (f := 285) rfl ?_); refine goesL_ (some 25) rfl rfl Try.func285 (by kernel_rfl) rfl #[.int .u64 a0, .int .u64 a1] rfl ar ?_; (with_reducible refine (bits_Mul64.calls a0 a1 t424 t425 _ A3.out).mono ?_); rintro e w' ⟨rfl, ⟨nd, rfl⟩⟩; refine ⟨_, rfl, ?_⟩))
 go_ret2
 exact ⟨by first | rfl | (simp; done) | (simp [*]; done), by repeat (first | exact Drawn0.refl _ | apply Drawn0.step)⟩

/-! ### slices_Repeat_int64_int64: function 264 -/
def slices_Repeat_int64_int64.f (l0 : List Int) (a1 : Int) : Option (List Int) := if l0.length = 1 ∧ 1 ≤ a1 ∧ a1 ≤ 1000000 then some (List.replicate a1.toNat (rd l0 0)) else none

set_option maxHeartbeats 8000000 in
set_option maxRecDepth 100000 in
theorem slices_Repeat_int64_int64.calls (A0 : Option Addr) (c0 : Nat) (l0 : List Int) (a1 : Int) (r : List Int) (w : World) (hr0 : Kd.C (Kd.int .i64) w A0 l0.length l0) (hc0 : l0.length ≤ c0) (h : slices_Repeat_int64_int64.f l0 a1 = some r) :
  Calls Try.prog 264 #[.slice A0 l0.length c0, .int .i64 a1] w fun e w' => ∃ v0_ : Value, e = .returned (v0_) ∧ Kd.R (Kd.int .i64) 2 w' w.heap.size (fun _ => True) v0_ r ∧ Below w.heap.size w w' := by
 unfold slices_Repeat_int64_int64.f at h
 by_cases c : l0.length = 1 ∧ 1 ≤ a1 ∧ a1 ≤ 1000000
 ·rw [if_pos c] at h
  obtain ⟨v, rfl⟩ := List.length_eq_one_iff.mp c.1
  obtain ⟨n, rfl⟩ := Int.eq_ofNat_of_zero_le (show 0 ≤ a1 by omega)
  obtain rfl := Option.some.inj h
  exact Rp.repeat_calls A0 c0 v n w hr0 (by omega) (by omega)
 ·rw [if_neg c] at h
  cases h

/-! ### impl_ones: function 211 -/
def impl_ones.f (a0 : Int) : Option (List Int) := (slices_Repeat_int64_int64.f (([1] : List Int)) a0).bind fun t429 => (some t429)
set_option maxHeartbeats 8000000 in
set_option maxRecDepth 100000 in
theorem impl_ones.calls (a0 : Int) (r : List Int) (w : World) (h : impl_ones.f a0 = some r) :
  Calls Try.prog 211 #[.int .i64 a0] w fun e w' => ∃ v0_ : Value, e = .returned (v0_) ∧ Kd.R (Kd.int .i64) 2 w' w.heap.size (fun _ => True) v0_ r ∧ Below w.heap.size w w' := by
 have HB := Aside0.mk (Below.refl w.heap.size w)
 have H : ((slices_Repeat_int64_int64.f (([1] : List Int)) a0).bind fun t429 => (some t429)) = some r := h
 clear h
 obtain ⟨y426, hy426⟩ : ∃ y_ : List Int, y_ = (([1] : List Int)) := ⟨_, rfl⟩
 replace H : ((slices_Repeat_int64_int64.f y426 a0).bind fun t429 => (some t429)) = some r := by first | (rw [hy426]; with_reducible exact H) | (rw [hy426]; with_reducible exact (bs H :)) | with_reducible exact (bs H :) | exact H
 have Ny426 := Aside0.mk hy426
 clear hy426
 replace H := Option.bind_eq_some_iff.mp H
 obtain ⟨t429, A20, H⟩ := H
 replace H : (some t429) = some r := H
 have A2 := Aside0.mk A20
 clear A20
 obtain rfl := Option.some.inj H
 go_enter Try.func211, Try.ntmps211
 go_wp2_with (first | ((with_reducible refine gate_dst (N := 3) rfl ?_); refine Kd.R_lit (Kd.int .i64) _ 2 ?hg (N := 3) ?hd (xs := ([1] : List Int)) (inner := [.int .i64 1]) (ok := fun _ => True) (okp := fun _ => True) ?hr ?hp (fun _ hk => hk) trivial (Below.refl _ _) (Nat.le_refl _) (by simp) ?_; (case hd => rfl); (case hg => rfl); (case hr => first | (go_simp; done) | (go_simp; rfl)); (case hp => exact (Reps.one (show Kd.M (Kd.int .i64) _ _ _ 1 [.int .i64 1] from rfl) (Reps.none _ _))); intro v427 w3 ho4 hb hg_ hnew_; clear hg_ hnew_; (first | rw [← Ny426.out] at ho4 | (simp only [Int.reduceToNat] at ho4; rw [← Ny426.out] at ho4)); have HO428 := Aside0.mk (Kd.R_lower ho4 (below_size tb)); replace HB := Aside0.mk (below_step tb hb); clear hb ho4; obtain ⟨Ao5, co5, eo5⟩ := Kd.R_slice HO428.out; subst eo5) | ((with_reducible refine gate_callee (f := 264) rfl ?_); refine goesL_ (some 5) rfl rfl Try.func264 (by kernel_rfl) rfl #[.slice Ao5 y426.length co5, .int .i64 a0] rfl ar ?_; (with_reducible refine (slices_Repeat_int64_int64.calls _ _ y426 a0 t429 _ ?side1 ?side2 A2.out).mono ?_); (case side1 => exact kC (Kd.R_reads' HO428.out).2.2); (case side2 => exact (Kd.R_reads' HO428.out).2.1); rintro e w6 ⟨v430, rfl, ho0, hb⟩; refine ⟨_, rfl, ?_⟩; have HO431 := Aside0.mk (Kd.R_lower (Kd.R_new' ho0 (Kd.R_lt (kR HO428.out))) (below_size tb)); replace HO428 := Aside0.mk (Kd.R_elder' (kR HO428.out) (Kd.R_base ho0) hb); replace HB := Aside0.mk (below_step tb hb); (try clear hb); (try clear hb2); (try clear hk); (try clear hi); (try clear ho0)))
 go_ret
 exact ⟨_, by first | rfl | (simp [errW_none, errW_some] <;> rfl) | (simp [*, errW_none, errW_some] <;> rfl), by (with_reducible repeat (first | apply Kd.R_alloc | apply Kd.R_drewN | apply Kd.R_drew)); exact Kd.R_mono HO431.out (fun _ hk => trivial), tb⟩

/-! ### impl_CyclotomicUnit: function 105 -/
def impl_CyclotomicUnit.j0 : Nat → Int → Int → Bool → Option (Int × List Int × Int)
 | 0, _, _, _ => none
 | k + 1, x0, x1, x14 => if x14 = true then (some (0, ([] : List Int), 2)) else ((impl_ones.f x1).bind fun t435 => ((impl_CycloOf.f k x0 t435).bind fun bt438 => (some (bt438.1, bt438.2.1, bt438.2.2))))
def impl_CyclotomicUnit.f (k : Nat) (a0 : Int) (a1 : Int) : Option (Int × List Int × Int) := (impl_within.f a0 2 16).bind fun t433 => (if t433 = true then ((impl_isPrimeTo.f k a1 a0).bind fun t434 => (impl_CyclotomicUnit.j0 k a0 a1 (!t434))) else (impl_CyclotomicUnit.j0 k a0 a1 true))
set_option maxHeartbeats 8000000 in
set_option maxRecDepth 100000 in
theorem impl_CyclotomicUnit.calls (k : Nat) (a0 : Int) (a1 : Int) (r1 : Int) (r2 : List Int) (r3 : Int) (w : World) (h : impl_CyclotomicUnit.f k a0 a1 = some (r1, r2, r3)) :
  Calls Try.prog 105 #[.int .i64 a0, .int .i64 a1] w fun e w' => ∃ v1_ : Value, e = .returned (.tuple #[.agg #[.int .i64 r1, v1_], .int .i64 r3]) ∧ Kd.R (Kd.int .i64) 2 w' w.heap.size (fun _ => True) v1_ r2 ∧ Below w.heap.size w w' := by
 have hu32 := Try.underlying32
 have HB := Aside0.mk (Below.refl w.heap.size w)
 have H : ((impl_within.f a0 2 16).bind fun t433 => (if t433 = true then ((impl_isPrimeTo.f k a1 a0).bind fun t434 => (impl_CyclotomicUnit.j0 k a0 a1 (!t434))) else (impl_CyclotomicUnit.j0 k a0 a1 true))) = some (r1, r2, r3) := h
 clear h
 have HC3 := Aside0.mk H
 clear H
 go_enter Try.func105, Try.ntmps105
 go_upto_region 1 with (first | ((with_reducible refine gate_dst (N := 4) rfl ?_); refine box_event ?hg (N := 4) ?hd (cs := #[.int .i64 0, .slice none 0 0]) (t := 32) ?hr ?_; (case hd => rfl); (case hg => rfl); (case hr => first | (go_simp; done) | (go_simp; rfl)); intro gb432 hg w4 hbox hb; have BK432 := Aside0.mk (hbox); have GW432 := Aside0.mk ((by rw [hg]; exact (below_size tb) : w.heap.size ≤ gb432)); have GE432 := Aside0.mk ((by rw [hg]; exact (below_size tb) : w.heap.size ≤ gb432)); replace HB := Aside0.mk (below_step tb hb); clear hb hbox hg))
 (try simp only [Act.put, List.setIfInBounds_toArray, List.set_cons_zero, List.set_cons_succ])
 go_cut [14] (fun v14 wc => ∃ (kq : Nat) (x14_2 : Bool), v14 = .bool x14_2 ∧ Aside0 (impl_CyclotomicUnit.j0 kq a0 a1 x14_2 = some (r1, r2, r3)) ∧ Aside0 (kq ≤ k) ∧ Aside0 (wc.heap[gb432]? = some (.cells #[.int .i64 0, (.slice none 0 0)] 32 (0, 0))) ∧ Aside0 (Below w.heap.size w wc))
 case first =>
  have H := HC3.out
  clear HC3
  replace H := Option.bind_eq_some_iff.mp H
  obtain ⟨t433, A50, H⟩ := H
  replace H : (if t433 = true then ((impl_isPrimeTo.f k a1 a0).bind fun t434 => (impl_CyclotomicUnit.j0 k a0 a1 (!t434))) else (impl_CyclotomicUnit.j0 k a0 a1 true)) = some (r1, r2, r3) := H
  have A5 := Aside0.mk A50
  clear A50
  by_cases c6 : t433 = true
  ·subst c6
   have H1 : ((impl_isPrimeTo.f k a1 a0).bind fun t434 => (impl_CyclotomicUnit.j0 k a0 a1 (!t434))) = some (r1, r2, r3) := by rw [if_pos rfl] at H; exact H
   clear H
   have H := H1
   clear H1
   replace H := Option.bind_eq_some_iff.mp H
   obtain ⟨t434, A70, H⟩ := H
   replace H : (impl_CyclotomicUnit.j0 k a0 a1 (!t434)) = some (r1, r2, r3) := H
   have A7 := Aside0.mk A70
   clear A70
   have H' := Aside0.mk H
   clear H
   go_wp2_with (first | ((with_reducible refine gate_callee (f := 159) rfl ?_); refine goesL_ (some 7) rfl rfl Try.func159 (by kernel_rfl) rfl #[.int .i64 a0, .int .i64 2, .int .i64 16] rfl ar ?_; (with_reducible refine (impl_within.calls a0 2 16 true _ A5.out).mono ?_); rintro e w' ⟨rfl, ⟨nd, rfl⟩⟩; refine ⟨_, rfl, ?_⟩) | (go_at_call 179; (with_reducible refine (impl_isPrimeTo.calls k a1 a0 t434 _ A7.out).mono ?_); rintro e w8 ⟨rfl, hb⟩; replace BK432 := Aside0.mk (blk_below (kb BK432.out) hb); replace HB := Aside0.mk (below_step tb hb); (try clear hb); (try clear hb2); (try clear hk); (try clear hi)))
   go_meet
   case rel => exact ⟨_, (!t434), (by first | rfl | (simp; done) | (simp [*]; done)), H', ⟨by first | omega | exact Nat.le_refl _⟩, ⟨kb BK432.out⟩, ⟨tb⟩⟩
  ·replace c6 := Bool.eq_false_iff.mpr c6
   subst c6
   have H1 : (impl_CyclotomicUnit.j0 k a0 a1 true) = some (r1, r2, r3) := by rw [if_neg (show ¬ (false = true) by decide)] at H; exact H
   clear H
   have H := H1
   clear H1
   have H' := Aside0.mk H
   clear H
   go_wp2_with (first | ((with_reducible refine gate_callee (f := 159) rfl ?_); refine goesL_ (some 7) rfl rfl Try.func159 (by kernel_rfl) rfl #[.int .i64 a0, .int .i64 2, .int .i64 16] rfl ar ?_; (with_reducible refine (impl_within.calls a0 2 16 false _ A5.out).mono ?_); rintro e w' ⟨rfl, ⟨nd, rfl⟩⟩; refine ⟨_, rfl, ?_⟩))
   go_meet
   case rel => exact ⟨_, (true), (by first | rfl | (simp; done) | (simp [*]; done)), H', ⟨by first | omega | exact Nat.le_refl _⟩, ⟨kb BK432.out⟩, ⟨tb⟩⟩
 case rest =>
  clear HC3
  try clear c1
  try clear p2
  try clear c6
  obtain ⟨kq, x14_2, rfl, HA, HJ2, BK432, HB⟩ := hcut
  cases kq with
  | zero => exact absurd HA.out (by simp [impl_CyclotomicUnit.j0])
  | succ kj2 =>
   have H := HA.out
   clear HA
   simp only [impl_CyclotomicUnit.j0] at H
   by_cases c9 : x14_2 = true
   ·subst c9
    have H1 : (some (0, ([] : List Int), 2)) = some (r1, r2, r3) := by rw [if_pos rfl] at H; exact H
    clear H
    have H := H1
    clear H1
    simp only [Option.some.injEq, Prod.mk.injEq] at H
    obtain ⟨rfl, rfl, rfl⟩ := H
    have hcz10_0 : wc.cell? ⟨gb432, 0, none⟩ = some (.int .i64 0) := (blk_cell BK432.out 0).trans rfl
    have hcz10_1 : wc.cell? ⟨gb432, 1, none⟩ = some (.slice none 0 0) := (blk_cell BK432.out 1).trans rfl
    have hfz10_0 := blk_frozen BK432.out 0
    have hfz10_1 := blk_frozen BK432.out 1
    go_wp2
    refine bodyPost_ret (results_ct rfl _ _ gb432 32 #[.int .i64 0, .slice none 0 0] (0, 0) _ rfl (by (with_reducible repeat (first | refine blk_drewN ?_ _ | refine blk_drew ?_ | refine blk_alloc ?_ _)); refine blk_put (cs := #[.int .i64 0, .slice none 0 0]) ?_ 1 _ rfl; (with_reducible repeat (first | refine blk_drewN ?_ _ | refine blk_drew ?_ | refine blk_alloc ?_ _)); refine blk_put (cs := #[.int .i64 0, .slice none 0 0]) ?_ 0 _ rfl; (with_reducible repeat (first | refine blk_drewN ?_ _ | refine blk_drew ?_ | refine blk_alloc ?_ _)); exact BK432.out) Try.underlying32 rfl (by kernel_rfl)) rfl ?_
    exact ⟨_, by first | rfl | (simp [errW_none, errW_some] <;> rfl) | (simp [*, errW_none, errW_some] <;> rfl), by first | exact Kd.R_nil _ _ _ _ _ | exact Kd.N_nil _ _ _ _ _ | exact Kd.V_nil _ _ _ _ _ | exact Kd.Q_nil _ _ _ _ _ | exact Kd.S_nil _ _ _ _ _, tb⟩
   ·replace c9 := Bool.eq_false_iff.mpr c9
    subst c9
    have H1 : ((impl_ones.f a1).bind fun t435 => ((impl_CycloOf.f kj2 a0 t435).bind fun bt438 => (some (bt438.1, bt438.2.1, bt438.2.2)))) = some (r1, r2, r3) := by rw [if_neg (show ¬ (false = true) by decide)] at H; exact H
    clear H
    have H := H1
    clear H1
    replace H := Option.bind_eq_some_iff.mp H
    obtain ⟨t435, A110, H⟩ := H
    replace H : ((impl_CycloOf.f kj2 a0 t435).bind fun bt438 => (some (bt438.1, bt438.2.1, bt438.2.2))) = some (r1, r2, r3) := H
    have A11 := Aside0.mk A110
    clear A110
    replace H := Option.bind_eq_some_iff.mp H
    obtain ⟨⟨t438, t439, t442⟩, A120, H⟩ := H
    replace H : (some (t438, t439, t442)) = some (r1, r2, r3) := H
    have A12 := Aside0.mk A120
    clear A120
    simp only [Option.some.injEq, Prod.mk.injEq] at H
    obtain ⟨rfl, rfl, rfl⟩ := H
    go_wp2_with (first | ((with_reducible refine gate_callee (f := 211) rfl ?_); refine goesL_ (some 18) rfl rfl Try.func211 (by kernel_rfl) rfl #[.int .i64 a1] rfl ar ?_; (with_reducible refine (impl_ones.calls a1 t435 _ A11.out).mono ?_); rintro e w13 ⟨v436, rfl, ho0, hb⟩; refine ⟨_, rfl, ?_⟩; have HO437 := Aside0.mk (Kd.R_lower ho0 (below_size tb)); replace BK432 := Aside0.mk (blk_below (kb BK432.out) hb); replace HB := Aside0.mk (below_step tb hb); (try clear hb); (try clear hb2); (try clear hk); (try clear hi); (try clear ho0); obtain ⟨Ao14, co14, eo14⟩ := Kd.R_slice HO437.out; subst eo14) | ((with_reducible refine gate_callee (f := 94) rfl ?_); refine goesL_ (some 19) rfl rfl Try.func94 (by kernel_rfl) rfl #[.int .i64 a0, .slice Ao14 t435.length co14] rfl ar ?_; (with_reducible refine (impl_CycloOf.calls kj2 a0 _ _ t435 t438 t439 t442 _ ?side1 ?side2 A12.out).mono ?_); (case side1 => exact kC (Kd.R_reads' HO437.out).2.2); (case side2 => exact (Kd.R_reads' HO437.out).2.1); rintro e w15 ⟨v440, rfl, ho0, hb⟩; refine ⟨_, rfl, ?_⟩; have HO441 := Aside0.mk (Kd.R_lower (Kd.R_new' ho0 (Kd.R_lt (kR HO437.out))) (below_size tb)); replace HO437 := Aside0.mk (Kd.R_elder' (kR HO437.out) (Kd.R_base ho0) hb); replace BK432 := Aside0.mk (blk_below (kb BK432.out) hb); replace HB := Aside0.mk (below_step tb hb); (try clear hb); (try clear hb2); (try clear hk); (try clear hi); (try clear ho0); have hcz16_0 : w15.cell? ⟨gb432, 0, none⟩ = some (.int .i64 0) := (blk_cell BK432.out 0).trans rfl; have hcz16_1 : w15.cell? ⟨gb432, 1, none⟩ = some (.slice none 0 0) := (blk_cell BK432.out 1).trans rfl; have hfz16_0 := blk_frozen BK432.out 0; have hfz16_1 := blk_frozen BK432.out 1; obtain ⟨Ao17, co17, eo17⟩ := Kd.R_slice HO441.out; subst eo17))
    refine bodyPost_ret (results_ct rfl _ _ gb432 32 #[.int .i64 t438, .slice Ao17 t439.length co17] (0, 0) _ rfl (by (with_reducible repeat (first | refine blk_drewN ?_ _ | refine blk_drew ?_ | refine blk_alloc ?_ _)); refine blk_put (cs := #[.int .i64 t438, .slice none 0 0]) ?_ 1 _ rfl; (with_reducible repeat (first | refine blk_drewN ?_ _ | refine blk_drew ?_ | refine blk_alloc ?_ _)); refine blk_put (cs := #[.int .i64 0, .slice none 0 0]) ?_ 0 _ rfl; (with_reducible repeat (first | refine blk_drewN ?_ _ | refine blk_drew ?_ | refine blk_alloc ?_ _)); exact BK432.out) Try.underlying32 rfl (by kernel_rfl)) rfl ?_
    exact ⟨_, by first | rfl | (simp [errW_none, errW_some] <;> rfl) | (simp [*, errW_none, errW_some] <;> rfl), by (with_reducible repeat (first | apply Kd.R_alloc | apply Kd.R_drewN | apply Kd.R_drew)); exact Kd.R_mono (Kd.R_far (p := ⟨gb432, 1, none⟩) (Kd.R_far (p := ⟨gb432, 0, none⟩) (Kd.R_types HO441.out BK432.out (by decide)) (fun _ hk => hk.2) (.int .i64 t438)) (fun _ hk => hk.2) (.slice Ao17 t439.length co17)) (fun _ hk => trivial), tb⟩

/-! ### spec_l01Own: function 244 -/
def spec_l01Own.f (l0 : List Int) : Option (List Int) := (some (([] : List Int) : List Int)).bind fun y443 => (if y443.length + l0.length < 17592186044416 then (some (y443 ++ l0)) else (none))
set_option maxHeartbeats 8000000 in
set_option maxRecDepth 100000 in
theorem spec_l01Own.calls (A0 : Option Addr) (c0 : Nat) (l0 : List Int) (r : List Int) (w : World) (hr0 : Kd.C (Kd.int .i64) w A0 l0.length l0) (hc0 : l0.length ≤ c0) (h : spec_l01Own.f l0 = some r) :
  Calls Try.prog 244 #[.slice A0 l0.length c0] w fun e w' => ∃ v0_ : Value, e = .returned (v0_) ∧ Kd.R (Kd.int .i64) 2 w' w.heap.size (fun _ => True) v0_ r ∧ Below w.heap.size w w' := by
 have HR0 := Aside0.mk hr0
 have HC0 := Aside0.mk hc0
 clear hr0 hc0
 have HB := Aside0.mk (Below.refl w.heap.size w)
 have H : ((some (([] : List Int) : List Int)).bind fun y443 => (if y443.length + l0.length < 17592186044416 then (some (y443 ++ l0)) else (none))) = some r := h
 clear h
 obtain ⟨y443, hy443⟩ : ∃ y_ : List Int, y_ = (([] : List Int)) := ⟨_, rfl⟩
 replace H : (if y443.length + l0.length < 17592186044416 then (some (y443 ++ l0)) else (none)) = some r := by first | (rw [hy443]; with_reducible exact H) | (rw [hy443]; with_reducible exact (bs H :)) | with_reducible exact (bs H :) | exact H
 have Ny443 := Aside0.mk hy443
 clear hy443
 by_cases c2 : y443.length + l0.length < 17592186044416
 ·rw [if_pos c2] at H
  have LMc2 := Aside0.mk c2
  clear c2
  obtain ⟨y446, hy446⟩ : ∃ y_ : List Int, y_ = (y443 ++ l0) := ⟨_, rfl⟩
  replace H : (some y446) = some r := by first | (rw [hy446]; with_reducible exact H) | (rw [hy446]; with_reducible exact (bs H :)) | with_reducible exact (bs H :) | exact H
  have Ny446 := Aside0.mk hy446
  clear hy446
  obtain rfl := Option.some.inj H
  go_enter Try.func244, Try.ntmps244
  go_wp2_with (first | ((with_reducible refine gate_dst (N := 3) rfl ?_); refine Kd.R_lit (Kd.int .i64) _ 2 ?hg (N := 3) ?hd (xs := ([] : List Int)) (inner := []) (ok := fun _ => True) (okp := fun _ => True) ?hr ?hp (fun _ hk => hk) trivial (Below.refl _ _) (Nat.le_refl _) (by simp) ?_; (case hd => rfl); (case hg => rfl); (case hr => first | (go_simp; done) | (go_simp; rfl)); (case hp => exact (Reps.none _ _)); intro v444 w3 ho4 hb hg_ hnew_; clear hg_ hnew_; (first | rw [← Ny443.out] at ho4 | (simp only [Int.reduceToNat] at ho4; rw [← Ny443.out] at ho4)); have HO445 := Aside0.mk (Kd.R_lower ho4 (below_size tb)); replace HB := Aside0.mk (below_step tb hb); clear hb ho4) | ((with_reducible refine gate_builtin (b := .append) (xs := #[.tmp 3, .tmp 4]) rfl ?_); at_builtin; refine Kd.R_append_rows (Kd.int .i64) (w0 := w) w.heap.size rfl (.tmp 3) (.tmp 4) 27 2 (.int .i64 0) 8 rfl Try.underlying27 info2 rfl (by decide) (by omega) v444 y443 l0 _ _ _ (fun _ => True) (fun _ => False) rfl rfl ?aO ?aR (fun _ _ h => h) (fun _ h => h.elim) ?aF ?aB ?aS ?aL ?_; (case aR => repeat (first | exact (Kd.C_below HR0.out HB.out) | (with_reducible refine Kd.C_alloc ?_ _) | (with_reducible refine Kd.C_drewN ?_ _) | (with_reducible refine Kd.C_drew ?_))); (case aB => exact tb); (case aF => exact (fun _ _ => trivial)); (case aO => exact (kR HO445.out)); (case aS => exact (below_size tb)); (case aL => have := LMc2.out; omega); intro v447 w5 ho hb hg hat; rw [← Ny446.out] at ho; have n0_ := Aside0.mk (hb); have n1_ := Aside0.mk (ho); clear HB; clear HO445; have HB := n0_; have HO448 := n1_; clear n0_ n1_; clear ho hb hg hat))
  go_ret
  exact ⟨_, by first | rfl | (simp [errW_none, errW_some] <;> rfl) | (simp [*, errW_none, errW_some] <;> rfl), kR HO448.out, tb⟩
 ·rw [if_neg c2] at H
  exact absurd H (by simp)

end Go.Proofs.Ytgcggngleiggiaa.Pr
