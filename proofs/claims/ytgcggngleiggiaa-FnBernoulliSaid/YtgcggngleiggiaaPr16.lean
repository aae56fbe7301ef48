-- Printed by a program of this session, hand-proved contracts among it.
import Derived.Test.YtgcggngleiggiaaPr0
import Derived.Test.YtgcggngleiggiaaPr4
import Derived.Test.YtgcggngleiggiaaPr9
import Derived.Test.YtgcggngleiggiaaPr10
import Derived.Test.YtgcggngleiggiaaPr15
namespace Go.Proofs.Ytgcggngleiggiaa.Pr
open Go.RowKit Go.Proofs.YtgcggngleiggiaaW.PrintWords Go.Proofs.YtgcggngleiggiaaW.PrintLast Go.Proofs.YtgcggngleiggiaaW.PrintMore Go.Proofs.Ytgcggngleiggiaa.Sq
attribute [local go_sem] max2_int min2_int max_two min_two max_three min_three max_four min_four   -- for this text's walks alone
set_option linter.unusedVariables false
set_option linter.unusedSimpArgs false

/-! ### impl_unitsOf: function 268 -/
def impl_unitsOf.l0 : Nat → Int → List Int → Int → Option (List Int)
 | 0, _, _, _ => none
 | k + 1, x0, x3, x4 => if x4 ≤ x0 then ((impl_isPrimeTo.f k x4 x0).bind fun t552 => (if t552 = true then (if x3.length < 17592186044416 then (impl_unitsOf.l0 k x0 (x3 ++ [x4]) (wrap64 (x4 + 1))) else (none)) else (impl_unitsOf.l0 k x0 x3 (wrap64 (x4 + 1))))) else (some x3)
def impl_unitsOf.f (k : Nat) (a0 : Int) : Option (List Int) := impl_unitsOf.l0 k a0 (([] : List Int)) 1
set_option maxHeartbeats 8000000 in
set_option maxRecDepth 100000 in
theorem impl_unitsOf.calls (k : Nat) (a0 : Int) (r : List Int) (w : World) (h : impl_unitsOf.f k a0 = some r) :
  Calls Try.prog 268 #[.int .i64 a0] w fun e w' => ∃ v0_ : Value, e = .returned (v0_) ∧ Kd.R (Kd.int .i64) 2 w' w.heap.size (fun _ => True) v0_ r ∧ Below w.heap.size w w' := by
 have HB := Aside0.mk (Below.refl w.heap.size w)
 have H : (impl_unitsOf.l0 k a0 (([] : List Int)) 1) = some r := h
 clear h
 obtain ⟨y549, hy549⟩ : ∃ y_ : List Int, y_ = (([] : List Int)) := ⟨_, rfl⟩
 replace H : (impl_unitsOf.l0 k a0 y549 1) = some r := by first | (rw [hy549]; with_reducible exact H) | (rw [hy549]; with_reducible exact (bs H :)) | with_reducible exact (bs H :) | exact H
 have Ny549 := Aside0.mk hy549
 clear hy549
 have H' := Aside0.mk H
 clear H
 go_enter Try.func268, Try.ntmps268
 go_wp2_with (first | ((with_reducible refine gate_dst (N := 5) rfl ?_); refine Kd.R_lit (Kd.int .i64) _ 2 ?hg (N := 5) ?hd (xs := ([] : List Int)) (inner := []) (ok := fun _ => True) (okp := fun _ => True) ?hr ?hp (fun _ hk => hk) trivial (Below.refl _ _) (Nat.le_refl _) (by simp) ?_; (case hd => rfl); (case hg => rfl); (case hr => first | (go_simp; done) | (go_simp; rfl)); (case hp => exact (Reps.none _ _)); intro v550 w2 ho3 hb hg_ hnew_; clear hg_ hnew_; (first | rw [← Ny549.out] at ho3 | (simp only [Int.reduceToNat] at ho3; rw [← Ny549.out] at ho3)); have HO551 := Aside0.mk (Kd.R_lower ho3 (below_size tb)); replace HB := Aside0.mk (below_step tb hb); clear hb ho3))
 go_loopg [3, 4] k (fun kq v3 v4 w' => ∃ (x3_1 : List Int) (x4_1 : Int), v4 = .int .i64 x4_1 ∧ Aside0 (impl_unitsOf.l0 kq a0 x3_1 x4_1 = some r) ∧ Aside0 (kq ≤ k) ∧ Aside0 (Kd.R (Kd.int .i64) 2 w' w.heap.size (fun _ => True) v3 x3_1) ∧ Aside0 (Below w.heap.size w w'))
 case atStart => exact ⟨(y549), (1), (by first | rfl | (simp; done) | (simp [*]; done)), H', ⟨Nat.le_refl _⟩, ⟨kR HO551.out⟩, ⟨tb⟩⟩
 case round =>
  clear H'
  try clear c2
  try clear p2
  obtain ⟨x3_1, x4_1, rfl, HA, HK1, HO_3, HB⟩ := hrel
  cases gk with
  | zero => exact absurd HA.out (by simp [impl_unitsOf.l0])
  | succ k1 =>
   have H := HA.out
   clear HA
   simp only [impl_unitsOf.l0] at H
   by_cases c4 : x4_1 ≤ a0
   ·rw [if_pos c4] at H
    have c4b0 : decide (x4_1 ≤ a0) = true := decide_eq_true c4
    clear c4
    replace H := Option.bind_eq_some_iff.mp H
    obtain ⟨t552, A50, H⟩ := H
    replace H : (if t552 = true then (if x3_1.length < 17592186044416 then (impl_unitsOf.l0 k1 a0 (x3_1 ++ [x4_1]) (wrap64 (x4_1 + 1))) else (none)) else (impl_unitsOf.l0 k1 a0 x3_1 (wrap64 (x4_1 + 1)))) = some r := H
    have A5 := Aside0.mk A50
    clear A50
    by_cases c6 : t552 = true
    ·subst c6
     have H1 : (if x3_1.length < 17592186044416 then (impl_unitsOf.l0 k1 a0 (x3_1 ++ [x4_1]) (wrap64 (x4_1 + 1))) else (none)) = some r := by rw [if_pos rfl] at H; exact H
     clear H
     have H := H1
     clear H1
     by_cases c7 : x3_1.length < 17592186044416
     ·rw [if_pos c7] at H
      have LMc7 := Aside0.mk c7
      clear c7
      obtain ⟨y553, hy553⟩ : ∃ y_ : List Int, y_ = (x3_1 ++ [x4_1]) := ⟨_, rfl⟩
      replace H : (impl_unitsOf.l0 k1 a0 y553 (wrap64 (x4_1 + 1))) = some r := by first | (rw [hy553]; with_reducible exact H) | (rw [hy553]; with_reducible exact (bs H :)) | with_reducible exact (bs H :) | exact H
      have Ny553 := Aside0.mk hy553
      clear hy553
      have H' := Aside0.mk H
      clear H
      go_wp2_with (first | ((with_reducible refine gate_callee (f := 179) rfl ?_); refine goesL_ (some 13) rfl rfl Try.func179 (by kernel_rfl) rfl #[.int .i64 x4_1, .int .i64 a0] rfl ar ?_; (with_reducible refine (impl_isPrimeTo.calls k1 x4_1 a0 true _ A5.out).mono ?_); rintro e w8 ⟨rfl, hb⟩; refine ⟨_, rfl, ?_⟩; replace HO_3 := Aside0.mk (Kd.R_below (kR HO_3.out) hb); replace HB := Aside0.mk (below_step tb hb); (try clear hb); (try clear hb2); (try clear hk); (try clear hi)) | ((with_reducible refine gate_builtin (b := .append) (xs := #[.tmp 14, .tmp 16]) rfl ?_); at_builtin; refine Kd.R_append (Kd.int .i64) (w0 := w) w.heap.size rfl (.tmp 14) (.tmp 16) 27 2 (.int .i64 0) 8 rfl Try.underlying27 info2 rfl (by decide) (by omega) u3 x3_1 x4_1 [.int .i64 x4_1] (fun _ => True) (fun _ => False) rfl rfl ?aP (fun _ hk => hk.elim) ?aF ?aO ?aB ?aS ?aL ?_; (case aP => exact rfl); (case aB => exact tb); (case aF => exact (fun _ _ => trivial)); (case aO => exact (kR HO_3.out)); (case aS => exact (below_size tb)); (case aL => have := LMc7.out; omega); intro v554 w9 ho hb hg hat; rw [← Ny553.out] at ho; have n0_ := Aside0.mk (hb); have n1_ := Aside0.mk (ho); clear HB; clear HO_3; have HB := n0_; have HO555 := n1_; clear n0_ n1_; clear ho hb hg hat))
      go_roundg k1
      case measure => have := HK1.out; omega
      case rel => exact ⟨(y553), (wrap64 (x4_1 + 1)), (by first | rfl | (simp; done) | (simp [*]; done)), H', ⟨by have := HK1.out; omega⟩, ⟨kR HO555.out⟩, ⟨tb⟩⟩
     ·rw [if_neg c7] at H
      exact absurd H (by simp)
    ·replace c6 := Bool.eq_false_iff.mpr c6
     subst c6
     have H1 : (impl_unitsOf.l0 k1 a0 x3_1 (wrap64 (x4_1 + 1))) = some r := by rw [if_neg (show ¬ (false = true) by decide)] at H; exact H
     clear H
     have H := H1
     clear H1
     have H' := Aside0.mk H
     clear H
     go_wp2_with (first | ((with_reducible refine gate_callee (f := 179) rfl ?_); refine goesL_ (some 13) rfl rfl Try.func179 (by kernel_rfl) rfl #[.int .i64 x4_1, .int .i64 a0] rfl ar ?_; (with_reducible refine (impl_isPrimeTo.calls k1 x4_1 a0 false _ A5.out).mono ?_); rintro e w10 ⟨rfl, hb⟩; refine ⟨_, rfl, ?_⟩; replace HO_3 := Aside0.mk (Kd.R_below (kR HO_3.out) hb); replace HB := Aside0.mk (below_step tb hb); (try clear hb); (try clear hb2); (try clear hk); (try clear hi)))
     go_roundg k1
     case measure => have := HK1.out; omega
     case rel => exact ⟨(x3_1), (wrap64 (x4_1 + 1)), (by first | rfl | (simp; done) | (simp [*]; done)), H', ⟨by have := HK1.out; omega⟩, ⟨kR HO_3.out⟩, ⟨tb⟩⟩
   ·rw [if_neg c4] at H
    have c4b0 : decide (x4_1 ≤ a0) = false := decide_eq_false c4
    clear c4
    obtain rfl := Option.some.inj H
    go_wp2
    go_ret
    exact ⟨_, by first | rfl | (simp [errW_none, errW_some] <;> rfl) | (simp [*, errW_none, errW_some] <;> rfl), kR HO_3.out, tb⟩

/-! ### impl_field_images: function 219 -/
def impl_field_images.l0 : Nat → List Int → List (List Int) → List Int → Int → Int → Int → Int → List (List Int) → Option ((List (List Int)))
 | 0, _, _, _, _, _, _, _, _ => none
 | k + 1, x1, x5, x13, x14, x15, x1000, x1001, x1002 => if x15 < x14 then (if 0 ≤ x15 then (if x15 < (x13.length : Int) then ((impl_field_image.f k x1000 x1001 x1002 x1 (rd x13 x15)).bind fun t563 => (if x5.length < 5864062014805 then (impl_field_images.l0 k x1 (x5 ++ [t563]) x13 x14 (wrap64 (x15 + 1)) x1000 x1001 x1002) else (none))) else (none)) else (none)) else (some x5)
def impl_field_images.f (k : Nat) (a0_0 : Int) (a0_1 : Int) (l0_2 : List (List Int)) (l1 : List Int) : Option ((List (List Int))) := (impl_unitsOf.f k a0_0).bind fun t559 => (impl_field_images.l0 k l1 (([] : List (List Int))) t559 (t559.length : Int) 0 a0_0 a0_1 l0_2)
set_option maxHeartbeats 8000000 in
set_option maxRecDepth 100000 in
theorem impl_field_images.calls (k : Nat) (g0 : Nat) (a0_0 : Int) (a0_1 : Int) (A0_2 : Option Addr) (c0_2 : Nat) (l0_2 : List (List Int)) (A1 : Option Addr) (c1 : Nat) (l1 : List Int) (r : List (List Int)) (w : World) (hg0 : w.heap[g0]? = some (.cells #[.int .i64 a0_0, .int .i64 a0_1, .slice A0_2 l0_2.length c0_2] 117 (0, 0))) (hr0_2 : Kd.C (Kd.slice 2 (Kd.int .i64)) w A0_2 l0_2.length l0_2) (hc0_2 : l0_2.length ≤ c0_2) (hr1 : Kd.C (Kd.int .i64) w A1 l1.length l1) (hc1 : l1.length ≤ c1) (h : impl_field_images.f k a0_0 a0_1 l0_2 l1 = some r) :
  Calls Try.prog 219 #[.pointer (some ⟨g0, 0, none⟩), .slice A1 l1.length c1] w fun e w' => ∃ v0_ : Value, e = .returned (v0_) ∧ Kd.S (Kd.slice 2 (Kd.int .i64)) 27 w' w.heap.size (fun _ => True) v0_ r ∧ Below w.heap.size w w' := by
 have HR0_2 := Aside0.mk hr0_2
 have HC0_2 := Aside0.mk hc0_2
 clear hr0_2 hc0_2
 have HR1 := Aside0.mk hr1
 have HC1 := Aside0.mk hc1
 clear hr1 hc1
 have BK0 := Aside0.mk hg0
 clear hg0
 have HB := Aside0.mk (Below.refl w.heap.size w)
 have H : ((impl_unitsOf.f k a0_0).bind fun t559 => (impl_field_images.l0 k l1 (([] : List (List Int))) t559 (t559.length : Int) 0 a0_0 a0_1 l0_2)) = some r := h
 clear h
 obtain ⟨y556, hy556⟩ : ∃ y_ : List (List Int), y_ = (([] : List (List Int))) := ⟨_, rfl⟩
 replace H : ((impl_unitsOf.f k a0_0).bind fun t559 => (impl_field_images.l0 k l1 y556 t559 (t559.length : Int) 0 a0_0 a0_1 l0_2)) = some r := by first | (rw [hy556]; with_reducible exact H) | (rw [hy556]; with_reducible exact (bs H :)) | with_reducible exact (bs H :) | exact H
 have Ny556 := Aside0.mk hy556
 clear hy556
 replace H := Option.bind_eq_some_iff.mp H
 obtain ⟨t559, A30, H⟩ := H
 replace H : (impl_field_images.l0 k l1 y556 t559 (t559.length : Int) 0 a0_0 a0_1 l0_2) = some r := H
 have A3 := Aside0.mk A30
 clear A30
 have H' := Aside0.mk H
 clear H
 go_enter Try.func219, Try.ntmps219
 go_wp2_with (first | ((with_reducible refine gate_dst (N := 8) rfl ?_); refine Kd.S_lit (Kd.slice 2 (Kd.int .i64)) _ 27 ?hg (N := 8) ?hd (xs := ([] : List (List Int))) (inner := []) (ok := fun _ => True) (okp := fun _ => True) ?hr ?hp (fun _ hk => hk) trivial (Below.refl _ _) (Nat.le_refl _) (by simp) ?_; (case hd => rfl); (case hg => rfl); (case hr => first | (go_simp; done) | (go_simp; rfl)); (case hp => exact (Reps.none _ _)); intro v557 w4 ho5 hb hg_ hnew_; clear hg_ hnew_; (first | rw [← Ny556.out] at ho5 | (simp only [Int.reduceToNat] at ho5; rw [← Ny556.out] at ho5)); have HO558 := Aside0.mk (Kd.S_lower ho5 (below_size tb)); replace BK0 := Aside0.mk (blk_below (kb BK0.out) hb); replace HB := Aside0.mk (below_step tb hb); clear hb ho5; have hcz6_0 : w4.cell? ⟨g0, 0, none⟩ = some (.int .i64 a0_0) := (blk_cell BK0.out 0).trans rfl; have hcz6_1 : w4.cell? ⟨g0, 1, none⟩ = some (.int .i64 a0_1) := (blk_cell BK0.out 1).trans rfl; have hcz6_2 : w4.cell? ⟨g0, 2, none⟩ = some (.slice A0_2 l0_2.length c0_2) := (blk_cell BK0.out 2).trans rfl; have hfz6_0 := blk_frozen BK0.out 0; have hfz6_1 := blk_frozen BK0.out 1; have hfz6_2 := blk_frozen BK0.out 2) | ((with_reducible refine gate_callee (f := 268) rfl ?_); refine goesL_ (some 13) rfl rfl Try.func268 (by kernel_rfl) rfl #[.int .i64 a0_0] rfl ar ?_; (with_reducible refine (impl_unitsOf.calls k a0_0 t559 _ A3.out).mono ?_); rintro e w7 ⟨v560, rfl, ho0, hb⟩; refine ⟨_, rfl, ?_⟩; replace HO558 := Aside0.mk (Kd.S_elder' (kS HO558.out) (Kd.R_base ho0) hb); have HO561 := Aside0.mk (Kd.R_lower ho0 (below_size tb)); replace BK0 := Aside0.mk (blk_below (kb BK0.out) hb); replace HB := Aside0.mk (below_step tb hb); (try clear hb); (try clear hb2); (try clear hk); (try clear hi); (try clear ho0); obtain ⟨Ao8, co8, eo8⟩ := Kd.R_slice HO561.out; subst eo8))
 go_loopg [5, 15] k (fun kq v5 v15 w' => ∃ (x5_1 : List (List Int)) (x15_1 : Int) (x1000_1 : Int) (x1001_1 : Int), v15 = .int .i64 x15_1 ∧ Aside0 (impl_field_images.l0 kq l1 x5_1 t559 (t559.length : Int) x15_1 x1000_1 x1001_1 l0_2 = some r) ∧ Aside0 (kq ≤ k) ∧ Aside0 (Kd.S (Kd.slice 2 (Kd.int .i64)) 27 w' w.heap.size (fun k_ => some k_ ≠ ((.slice Ao8 t559.length co8) : Value).ownBlock) v5 x5_1) ∧ Aside0 (Kd.R (Kd.int .i64) 2 w' w.heap.size (fun _ => True) (.slice Ao8 t559.length co8) t559) ∧ Aside0 (w'.heap[g0]? = some (.cells #[.int .i64 x1000_1, .int .i64 x1001_1, (.slice A0_2 l0_2.length c0_2)] 117 (0, 0))) ∧ Aside0 (Below w.heap.size w w'))
 case atStart => exact ⟨(y556), (0), (a0_0), (a0_1), (by first | rfl | (simp; done) | (simp [*]; done)), H', ⟨Nat.le_refl _⟩, ⟨by (with_reducible repeat (first | apply Kd.S_alloc | apply Kd.S_drewN | apply Kd.S_drew)); exact Kd.S_mono HO558.out (fun _ hk => hk.2)⟩, ⟨kR HO561.out⟩, ⟨kb BK0.out⟩, ⟨tb⟩⟩
 case round =>
  clear H'
  try clear c1
  try clear c2
  try clear p2
  try clear hcz6_0
  try clear hcz6_1
  try clear hcz6_2
  try clear hfz6_0
  try clear hfz6_1
  try clear hfz6_2
  obtain ⟨x5_1, x15_1, x1000_1, x1001_1, rfl, HA, HK1, HO_5, HO_13, BK0, HB⟩ := hrel
  cases gk with
  | zero => exact absurd HA.out (by simp [impl_field_images.l0])
  | succ k1 =>
   have H := HA.out
   clear HA
   simp only [impl_field_images.l0] at H
   by_cases c9 : x15_1 < (t559.length : Int)
   ·rw [if_pos c9] at H
    have c9b0 : decide (x15_1 < (t559.length : Int)) = true := decide_eq_true c9
    clear c9
    by_cases c10 : 0 ≤ x15_1
    ·rw [if_pos c10] at H
     have c10b0 : decide (0 ≤ x15_1) = true := decide_eq_true c10
     clear c10
     by_cases c11 : x15_1 < (t559.length : Int)
     ·rw [if_pos c11] at H
      have c11b0 : decide (x15_1 < (t559.length : Int)) = true := decide_eq_true c11
      clear c11
      replace H := Option.bind_eq_some_iff.mp H
      obtain ⟨t563, A120, H⟩ := H
      replace H : (if x5_1.length < 5864062014805 then (impl_field_images.l0 k1 l1 (x5_1 ++ [t563]) t559 (t559.length : Int) (wrap64 (x15_1 + 1)) x1000_1 x1001_1 l0_2) else (none)) = some r := H
      have A12 := Aside0.mk A120
      clear A120
      by_cases c13 : x5_1.length < 5864062014805
      ·rw [if_pos c13] at H
       have LMc13 := Aside0.mk c13
       clear c13
       obtain ⟨y566, hy566⟩ : ∃ y_ : List (List Int), y_ = (x5_1 ++ [t563]) := ⟨_, rfl⟩
       replace H : (impl_field_images.l0 k1 l1 y566 t559 (t559.length : Int) (wrap64 (x15_1 + 1)) x1000_1 x1001_1 l0_2) = some r := by first | (rw [hy566]; with_reducible exact H) | (rw [hy566]; with_reducible exact (bs H :)) | with_reducible exact (bs H :) | exact H
       have Ny566 := Aside0.mk hy566
       clear hy566
       have H' := Aside0.mk H
       clear H
       have p562 : 0 ≤ (x15_1 : Int) := od
       have q562 : x15_1 < (t559.length : Int) := od
       obtain ⟨ad562, e562, hx562_0⟩ := Kd.at_int (Kd.R_reads' HO_13.out).2.2 x15_1 p562 q562
       cases e562
       replace p562 := eq_true p562
       replace q562 := eq_true q562
       go_wp2_with (first | ((with_reducible refine gate_callee (f := 149) rfl ?_); refine goesL_ (some 23) rfl rfl Try.func149 (by kernel_rfl) rfl #[.pointer (some ⟨g0, 0, none⟩), .slice A1 l1.length c1, .int .i64 (rd t559 x15_1)] rfl ar ?_; (with_reducible refine (impl_field_image.calls k1 g0 x1000_1 x1001_1 A0_2 c0_2 l0_2 _ _ l1 (rd t559 x15_1) t563 _ ?side1 ?side2 ?side3 ?side4 ?side5 A12.out).mono ?_); (case side1 => exact kb BK0.out); (case side2 => exact kC (Kd.C_below HR0_2.out HB.out)); (case side3 => exact HC0_2.out); (case side4 => exact kC (Kd.C_below HR1.out HB.out)); (case side5 => exact HC1.out); rintro e w14 ⟨v564, rfl, ho0, hb⟩; refine ⟨_, rfl, ?_⟩; replace HO_5 := Aside0.mk (Kd.S_elder' (kS HO_5.out) (Kd.R_base ho0) hb); have HO565 := Aside0.mk (Kd.R_lower (Kd.R_new' ho0 (Kd.R_lt (kR HO_13.out))) (below_size tb)); replace HO_13 := Aside0.mk (Kd.R_elder' (kR HO_13.out) (Kd.R_base ho0) hb); replace BK0 := Aside0.mk (blk_below (kb BK0.out) hb); replace HB := Aside0.mk (below_step tb hb); (try clear hb); (try clear hb2); (try clear hk); (try clear hi); (try clear ho0); obtain ⟨Ao16, co16, eo16⟩ := Kd.R_slice HO565.out; subst eo16) | ((with_reducible refine gate_builtin (b := .append) (xs := #[.tmp 19, .tmp 24]) rfl ?_); at_builtin; refine Kd.S_append (Kd.slice 2 (Kd.int .i64)) (w0 := w) w.heap.size rfl (.tmp 19) (.tmp 24) 50 27 (.slice none 0 0) 24 rfl Try.underlying50 info27 rfl (by decide) (by omega) u5 x5_1 t563 [.slice Ao16 t563.length co16] (fun k_ => some k_ ≠ (.slice (some ad562) t559.length co8 : Value).ownBlock) (fun k_ => some k_ = (.slice Ao16 t563.length co16 : Value).ownBlock) rfl rfl ?aP (fun k_ hk_ => ((Kd.R_mono (ok' := fun k_ => ((fun k_ => some k_ ≠ (.slice (some ad562) t559.length co8 : Value).ownBlock)) k_ ∧ some k_ ≠ (u5 : Value).ownBlock) (Kd.R_apart' (HO565.out) (Kd.S_typed HO_5.out) (by decide)) (fun k_ hk => ⟨hk.1.2, hk.2⟩))).1 k_ hk_.symm) ?aF ?aO ?aB ?aS ?aL ?_; (case aP => exact Kd.M_row (Kd.R_mono (Kd.R_tight rfl (Kd.R_mono (ok' := fun k_ => ((fun k_ => some k_ ≠ (.slice (some ad562) t559.length co8 : Value).ownBlock)) k_ ∧ some k_ ≠ (u5 : Value).ownBlock) (Kd.R_apart' (HO565.out) (Kd.S_typed HO_5.out) (by decide)) (fun k_ hk => ⟨hk.1.2, hk.2⟩))) (fun _ h_ => h_))); (case aB => exact tb); (case aF => exact (fun k_ hk => Kd.fresh' (Kd.R_lt (kR HO_13.out)) k_ hk)); (case aO => exact (by (with_reducible repeat (first | apply Kd.S_alloc | apply Kd.S_drewN | apply Kd.S_drew)); exact Kd.S_mono HO_5.out (fun k_ hk => ⟨hk.1, fun e_ => hk.2 e_⟩))); (case aS => exact (below_size tb)); (case aL => have := LMc13.out; omega); intro v567 w15 ho hb hg hat; rw [← Ny566.out] at ho; have n0_ := Aside0.mk (Kd.R_over' (kR HO_13.out) (Kd.S_typed (kS HO_5.out)) (by decide) hg); have n1_ := Aside0.mk (blk_grown (kb BK0.out) hg (Kd.S_ne HO_5.out BK0.out (by decide))); have n2_ := Aside0.mk (hb); have n3_ := Aside0.mk (ho); clear HO_13; clear BK0; clear HB; clear HO_5; clear HO565; have HO_13 := n0_; have BK0 := n1_; have HB := n2_; have HO568 := n3_; clear n0_ n1_ n2_ n3_; clear ho hb hg hat))
       go_roundg k1
       case measure => have := HK1.out; omega
       case rel => exact ⟨(y566), (wrap64 (x15_1 + 1)), (x1000_1), (x1001_1), (by first | rfl | (simp; done) | (simp [*]; done)), H', ⟨by have := HK1.out; omega⟩, ⟨kS HO568.out⟩, ⟨by (with_reducible repeat (first | apply Kd.R_alloc | apply Kd.R_drewN | apply Kd.R_drew)); exact Kd.R_mono HO_13.out (fun _ hk => trivial)⟩, ⟨kb BK0.out⟩, ⟨tb⟩⟩
      ·rw [if_neg c13] at H
       exact absurd H (by simp)
     ·rw [if_neg c11] at H
      exact absurd H (by simp)
    ·rw [if_neg c10] at H
     exact absurd H (by simp)
   ·rw [if_neg c9] at H
    have c9b0 : decide (x15_1 < (t559.length : Int)) = false := decide_eq_false c9
    clear c9
    obtain rfl := Option.some.inj H
    go_wp2
    go_ret
    exact ⟨_, by first | rfl | (simp [errW_none, errW_some] <;> rfl) | (simp [*, errW_none, errW_some] <;> rfl), by (with_reducible repeat (first | apply Kd.S_alloc | apply Kd.S_drewN | apply Kd.S_drew)); exact Kd.S_mono HO_5.out (fun _ hk => trivial), tb⟩

/-! ### impl_field_norm: function 114 -/
def impl_field_norm.f (k : Nat) (a0_0 : Int) (a0_1 : Int) (l0_2 : List (List Int)) (l1 : List Int) : Option (Int × Bool) := (impl_field_images.f k a0_0 a0_1 l0_2 l1).bind fun t569 => ((impl_field_all.f k a0_0 a0_1 l0_2 t569).bind fun bt572 => (if bt572.2 = true then (if 0 < (bt572.1.length : Int) then (some (rd bt572.1 0, true)) else (none)) else (some (0, false))))
set_option maxHeartbeats 8000000 in
set_option maxRecDepth 100000 in
theorem impl_field_norm.calls (k : Nat) (g0 : Nat) (a0_0 : Int) (a0_1 : Int) (A0_2 : Option Addr) (c0_2 : Nat) (l0_2 : List (List Int)) (A1 : Option Addr) (c1 : Nat) (l1 : List Int) (r1 : Int) (r2 : Bool) (w : World) (hg0 : w.heap[g0]? = some (.cells #[.int .i64 a0_0, .int .i64 a0_1, .slice A0_2 l0_2.length c0_2] 117 (0, 0))) (hr0_2 : Kd.C (Kd.slice 2 (Kd.int .i64)) w A0_2 l0_2.length l0_2) (hc0_2 : l0_2.length ≤ c0_2) (hr1 : Kd.C (Kd.int .i64) w A1 l1.length l1) (hc1 : l1.length ≤ c1) (h : impl_field_norm.f k a0_0 a0_1 l0_2 l1 = some (r1, r2)) :
  Calls Try.prog 114 #[.pointer (some ⟨g0, 0, none⟩), .slice A1 l1.length c1] w fun e w' => e = .returned (.tuple #[.int .i64 r1, .bool r2]) ∧ Below w.heap.size w w' := by
 have HR0_2 := Aside0.mk hr0_2
 have HC0_2 := Aside0.mk hc0_2
 clear hr0_2 hc0_2
 have HR1 := Aside0.mk hr1
 have HC1 := Aside0.mk hc1
 clear hr1 hc1
 have BK0 := Aside0.mk hg0
 clear hg0
 have HB := Aside0.mk (Below.refl w.heap.size w)
 have H : ((impl_field_images.f k a0_0 a0_1 l0_2 l1).bind fun t569 => ((impl_field_all.f k a0_0 a0_1 l0_2 t569).bind fun bt572 => (if bt572.2 = true then (if 0 < (bt572.1.length : Int) then (some (rd bt572.1 0, true)) else (none)) else (some (0, false))))) = some (r1, r2) := h
 clear h
 replace H := Option.bind_eq_some_iff.mp H
 obtain ⟨t569, A30, H⟩ := H
 replace H : ((impl_field_all.f k a0_0 a0_1 l0_2 t569).bind fun bt572 => (if bt572.2 = true then (if 0 < (bt572.1.length : Int) then (some (rd bt572.1 0, true)) else (none)) else (some (0, false)))) = some (r1, r2) := H
 have A3 := Aside0.mk A30
 clear A30
 replace H := Option.bind_eq_some_iff.mp H
 obtain ⟨⟨t572, t573⟩, A40, H⟩ := H
 replace H : (if t573 = true then (if 0 < (t572.length : Int) then (some (rd t572 0, true)) else (none)) else (some (0, false))) = some (r1, r2) := H
 have A4 := Aside0.mk A40
 clear A40
 by_cases c5 : t573 = true
 ·subst c5
  have H1 : (if 0 < (t572.length : Int) then (some (rd t572 0, true)) else (none)) = some (r1, r2) := by rw [if_pos rfl] at H; exact H
  clear H
  have H := H1
  clear H1
  by_cases c6 : 0 < (t572.length : Int)
  ·rw [if_pos c6] at H
   have c6b0 : decide (0 < (t572.length : Int)) = true := decide_eq_true c6
   have c6b1 : decide (0 < t572.length) = true := decide_eq_true (by omega)
   clear c6
   simp only [Option.some.injEq, Prod.mk.injEq] at H
   obtain ⟨rfl, rfl⟩ := H
   go_enter Try.func114, Try.ntmps114
   go_wp2_with (first | ((with_reducible refine gate_callee (f := 219) rfl ?_); refine goesL_ (some 12) rfl rfl Try.func219 (by kernel_rfl) rfl #[.pointer (some ⟨g0, 0, none⟩), .slice A1 l1.length c1] rfl ar ?_; (with_reducible refine (impl_field_images.calls k g0 a0_0 a0_1 A0_2 c0_2 l0_2 _ _ l1 t569 _ ?side1 ?side2 ?side3 ?side4 ?side5 A3.out).mono ?_); (case side1 => exact kb BK0.out); (case side2 => exact kC HR0_2.out); (case side3 => exact HC0_2.out); (case side4 => exact kC HR1.out); (case side5 => exact HC1.out); rintro e w7 ⟨v570, rfl, ho0, hb⟩; refine ⟨_, rfl, ?_⟩; have HO571 := Aside0.mk (Kd.S_lower ho0 (below_size tb)); replace BK0 := Aside0.mk (blk_below (kb BK0.out) hb); replace HB := Aside0.mk (below_step tb hb); (try clear hb); (try clear hb2); (try clear hk); (try clear hi); (try clear ho0); obtain ⟨Ao8, co8, eo8⟩ := Kd.S_slice HO571.out; subst eo8) | ((with_reducible refine gate_callee (f := 218) rfl ?_); refine goesL_ (some 13) rfl rfl Try.func218 (by kernel_rfl) rfl #[.pointer (some ⟨g0, 0, none⟩), .slice Ao8 t569.length co8] rfl ar ?_; (with_reducible refine (impl_field_all.calls k g0 a0_0 a0_1 A0_2 c0_2 l0_2 _ _ t569 t572 true _ ?side1 ?side2 ?side3 ?side4 ?side5 A4.out).mono ?_); (case side1 => exact kb BK0.out); (case side2 => exact kC (Kd.C_below HR0_2.out HB.out)); (case side3 => exact HC0_2.out); (case side4 => exact kC (Kd.S_reads' HO571.out).2.2); (case side5 => exact (Kd.S_reads' HO571.out).2.1); rintro e w9 ⟨v574, rfl, ho0, hb⟩; refine ⟨_, rfl, ?_⟩; replace HO571 := Aside0.mk (Kd.S_elder' (kS HO571.out) (Kd.R_base ho0) hb); have HO575 := Aside0.mk (Kd.R_lower ho0 (below_size tb)); replace BK0 := Aside0.mk (blk_below (kb BK0.out) hb); replace HB := Aside0.mk (below_step tb hb); (try clear hb); (try clear hb2); (try clear hk); (try clear hi); (try clear ho0); obtain ⟨Ao10, co10, eo10⟩ := Kd.R_slice HO575.out; subst eo10; have p576 : 0 ≤ (0 : Int) := (by omega); have q576 : 0 < (t572.length : Int) := od; obtain ⟨ad576, e576, hx576_0⟩ := Kd.at_int (Kd.R_reads' HO575.out).2.2 0 p576 q576; cases e576; have qi576 : (0 < t572.length) = True := eq_true (by omega); (try rw [show ((0 : Int)).toNat = 0 from rfl] at hx576_0); (try rw [Addr.add_zero'] at hx576_0); replace p576 := eq_true p576; replace q576 := eq_true q576))
   go_ret2
   exact ⟨by first | rfl | (simp [errW_none, errW_some] <;> rfl) | (simp [*, errW_none, errW_some] <;> rfl), tb⟩
  ·rw [if_neg c6] at H
   exact absurd H (by simp)
 ·replace c5 := Bool.eq_false_iff.mpr c5
  subst c5
  have H1 : (some (0, false)) = some (r1, r2) := by rw [if_neg (show ¬ (false = true) by decide)] at H; exact H
  clear H
  have H := H1
  clear H1
  simp only [Option.some.injEq, Prod.mk.injEq] at H
  obtain ⟨rfl, rfl⟩ := H
  go_enter Try.func114, Try.ntmps114
  go_wp2_with (first | ((with_reducible refine gate_callee (f := 219) rfl ?_); refine goesL_ (some 12) rfl rfl Try.func219 (by kernel_rfl) rfl #[.pointer (some ⟨g0, 0, none⟩), .slice A1 l1.length c1] rfl ar ?_; (with_reducible refine (impl_field_images.calls k g0 a0_0 a0_1 A0_2 c0_2 l0_2 _ _ l1 t569 _ ?side1 ?side2 ?side3 ?side4 ?side5 A3.out).mono ?_); (case side1 => exact kb BK0.out); (case side2 => exact kC HR0_2.out); (case side3 => exact HC0_2.out); (case side4 => exact kC HR1.out); (case side5 => exact HC1.out); rintro e w11 ⟨v570, rfl, ho0, hb⟩; refine ⟨_, rfl, ?_⟩; have HO571 := Aside0.mk (Kd.S_lower ho0 (below_size tb)); replace BK0 := Aside0.mk (blk_below (kb BK0.out) hb); replace HB := Aside0.mk (below_step tb hb); (try clear hb); (try clear hb2); (try clear hk); (try clear hi); (try clear ho0); obtain ⟨Ao12, co12, eo12⟩ := Kd.S_slice HO571.out; subst eo12) | ((with_reducible refine gate_callee (f := 218) rfl ?_); refine goesL_ (some 13) rfl rfl Try.func218 (by kernel_rfl) rfl #[.pointer (some ⟨g0, 0, none⟩), .slice Ao12 t569.length co12] rfl ar ?_; (with_reducible refine (impl_field_all.calls k g0 a0_0 a0_1 A0_2 c0_2 l0_2 _ _ t569 t572 false _ ?side1 ?side2 ?side3 ?side4 ?side5 A4.out).mono ?_); (case side1 => exact kb BK0.out); (case side2 => exact kC (Kd.C_below HR0_2.out HB.out)); (case side3 => exact HC0_2.out); (case side4 => exact kC (Kd.S_reads' HO571.out).2.2); (case side5 => exact (Kd.S_reads' HO571.out).2.1); rintro e w13 ⟨v574, rfl, ho0, hb⟩; refine ⟨_, rfl, ?_⟩; replace HO571 := Aside0.mk (Kd.S_elder' (kS HO571.out) (Kd.R_base ho0) hb); have HO575 := Aside0.mk (Kd.R_lower ho0 (below_size tb)); replace BK0 := Aside0.mk (blk_below (kb BK0.out) hb); replace HB := Aside0.mk (below_step tb hb); (try clear hb); (try clear hb2); (try clear hk); (try clear hi); (try clear ho0)))
  go_ret2
  exact ⟨by first | rfl | (simp [errW_none, errW_some] <;> rfl) | (simp [*, errW_none, errW_some] <;> rfl), tb⟩

/-! ### impl_NormOf: function 22 -/
def impl_NormOf.f (k : Nat) (a0_0 : Int) (l0_1 : List Int) : Option (Int × Int) := (impl_IsCyclo.f k a0_0 l0_1).bind fun t578 => (if t578 = true then ((impl_fieldOf.f k a0_0).bind fun bt579 => ((impl_field_norm.f k bt579.1 bt579.2.1 bt579.2.2 l0_1).bind fun bt585 => (if bt585.2 = true then (some (bt585.1, 0)) else (some (0, 3))))) else (some (0, 1)))
set_option maxHeartbeats 8000000 in
set_option maxRecDepth 100000 in
theorem impl_NormOf.calls (k : Nat) (a0_0 : Int) (A0_1 : Option Addr) (c0_1 : Nat) (l0_1 : List Int) (r1 : Int) (r2 : Int) (w : World) (hr0_1 : Kd.C (Kd.int .i64) w A0_1 l0_1.length l0_1) (hc0_1 : l0_1.length ≤ c0_1) (h : impl_NormOf.f k a0_0 l0_1 = some (r1, r2)) :
  Calls Try.prog 22 #[.agg #[.int .i64 a0_0, .slice A0_1 l0_1.length c0_1]] w fun e w' => e = .returned (.tuple #[.int .i64 r1, .int .i64 r2]) ∧ Below w.heap.size w w' := by
 have hu32 := Try.underlying32
 have hu117 := Try.underlying117
 have HR0_1 := Aside0.mk hr0_1
 have HC0_1 := Aside0.mk hc0_1
 clear hr0_1 hc0_1
 have HB := Aside0.mk (Below.refl w.heap.size w)
 have H : ((impl_IsCyclo.f k a0_0 l0_1).bind fun t578 => (if t578 = true then ((impl_fieldOf.f k a0_0).bind fun bt579 => ((impl_field_norm.f k bt579.1 bt579.2.1 bt579.2.2 l0_1).bind fun bt585 => (if bt585.2 = true then (some (bt585.1, 0)) else (some (0, 3))))) else (some (0, 1)))) = some (r1, r2) := h
 clear h
 replace H := Option.bind_eq_some_iff.mp H
 obtain ⟨t578, A20, H⟩ := H
 replace H : (if t578 = true then ((impl_fieldOf.f k a0_0).bind fun bt579 => ((impl_field_norm.f k bt579.1 bt579.2.1 bt579.2.2 l0_1).bind fun bt585 => (if bt585.2 = true then (some (bt585.1, 0)) else (some (0, 3))))) else (some (0, 1))) = some (r1, r2) := H
 have A2 := Aside0.mk A20
 clear A20
 by_cases c3 : t578 = true
 ·subst c3
  have H1 : ((impl_fieldOf.f k a0_0).bind fun bt579 => ((impl_field_norm.f k bt579.1 bt579.2.1 bt579.2.2 l0_1).bind fun bt585 => (if bt585.2 = true then (some (bt585.1, 0)) else (some (0, 3))))) = some (r1, r2) := by rw [if_pos rfl] at H; exact H
  clear H
  have H := H1
  clear H1
  replace H := Option.bind_eq_some_iff.mp H
  obtain ⟨⟨t579, t580, t581⟩, A40, H⟩ := H
  replace H : ((impl_field_norm.f k t579 t580 t581 l0_1).bind fun bt585 => (if bt585.2 = true then (some (bt585.1, 0)) else (some (0, 3)))) = some (r1, r2) := H
  have A4 := Aside0.mk A40
  clear A40
  replace H := Option.bind_eq_some_iff.mp H
  obtain ⟨⟨t585, t586⟩, A50, H⟩ := H
  replace H : (if t586 = true then (some (t585, 0)) else (some (0, 3))) = some (r1, r2) := H
  have A5 := Aside0.mk A50
  clear A50
  by_cases c6 : t586 = true
  ·subst c6
   have H1 : (some (t585, 0)) = some (r1, r2) := by rw [if_pos rfl] at H; exact H
   clear H
   have H := H1
   clear H1
   simp only [Option.some.injEq, Prod.mk.injEq] at H
   obtain ⟨rfl, rfl⟩ := H
   go_enter Try.func22, Try.ntmps22
   go_wp2_with (first | ((with_reducible refine gate_dst (N := 1) rfl ?_); refine box_event ?hg (N := 1) ?hd (cs := #[.int .i64 a0_0, .slice A0_1 l0_1.length c0_1]) (t := 32) ?hr ?_; (case hd => rfl); (case hg => rfl); (case hr => first | (go_simp; done) | (go_simp; rfl)); intro gb577 hg w7 hbox hb; have BK577 := Aside0.mk (hbox); have GW577 := Aside0.mk ((by rw [hg]; exact (below_size tb) : w.heap.size ≤ gb577)); have GE577 := Aside0.mk ((by rw [hg]; exact (below_size tb) : w.heap.size ≤ gb577)); replace HB := Aside0.mk (below_step tb hb); clear hb hbox hg; have hcz8_0 : w7.cell? ⟨gb577, 0, none⟩ = some (.int .i64 a0_0) := (blk_cell BK577.out 0).trans rfl; have hcz8_1 : w7.cell? ⟨gb577, 1, none⟩ = some (.slice A0_1 l0_1.length c0_1) := (blk_cell BK577.out 1).trans rfl; have hfz8_0 := blk_frozen BK577.out 0; have hfz8_1 := blk_frozen BK577.out 1) | ((with_reducible refine gate_callee (f := 112) rfl ?_); refine goesL_ (some 8) rfl rfl Try.func112 (by kernel_rfl) rfl #[.agg #[.int .i64 a0_0, .slice A0_1 l0_1.length c0_1]] rfl ar ?_; (with_reducible refine (impl_IsCyclo.calls k a0_0 _ _ l0_1 true _ ?side1 ?side2 A2.out).mono ?_); (case side1 => exact kC (Kd.C_below HR0_1.out HB.out)); (case side2 => exact HC0_1.out); rintro e w9 ⟨rfl, hb⟩; refine ⟨_, rfl, ?_⟩; replace BK577 := Aside0.mk (blk_below (kb BK577.out) hb); replace HB := Aside0.mk (below_step tb hb); (try clear hb); (try clear hb2); (try clear hk); (try clear hi); have hcz10_0 : w9.cell? ⟨gb577, 0, none⟩ = some (.int .i64 a0_0) := (blk_cell BK577.out 0).trans rfl; have hcz10_1 : w9.cell? ⟨gb577, 1, none⟩ = some (.slice A0_1 l0_1.length c0_1) := (blk_cell BK577.out 1).trans rfl; have hfz10_0 := blk_frozen BK577.out 0; have hfz10_1 := blk_frozen BK577.out 1) | ((with_reducible refine gate_callee (f := 113) rfl ?_); refine goesL_ (some 12) rfl rfl Try.func113 (by kernel_rfl) rfl #[.int .i64 a0_0] rfl ar ?_; (with_reducible refine (impl_fieldOf.calls k a0_0 t579 t580 t581 _ A4.out).mono ?_); rintro e w11 ⟨v582, rfl, ho0, hb⟩; refine ⟨_, rfl, ?_⟩; have HO583 := Aside0.mk (Kd.N_lower (Kd.N_mono (ok' := fun k_ => k_ ≠ gb577) ho0 (fun k_ hk_ => (Kd.freshB (kb BK577.out) k_ hk_))) (below_size tb)); replace BK577 := Aside0.mk (blk_below (kb BK577.out) hb); replace HB := Aside0.mk (below_step tb hb); (try clear hb); (try clear hb2); (try clear hk); (try clear hi); (try clear ho0)) | ((with_reducible refine gate_dst (N := 4) rfl ?_); refine box_event ?hg (N := 4) ?hd (cs := #[.int .i64 0, .int .i64 0, .slice none 0 0]) (t := 117) ?hr ?_; (case hd => rfl); (case hg => rfl); (case hr => first | (go_simp; done) | (go_simp; rfl)); intro gb584 hg w12 hbox hb; replace HO583 := Aside0.mk (Kd.N_below (Kd.N_elderB (kN HO583.out) gb584 (Nat.le_of_eq hg.symm)) hb); have BK584 := Aside0.mk (hbox); have GW584 := Aside0.mk ((by rw [hg]; exact (below_size tb) : w.heap.size ≤ gb584)); have GE584 := Aside0.mk ((by rw [hg]; exact (below_size tb) : w.heap.size ≤ gb584)); replace HB := Aside0.mk (below_step tb hb); have NB577_584 := Aside0.mk ((by rw [hg]; exact Nat.ne_of_lt (blk_lt (kb BK577.out)) : gb577 ≠ gb584)); have NB584_577 := Aside0.mk ((by rw [hg]; exact Nat.ne_of_gt (blk_lt (kb BK577.out)) : gb584 ≠ gb577)); replace BK577 := Aside0.mk (blk_below (kb BK577.out) hb); clear hb hbox hg; have hnb13 := NB584_577.out; have hnc13 := NB577_584.out; have hcz14_0 : w12.cell? ⟨gb584, 0, none⟩ = some (.int .i64 0) := (blk_cell BK584.out 0).trans rfl; have hcz14_1 : w12.cell? ⟨gb584, 1, none⟩ = some (.int .i64 0) := (blk_cell BK584.out 1).trans rfl; have hcz14_2 : w12.cell? ⟨gb584, 2, none⟩ = some (.slice none 0 0) := (blk_cell BK584.out 2).trans rfl; have hfz14_0 := blk_frozen BK584.out 0; have hfz14_1 := blk_frozen BK584.out 1; have hfz14_2 := blk_frozen BK584.out 2; obtain ⟨Ao15, co15, eo15⟩ := Kd.N_slice HO583.out; subst eo15; have hcz16_0 : w12.cell? ⟨gb577, 0, none⟩ = some (.int .i64 a0_0) := (blk_cell BK577.out 0).trans rfl; have hcz16_1 : w12.cell? ⟨gb577, 1, none⟩ = some (.slice A0_1 l0_1.length c0_1) := (blk_cell BK577.out 1).trans rfl; have hfz16_0 := blk_frozen BK577.out 0; have hfz16_1 := blk_frozen BK577.out 1) | ((with_reducible refine gate_callee (f := 114) rfl ?_); refine goesL_ (some 16) rfl rfl Try.func114 (by kernel_rfl) rfl #[.pointer (some ⟨gb584, 0, none⟩), .slice A0_1 l0_1.length c0_1] rfl ar ?_; (with_reducible refine (impl_field_norm.calls k gb584 t579 t580 Ao15 co15 t581 _ _ l0_1 t585 true _ ?side1 ?side2 ?side3 ?side4 ?side5 A5.out).mono ?_); (case side1 => (with_reducible repeat (first | refine blk_drewN ?_ _ | refine blk_drew ?_ | refine blk_alloc ?_ _)); refine blk_put (cs := #[.int .i64 t579, .int .i64 t580, .slice none 0 0]) ?_ 2 _ rfl; (with_reducible repeat (first | refine blk_drewN ?_ _ | refine blk_drew ?_ | refine blk_alloc ?_ _)); refine blk_put (cs := #[.int .i64 t579, .int .i64 0, .slice none 0 0]) ?_ 1 _ rfl; (with_reducible repeat (first | refine blk_drewN ?_ _ | refine blk_drew ?_ | refine blk_alloc ?_ _)); refine blk_put (cs := #[.int .i64 0, .int .i64 0, .slice none 0 0]) ?_ 0 _ rfl; (with_reducible repeat (first | refine blk_drewN ?_ _ | refine blk_drew ?_ | refine blk_alloc ?_ _)); exact BK584.out); (case side2 => refine (Kd.N_reads' (e := 27) (base := w.heap.size) (ok := fun k_ => (k_ ≠ gb577 ∧ k_ ≠ gb584)) (n := t581.length) (c := co15) ?_).2.2; exact (by (with_reducible repeat (first | apply Kd.N_alloc | apply Kd.N_drewN | apply Kd.N_drew)); exact (Kd.N_mono (Kd.N_far (p := ⟨gb584, 2, none⟩) (Kd.N_far (p := ⟨gb584, 1, none⟩) (Kd.N_far (p := ⟨gb584, 0, none⟩) (Kd.N_mono HO583.out (fun k_ hk => (⟨hk, hk.2⟩ : _ ∧ k_ ≠ gb584))) (fun _ hk => hk.2) (.int .i64 t579)) (fun _ hk => hk.2) (.int .i64 t580)) (fun _ hk => hk.2) (.slice Ao15 t581.length co15)) (fun _ h_ => h_.1)))); (case side3 => exact (Kd.N_reads' HO583.out).2.1); (case side4 => exact Kd.C_below HR0_1.out tb); (case side5 => exact HC0_1.out); rintro e w17 ⟨rfl, hb⟩; refine ⟨_, rfl, ?_⟩; replace HO583 := Aside0.mk (Kd.N_below (by (with_reducible repeat (first | apply Kd.N_alloc | apply Kd.N_drewN | apply Kd.N_drew)); exact (Kd.N_mono (Kd.N_far (p := ⟨gb584, 2, none⟩) (Kd.N_far (p := ⟨gb584, 1, none⟩) (Kd.N_far (p := ⟨gb584, 0, none⟩) (Kd.N_mono HO583.out (fun k_ hk => (⟨hk, hk.2⟩ : _ ∧ k_ ≠ gb584))) (fun _ hk => hk.2) (.int .i64 t579)) (fun _ hk => hk.2) (.int .i64 t580)) (fun _ hk => hk.2) (.slice Ao15 t581.length co15)) (fun _ h_ => h_.1))) hb); replace BK577 := Aside0.mk (blk_below (g := gb577) (o := .cells #[.int .i64 a0_0, .slice A0_1 l0_1.length c0_1] 32 (0, 0)) (by (with_reducible repeat (first | refine blk_drewN ?_ _ | refine blk_drew ?_ | refine blk_alloc ?_ _)); refine blk_far ?_ NB577_584.out _; (with_reducible repeat (first | refine blk_drewN ?_ _ | refine blk_drew ?_ | refine blk_alloc ?_ _)); refine blk_far ?_ NB577_584.out _; (with_reducible repeat (first | refine blk_drewN ?_ _ | refine blk_drew ?_ | refine blk_alloc ?_ _)); refine blk_far ?_ NB577_584.out _; (with_reducible repeat (first | refine blk_drewN ?_ _ | refine blk_drew ?_ | refine blk_alloc ?_ _)); exact BK577.out) hb); replace BK584 := Aside0.mk (blk_below (g := gb584) (o := .cells #[.int .i64 t579, .int .i64 t580, .slice Ao15 t581.length co15] 117 (0, 0)) (by (with_reducible repeat (first | refine blk_drewN ?_ _ | refine blk_drew ?_ | refine blk_alloc ?_ _)); refine blk_put (cs := #[.int .i64 t579, .int .i64 t580, .slice none 0 0]) ?_ 2 _ rfl; (with_reducible repeat (first | refine blk_drewN ?_ _ | refine blk_drew ?_ | refine blk_alloc ?_ _)); refine blk_put (cs := #[.int .i64 t579, .int .i64 0, .slice none 0 0]) ?_ 1 _ rfl; (with_reducible repeat (first | refine blk_drewN ?_ _ | refine blk_drew ?_ | refine blk_alloc ?_ _)); refine blk_put (cs := #[.int .i64 0, .int .i64 0, .slice none 0 0]) ?_ 0 _ rfl; (with_reducible repeat (first | refine blk_drewN ?_ _ | refine blk_drew ?_ | refine blk_alloc ?_ _)); exact BK584.out) hb); replace HB := Aside0.mk (below_step tb hb); (try clear hb); (try clear hb2); (try clear hk); (try clear hi)))
   go_ret2
   exact ⟨by first | rfl | (simp [errW_none, errW_some] <;> rfl) | (simp [*, errW_none, errW_some] <;> rfl), tb⟩
  ·replace c6 := Bool.eq_false_iff.mpr c6
   subst c6
   have H1 : (some (0, 3)) = some (r1, r2) := by rw [if_neg (show ¬ (false = true) by decide)] at H; exact H
   clear H
   have H := H1
   clear H1
   simp only [Option.some.injEq, Prod.mk.injEq] at H
   obtain ⟨rfl, rfl⟩ := H
   go_enter Try.func22, Try.ntmps22
   go_wp2_with (first | ((with_reducible refine gate_dst (N := 1) rfl ?_); refine box_event ?hg (N := 1) ?hd (cs := #[.int .i64 a0_0, .slice A0_1 l0_1.length c0_1]) (t := 32) ?hr ?_; (case hd => rfl); (case hg => rfl); (case hr => first | (go_simp; done) | (go_simp; rfl)); intro gb577 hg w18 hbox hb; have BK577 := Aside0.mk (hbox); have GW577 := Aside0.mk ((by rw [hg]; exact (below_size tb) : w.heap.size ≤ gb577)); have GE577 := Aside0.mk ((by rw [hg]; exact (below_size tb) : w.heap.size ≤ gb577)); replace HB := Aside0.mk (below_step tb hb); clear hb hbox hg; have hcz19_0 : w18.cell? ⟨gb577, 0, none⟩ = some (.int .i64 a0_0) := (blk_cell BK577.out 0).trans rfl; have hcz19_1 : w18.cell? ⟨gb577, 1, none⟩ = some (.slice A0_1 l0_1.length c0_1) := (blk_cell BK577.out 1).trans rfl; have hfz19_0 := blk_frozen BK577.out 0; have hfz19_1 := blk_frozen BK577.out 1) | ((with_reducible refine gate_callee (f := 112) rfl ?_); refine goesL_ (some 8) rfl rfl Try.func112 (by kernel_rfl) rfl #[.agg #[.int .i64 a0_0, .slice A0_1 l0_1.length c0_1]] rfl ar ?_; (with_reducible refine (impl_IsCyclo.calls k a0_0 _ _ l0_1 true _ ?side1 ?side2 A2.out).mono ?_); (case side1 => exact kC (Kd.C_below HR0_1.out HB.out)); (case side2 => exact HC0_1.out); rintro e w20 ⟨rfl, hb⟩; refine ⟨_, rfl, ?_⟩; replace BK577 := Aside0.mk (blk_below (kb BK577.out) hb); replace HB := Aside0.mk (below_step tb hb); (try clear hb); (try clear hb2); (try clear hk); (try clear hi); have hcz21_0 : w20.cell? ⟨gb577, 0, none⟩ = some (.int .i64 a0_0) := (blk_cell BK577.out 0).trans rfl; have hcz21_1 : w20.cell? ⟨gb577, 1, none⟩ = some (.slice A0_1 l0_1.length c0_1) := (blk_cell BK577.out 1).trans rfl; have hfz21_0 := blk_frozen BK577.out 0; have hfz21_1 := blk_frozen BK577.out 1) | ((with_reducible refine gate_callee (f := 113) rfl ?_); refine goesL_ (some 12) rfl rfl Try.func113 (by kernel_rfl) rfl #[.int .i64 a0_0] rfl ar ?_; (with_reducible refine (impl_fieldOf.calls k a0_0 t579 t580 t581 _ A4.out).mono ?_); rintro e w22 ⟨v582, rfl, ho0, hb⟩; refine ⟨_, rfl, ?_⟩; have HO583 := Aside0.mk (Kd.N_lower (Kd.N_mono (ok' := fun k_ => k_ ≠ gb577) ho0 (fun k_ hk_ => (Kd.freshB (kb BK577.out) k_ hk_))) (below_size tb)); replace BK577 := Aside0.mk (blk_below (kb BK577.out) hb); replace HB := Aside0.mk (below_step tb hb); (try clear hb); (try clear hb2); (try clear hk); (try clear hi); (try clear ho0)) | ((with_reducible refine gate_dst (N := 4) rfl ?_); refine box_event ?hg (N := 4) ?hd (cs := #[.int .i64 0, .int .i64 0, .slice none 0 0]) (t := 117) ?hr ?_; (case hd => rfl); (case hg => rfl); (case hr => first | (go_simp; done) | (go_simp; rfl)); intro gb584 hg w23 hbox hb; replace HO583 := Aside0.mk (Kd.N_below (Kd.N_elderB (kN HO583.out) gb584 (Nat.le_of_eq hg.symm)) hb); have BK584 := Aside0.mk (hbox); have GW584 := Aside0.mk ((by rw [hg]; exact (below_size tb) : w.heap.size ≤ gb584)); have GE584 := Aside0.mk ((by rw [hg]; exact (below_size tb) : w.heap.size ≤ gb584)); replace HB := Aside0.mk (below_step tb hb); have NB577_584 := Aside0.mk ((by rw [hg]; exact Nat.ne_of_lt (blk_lt (kb BK577.out)) : gb577 ≠ gb584)); have NB584_577 := Aside0.mk ((by rw [hg]; exact Nat.ne_of_gt (blk_lt (kb BK577.out)) : gb584 ≠ gb577)); replace BK577 := Aside0.mk (blk_below (kb BK577.out) hb); clear hb hbox hg; have hnb24 := NB584_577.out; have hnc24 := NB577_584.out; have hcz25_0 : w23.cell? ⟨gb584, 0, none⟩ = some (.int .i64 0) := (blk_cell BK584.out 0).trans rfl; have hcz25_1 : w23.cell? ⟨gb584, 1, none⟩ = some (.int .i64 0) := (blk_cell BK584.out 1).trans rfl; have hcz25_2 : w23.cell? ⟨gb584, 2, none⟩ = some (.slice none 0 0) := (blk_cell BK584.out 2).trans rfl; have hfz25_0 := blk_frozen BK584.out 0; have hfz25_1 := blk_frozen BK584.out 1; have hfz25_2 := blk_frozen BK584.out 2; obtain ⟨Ao26, co26, eo26⟩ := Kd.N_slice HO583.out; subst eo26; have hcz27_0 : w23.cell? ⟨gb577, 0, none⟩ = some (.int .i64 a0_0) := (blk_cell BK577.out 0).trans rfl; have hcz27_1 : w23.cell? ⟨gb577, 1, none⟩ = some (.slice A0_1 l0_1.length c0_1) := (blk_cell BK577.out 1).trans rfl; have hfz27_0 := blk_frozen BK577.out 0; have hfz27_1 := blk_frozen BK577.out 1) | ((with_reducible refine gate_callee (f := 114) rfl ?_); refine goesL_ (some 16) rfl rfl Try.func114 (by kernel_rfl) rfl #[.pointer (some ⟨gb584, 0, none⟩), .slice A0_1 l0_1.length c0_1] rfl ar ?_; (with_reducible refine (impl_field_norm.calls k gb584 t579 t580 Ao26 co26 t581 _ _ l0_1 t585 false _ ?side1 ?side2 ?side3 ?side4 ?side5 A5.out).mono ?_); (case side1 => (with_reducible repeat (first | refine blk_drewN ?_ _ | refine blk_drew ?_ | refine blk_alloc ?_ _)); refine blk_put (cs := #[.int .i64 t579, .int .i64 t580, .slice none 0 0]) ?_ 2 _ rfl; (with_reducible repeat (first | refine blk_drewN ?_ _ | refine blk_drew ?_ | refine blk_alloc ?_ _)); refine blk_put (cs := #[.int .i64 t579, .int .i64 0, .slice none 0 0]) ?_ 1 _ rfl; (with_reducible repeat (first | refine blk_drewN ?_ _ | refine blk_drew ?_ | refine blk_alloc ?_ _)); refine blk_put (cs := #[.int .i64 0, .int .i64 0, .slice none 0 0]) ?_ 0 _ rfl; (with_reducible repeat (first | refine blk_drewN ?_ _ | refine blk_drew ?_ | refine blk_alloc ?_ _)); exact BK584.out); (case side2 => refine (Kd.N_reads' (e := 27) (base := w.heap.size) (ok := fun k_ => (k_ ≠ gb577 ∧ k_ ≠ gb584)) (n := t581.length) (c := co26) ?_).2.2; exact (by (with_reducible repeat (first | apply Kd.N_alloc | apply Kd.N_drewN | apply Kd.N_drew)); exact (Kd.N_mono (Kd.N_far (p := ⟨gb584, 2, none⟩) (Kd.N_far (p := ⟨gb584, 1, none⟩) (Kd.N_far (p := ⟨gb584, 0, none⟩) (Kd.N_mono HO583.out (fun k_ hk => (⟨hk, hk.2⟩ : _ ∧ k_ ≠ gb584))) (fun _ hk => hk.2) (.int .i64 t579)) (fun _ hk => hk.2) (.int .i64 t580)) (fun _ hk => hk.2) (.slice Ao26 t581.length co26)) (fun _ h_ => h_.1)))); (case side3 => exact (Kd.N_reads' HO583.out).2.1); (case side4 => exact Kd.C_below HR0_1.out tb); (case side5 => exact HC0_1.out); rintro e w28 ⟨rfl, hb⟩; refine ⟨_, rfl, ?_⟩; replace HO583 := Aside0.mk (Kd.N_below (by (with_reducible repeat (first | apply Kd.N_alloc | apply Kd.N_drewN | apply Kd.N_drew)); exact (Kd.N_mono (Kd.N_far (p := ⟨gb584, 2, none⟩) (Kd.N_far (p := ⟨gb584, 1, none⟩) (Kd.N_far (p := ⟨gb584, 0, none⟩) (Kd.N_mono HO583.out (fun k_ hk => (⟨hk, hk.2⟩ : _ ∧ k_ ≠ gb584))) (fun _ hk => hk.2) (.int .i64 t579)) (fun _ hk => hk.2) (.int .i64 t580)) (fun _ hk => hk.2) (.slice Ao26 t581.length co26)) (fun _ h_ => h_.1))) hb); replace BK577 := Aside0.mk (blk_below (g := gb577) (o := .cells #[.int .i64 a0_0, .slice A0_1 l0_1.length c0_1] 32 (0, 0)) (by (with_reducible repeat (first | refine blk_drewN ?_ _ | refine blk_drew ?_ | refine blk_alloc ?_ _)); refine blk_far ?_ NB577_584.out _; (with_reducible repeat (first | refine blk_drewN ?_ _ | refine blk_drew ?_ | refine blk_alloc ?_ _)); refine blk_far ?_ NB577_584.out _; (with_reducible repeat (first | refine blk_drewN ?_ _ | refine blk_drew ?_ | refine blk_alloc ?_ _)); refine blk_far ?_ NB577_584.out _; (with_reducible repeat (first | refine blk_drewN ?_ _ | refine blk_drew ?_ | refine blk_alloc ?_ _)); exact BK577.out) hb); replace BK584 := Aside0.mk (blk_below (g := gb584) (o := .cells #[.int .i64 t579, .int .i64 t580, .slice Ao26 t581.length co26] 117 (0, 0)) (by (with_reducible repeat (first | refine blk_drewN ?_ _ | refine blk_drew ?_ | refine blk_alloc ?_ _)); refine blk_put (cs := #[.int .i64 t579, .int .i64 t580, .slice none 0 0]) ?_ 2 _ rfl; (with_reducible repeat (first | refine blk_drewN ?_ _ | refine blk_drew ?_ | refine blk_alloc ?_ _)); refine blk_put (cs := #[.int .i64 t579, .int .i64 0, .slice none 0 0]) ?_ 1 _ rfl; (with_reducible repeat (first | refine blk_drewN ?_ _ | refine blk_drew ?_ | refine blk_alloc ?_ _)); refine blk_put (cs := #[.int .i64 0, .int .i64 0, .slice none 0 0]) ?_ 0 _ rfl; (with_reducible repeat (first | refine blk_drewN ?_ _ | refine blk_drew ?_ | refine blk_alloc ?_ _)); exact BK584.out) hb); replace HB := Aside0.mk (below_step tb hb); (try clear hb); (try clear hb2); (try clear hk); (try clear hi)))
   go_ret2
   exact ⟨by first | rfl | (simp [errW_none, errW_some] <;> rfl) | (simp [*, errW_none, errW_some] <;> rfl), tb⟩
 ·replace c3 := Bool.eq_false_iff.mpr c3
  subst c3
  have H1 : (some (0, 1)) = some (r1, r2) := by rw [if_neg (show ¬ (false = true) by decide)] at H; exact H
  clear H
  have H := H1
  clear H1
  simp only [Option.some.injEq, Prod.mk.injEq] at H
  obtain ⟨rfl, rfl⟩ := H
  go_enter Try.func22, Try.ntmps22
  go_wp2_with (first | ((with_reducible refine gate_dst (N := 1) rfl ?_); refine box_event ?hg (N := 1) ?hd (cs := #[.int .i64 a0_0, .slice A0_1 l0_1.length c0_1]) (t := 32) ?hr ?_; (case hd => rfl); (case hg => rfl); (case hr => first | (go_simp; done) | (go_simp; rfl)); intro gb577 hg w29 hbox hb; have BK577 := Aside0.mk (hbox); have GW577 := Aside0.mk ((by rw [hg]; exact (below_size tb) : w.heap.size ≤ gb577)); have GE577 := Aside0.mk ((by rw [hg]; exact (below_size tb) : w.heap.size ≤ gb577)); replace HB := Aside0.mk (below_step tb hb); clear hb hbox hg; have hcz30_0 : w29.cell? ⟨gb577, 0, none⟩ = some (.int .i64 a0_0) := (blk_cell BK577.out 0).trans rfl; have hcz30_1 : w29.cell? ⟨gb577, 1, none⟩ = some (.slice A0_1 l0_1.length c0_1) := (blk_cell BK577.out 1).trans rfl; have hfz30_0 := blk_frozen BK577.out 0; have hfz30_1 := blk_frozen BK577.out 1) | ((with_reducible refine gate_callee (f := 112) rfl ?_); refine goesL_ (some 8) rfl rfl Try.func112 (by kernel_rfl) rfl #[.agg #[.int .i64 a0_0, .slice A0_1 l0_1.length c0_1]] rfl ar ?_; (with_reducible refine (impl_IsCyclo.calls k a0_0 _ _ l0_1 false _ ?side1 ?side2 A2.out).mono ?_); (case side1 => exact kC (Kd.C_below HR0_1.out HB.out)); (case side2 => exact HC0_1.out); rintro e w31 ⟨rfl, hb⟩; refine ⟨_, rfl, ?_⟩; replace BK577 := Aside0.mk (blk_below (kb BK577.out) hb); replace HB := Aside0.mk (below_step tb hb); (try clear hb); (try clear hb2); (try clear hk); (try clear hi)))
  go_ret2
  exact ⟨by first | rfl | (simp [errW_none, errW_some] <;> rfl) | (simp [*, errW_none, errW_some] <;> rfl), tb⟩

/-! ### impl_IsUnit: function 107 -/
def impl_IsUnit.f (k : Nat) (a0_0 : Int) (l0_1 : List Int) : Option (Bool × Int) := (impl_NormOf.f k a0_0 l0_1).bind fun bt588 => ((impl_size.f bt588.1).bind fun t590 => (some ((t590 == 1), bt588.2)))
set_option maxHeartbeats 8000000 in
set_option maxRecDepth 100000 in
theorem impl_IsUnit.calls (k : Nat) (a0_0 : Int) (A0_1 : Option Addr) (c0_1 : Nat) (l0_1 : List Int) (r1 : Bool) (r2 : Int) (w : World) (hr0_1 : Kd.C (Kd.int .i64) w A0_1 l0_1.length l0_1) (hc0_1 : l0_1.length ≤ c0_1) (h : impl_IsUnit.f k a0_0 l0_1 = some (r1, r2)) :
  Calls Try.prog 107 #[.agg #[.int .i64 a0_0, .slice A0_1 l0_1.length c0_1]] w fun e w' => e = .returned (.tuple #[.bool r1, .int .i64 r2]) ∧ Below w.heap.size w w' := by
 have hu32 := Try.underlying32
 have HR0_1 := Aside0.mk hr0_1
 have HC0_1 := Aside0.mk hc0_1
 clear hr0_1 hc0_1
 have HB := Aside0.mk (Below.refl w.heap.size w)
 have H : ((impl_NormOf.f k a0_0 l0_1).bind fun bt588 => ((impl_size.f bt588.1).bind fun t590 => (some ((t590 == 1), bt588.2)))) = some (r1, r2) := h
 clear h
 replace H := Option.bind_eq_some_iff.mp H
 obtain ⟨⟨t588, t589⟩, A20, H⟩ := H
 replace H : ((impl_size.f t588).bind fun t590 => (some ((t590 == 1), t589))) = some (r1, r2) := H
 have A2 := Aside0.mk A20
 clear A20
 replace H := Option.bind_eq_some_iff.mp H
 obtain ⟨t590, A30, H⟩ := H
 replace H : (some ((t590 == 1), t589)) = some (r1, r2) := H
 have A3 := Aside0.mk A30
 clear A30
 simp only [Option.some.injEq, Prod.mk.injEq] at H
 obtain ⟨rfl, rfl⟩ := H
 go_enter Try.func107, Try.ntmps107
 go_wp2_with (first | ((with_reducible refine gate_dst (N := 1) rfl ?_); refine box_event ?hg (N := 1) ?hd (cs := #[.int .i64 a0_0, .slice A0_1 l0_1.length c0_1]) (t := 32) ?hr ?_; (case hd => rfl); (case hg => rfl); (case hr => first | (go_simp; done) | (go_simp; rfl)); intro gb587 hg w4 hbox hb; have BK587 := Aside0.mk (hbox); have GW587 := Aside0.mk ((by rw [hg]; exact (below_size tb) : w.heap.size ≤ gb587)); have GE587 := Aside0.mk ((by rw [hg]; exact (below_size tb) : w.heap.size ≤ gb587)); replace HB := Aside0.mk (below_step tb hb); clear hb hbox hg; have hcz5_0 : w4.cell? ⟨gb587, 0, none⟩ = some (.int .i64 a0_0) := (blk_cell BK587.out 0).trans rfl; have hcz5_1 : w4.cell? ⟨gb587, 1, none⟩ = some (.slice A0_1 l0_1.length c0_1) := (blk_cell BK587.out 1).trans rfl; have hfz5_0 := blk_frozen BK587.out 0; have hfz5_1 := blk_frozen BK587.out 1) | ((with_reducible refine gate_callee (f := 22) rfl ?_); refine goesL_ (some 8) rfl rfl Try.func22 (by kernel_rfl) rfl #[.agg #[.int .i64 a0_0, .slice A0_1 l0_1.length c0_1]] rfl ar ?_; (with_reducible refine (impl_NormOf.calls k a0_0 _ _ l0_1 t588 t589 _ ?side1 ?side2 A2.out).mono ?_); (case side1 => exact kC (Kd.C_below HR0_1.out HB.out)); (case side2 => exact HC0_1.out); rintro e w6 ⟨rfl, hb⟩; refine ⟨_, rfl, ?_⟩; replace BK587 := Aside0.mk (blk_below (kb BK587.out) hb); replace HB := Aside0.mk (below_step tb hb); (try clear hb); (try clear hb2); (try clear hk); (try clear hi)) | ((with_reducible refine gate_callee (f := 213) rfl ?_); refine goesL_ (some 12) rfl rfl Try.func213 (by kernel_rfl) rfl #[.int .i64 t588] rfl ar ?_; (with_reducible refine (impl_size.calls t588 t590 _ A3.out).mono ?_); rintro e w7 ⟨rfl, hb⟩; refine ⟨_, rfl, ?_⟩; replace BK587 := Aside0.mk (blk_below (kb BK587.out) hb); replace HB := Aside0.mk (below_step tb hb); (try clear hb); (try clear hb2); (try clear hk); (try clear hi)))
 go_ret2
 exact ⟨by first | rfl | (simp [errW_none, errW_some] <;> rfl) | (simp [*, errW_none, errW_some] <;> rfl), tb⟩

end Go.Proofs.Ytgcggngleiggiaa.Pr
