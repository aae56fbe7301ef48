-- Printed by a program of this session, hand-proved contracts among it.
import Derived.Test.YtgcggngleiggiaaPr0
import Derived.Test.YtgcggngleiggiaaPr6
import Derived.Test.YtgcggngleiggiaaPr10
namespace Go.Proofs.Ytgcggngleiggiaa.Pr
open Go.RowKit Go.Proofs.YtgcggngleiggiaaW.PrintWords Go.Proofs.YtgcggngleiggiaaW.PrintLast Go.Proofs.YtgcggngleiggiaaW.PrintMore Go.Proofs.Ytgcggngleiggiaa.Sq
attribute [local go_sem] max2_int min2_int max_two min_two max_three min_three max_four min_four   -- for this text's walks alone
set_option linter.unusedVariables false
set_option linter.unusedSimpArgs false

/-! ### spec_l01Plus: function 191 -/
def spec_l01Plus.l0 : Nat → Int → Int → Int → List Int → Int → List Int → Option (Int × List Int)
 | 0, _, _, _, _, _, _ => none
 | k + 1, x2, x8, x451000, x451001, x456000, x456001 => if x8 < (x451001.length : Int) then (if 0 ≤ x8 then (if x8 < (x456001.length : Int) then (spec_l01Plus.l0 k x2 (wrap64 (x8 + 1)) x451000 x451001 x456000 (x456001.set (x8 : Int).toNat (wrap64 ((rd x456001 x8) + (wrap64 (x2 * (rd x451001 x8))))))) else (none)) else (none)) else (some (x456000, x456001))
def spec_l01Plus.f (k : Nat) (a0_0 : Int) (l0_1 : List Int) (a1_0 : Int) (l1_1 : List Int) (a2 : Int) : Option (Int × List Int) := (spec_l01Own.f l0_1).bind fun t452 => (spec_l01Plus.l0 k a2 0 a1_0 l1_1 a0_0 t452)
def spec_l01Plus.T1 : Bool × List (List Nat × List Nat) := (true, [([], []), ([0], [0]), ([], []), ([2], [2]), ([3], [3]), ([1, 4], [1, 4]), ([], []), ([6, 5, 4, 0, 1, 2, 3, 4, 5, 6], [5, 6])])
def spec_l01Plus.B1 : List Nat := [0, 1, 0, 4, 12, 31, 0, 127]
theorem spec_l01Plus.tab1 : rtab .any (opsOf Try.f191 1) = spec_l01Plus.T1 := by kernel_rfl
theorem spec_l01Plus.bits1 : waitsOk spec_l01Plus.T1.2 spec_l01Plus.B1 = true := by kernel_rfl
def spec_l01Plus.T5 : Bool × List (List Nat × List Nat) := (true, [([], []), ([0], [0]), ([], []), ([], []), ([3], [3]), ([], []), ([4, 5], [4, 5]), ([6], [6]), ([], []), ([], []), ([9], [9]), ([], []), ([10, 11], [10, 11]), ([12], [12]), ([8, 13], [8, 13]), ([7, 14], [7, 14]), ([1, 2, 0, 1, 2, 3, 4, 5, 6, 7, 8, 9, 10, 11, 12, 13, 14, 15], [1, 2]), ([16, 15, 0, 1, 2, 3, 4, 5, 6, 7, 8, 9, 10, 11, 12, 13, 14, 15], [15, 16])])
def spec_l01Plus.B5 : List Nat := [0, 1, 0, 0, 8, 0, 56, 120, 0, 0, 512, 0, 3584, 7680, 16128, 32760, 65535, 131071]
theorem spec_l01Plus.tab5 : rtab .any (opsOf Try.f191 5) = spec_l01Plus.T5 := by kernel_rfl
theorem spec_l01Plus.bits5 : waitsOk spec_l01Plus.T5.2 spec_l01Plus.B5 = true := by kernel_rfl
set_option maxHeartbeats 8000000 in
set_option maxRecDepth 100000 in
theorem spec_l01Plus.calls (k : Nat) (a0_0 : Int) (A0_1 : Option Addr) (c0_1 : Nat) (l0_1 : List Int) (a1_0 : Int) (A1_1 : Option Addr) (c1_1 : Nat) (l1_1 : List Int) (a2 : Int) (r1 : Int) (r2 : List Int) (w : World) (hr0_1 : Kd.C (Kd.int .i64) w A0_1 l0_1.length l0_1) (hc0_1 : l0_1.length ≤ c0_1) (hr1_1 : Kd.C (Kd.int .i64) w A1_1 l1_1.length l1_1) (hc1_1 : l1_1.length ≤ c1_1) (h : spec_l01Plus.f k a0_0 l0_1 a1_0 l1_1 a2 = some (r1, r2)) :
  Calls Try.prog 191 #[.agg #[.int .i64 a0_0, .slice A0_1 l0_1.length c0_1], .agg #[.int .i64 a1_0, .slice A1_1 l1_1.length c1_1], .int .i64 a2] w fun e w' => ∃ v1_ : Value, e = .returned (.agg #[.int .i64 r1, v1_]) ∧ Kd.R (Kd.int .i64) 2 w' w.heap.size (fun _ => True) v1_ r2 ∧ Below w.heap.size w w' := by
 have hu32 := Try.underlying32
 have HR0_1 := Aside0.mk hr0_1
 have HC0_1 := Aside0.mk hc0_1
 clear hr0_1 hc0_1
 have HR1_1 := Aside0.mk hr1_1
 have HC1_1 := Aside0.mk hc1_1
 clear hr1_1 hc1_1
 have HB := Aside0.mk (Below.refl w.heap.size w)
 have H : ((spec_l01Own.f l0_1).bind fun t452 => (spec_l01Plus.l0 k a2 0 a1_0 l1_1 a0_0 t452)) = some (r1, r2) := h
 clear h
 replace H := Option.bind_eq_some_iff.mp H
 obtain ⟨t452, A40, H⟩ := H
 replace H : (spec_l01Plus.l0 k a2 0 a1_0 l1_1 a0_0 t452) = some (r1, r2) := H
 have A4 := Aside0.mk A40
 clear A40
 have H' := Aside0.mk H
 clear H
 go_enter Try.func191, Try.ntmps191
 try go_wp2_with (first | ((with_reducible refine gate_dst (N := 3) rfl ?_); refine box_event ?hg (N := 3) ?hd (cs := #[.int .i64 a0_0, .slice A0_1 l0_1.length c0_1]) (t := 32) ?hr ?_; (case hd => rfl); (case hg => rfl); (case hr => first | (go_simp; done) | (go_simp; rfl)); intro gb449 hg w5 hbox hb; have BK449 := Aside0.mk (hbox); have GW449 := Aside0.mk ((by rw [hg]; exact (below_size tb) : w.heap.size ≤ gb449)); have GE449 := Aside0.mk ((by rw [hg]; exact (below_size tb) : w.heap.size ≤ gb449)); replace HB := Aside0.mk (below_step tb hb); clear hb hbox hg) | ((with_reducible refine gate_dst (N := 4) rfl ?_); refine box_event ?hg (N := 4) ?hd (cs := #[.int .i64 a1_0, .slice A1_1 l1_1.length c1_1]) (t := 32) ?hr ?_; (case hd => rfl); (case hg => rfl); (case hr => first | (go_simp; done) | (go_simp; rfl)); intro gb450 hg w6 hbox hb; have BK450 := Aside0.mk (hbox); have GW450 := Aside0.mk ((by rw [hg]; exact (below_size tb) : w.heap.size ≤ gb450)); have GE450 := Aside0.mk ((by rw [hg]; exact (below_size tb) : w.heap.size ≤ gb450)); replace HB := Aside0.mk (below_step tb hb); have NB449_450 := Aside0.mk ((by rw [hg]; exact Nat.ne_of_lt (blk_lt (kb BK449.out)) : gb449 ≠ gb450)); have NB450_449 := Aside0.mk ((by rw [hg]; exact Nat.ne_of_gt (blk_lt (kb BK449.out)) : gb450 ≠ gb449)); replace BK449 := Aside0.mk (blk_below (kb BK449.out) hb); clear hb hbox hg) | ((with_reducible refine gate_dst (N := 6) rfl ?_); refine box_event ?hg (N := 6) ?hd (cs := #[.int .i64 0, .slice none 0 0]) (t := 32) ?hr ?_; (case hd => rfl); (case hg => rfl); (case hr => first | (go_simp; done) | (go_simp; rfl)); intro gb451 hg w7 hbox hb; have BK451 := Aside0.mk (hbox); have GW451 := Aside0.mk ((by rw [hg]; exact (below_size tb) : w.heap.size ≤ gb451)); have GE451 := Aside0.mk ((by rw [hg]; exact (below_size tb) : w.heap.size ≤ gb451)); replace HB := Aside0.mk (below_step tb hb); have NB449_451 := Aside0.mk ((by rw [hg]; exact Nat.ne_of_lt (blk_lt (kb BK449.out)) : gb449 ≠ gb451)); have NB451_449 := Aside0.mk ((by rw [hg]; exact Nat.ne_of_gt (blk_lt (kb BK449.out)) : gb451 ≠ gb449)); replace BK449 := Aside0.mk (blk_below (kb BK449.out) hb); have NB450_451 := Aside0.mk ((by rw [hg]; exact Nat.ne_of_lt (blk_lt (kb BK450.out)) : gb450 ≠ gb451)); have NB451_450 := Aside0.mk ((by rw [hg]; exact Nat.ne_of_gt (blk_lt (kb BK450.out)) : gb451 ≠ gb450)); replace BK450 := Aside0.mk (blk_below (kb BK450.out) hb); clear hb hbox hg))
 replace BK449 := Aside0.mk (blk_drew BK449.out)
 replace BK450 := Aside0.mk (blk_drew BK450.out)
 replace BK451 := Aside0.mk (blk_drew BK451.out)
 replace HB := Aside0.mk (below_drew1 HB.out)
 refine start_ (n := 8) (S := fun w' => w'.cell? ⟨gb449, 0, none⟩ = some (.int .i64 a0_0) ∧ w'.cell? ⟨gb449, 1, none⟩ = some (.slice A0_1 l0_1.length c0_1)) (ds := []) #[false, false, false, false, false, false, false, false] (by kernel_rfl) rfl rfl ⟨(blk_cell BK449.out 0).trans rfl, (blk_cell BK449.out 1).trans rfl⟩ (fun hHeld => ?_); refine with_tabW spec_l01Plus.tab1 spec_l01Plus.bits1 (fun HT_ HW_ => ?_)
 generalize w7.drew = w8 at BK449 BK450 BK451 HB hHeld ⊢
 refine pu 0 (some 9) #[true, false, false, false, false, false, false, false] ?_
 refine pu 2 (some 11) #[true, false, true, false, false, false, false, false] ?_
 refine tk 1 (some 10) #[true, true, true, false, false, false, false, false] hHeld ?_
 refine tk 3 (some 12) #[true, true, true, true, false, false, false, false] hHeld ?_
 refine join_ (σ := Value × Nat) 1 #[true, true, true, true, true, true, true, false] (fun s_ => [(13, s_.1), (7, .pointer (some ⟨s_.2, 0, none⟩)), (14, .agg #[.int .i64 a0_0, s_.1])]) (fun s_ w' => (w'.cell? ⟨gb449, 0, none⟩ = some (.int .i64 a0_0) ∧ w'.cell? ⟨gb449, 1, none⟩ = some (.slice A0_1 l0_1.length c0_1)) ∧ (Kd.R (Kd.int .i64) 2 w' w.heap.size (fun _ => True) s_.1 t452) ∧ (w'.heap[gb449]? = some (.cells #[.int .i64 a0_0, .slice A0_1 l0_1.length c0_1] 32 (0, 0))) ∧ (w'.heap[gb450]? = some (.cells #[.int .i64 a1_0, .slice A1_1 l1_1.length c1_1] 32 (0, 0))) ∧ (w'.heap[gb451]? = some (.cells #[.int .i64 0, .slice none 0 0] 32 (0, 0))) ∧ (w'.heap[s_.2]? = some (.cells #[.int .i64 0, .slice none 0 0] 32 (0, 0))) ∧ (w.heap.size ≤ s_.2) ∧ (w.heap.size ≤ s_.2) ∧ (gb449 ≠ s_.2) ∧ (s_.2 ≠ gb449) ∧ (gb450 ≠ s_.2) ∧ (s_.2 ≠ gb450) ∧ (gb451 ≠ s_.2) ∧ (s_.2 ≠ gb451) ∧ (Below w.heap.size w w')) ?_ ?_
 rotate_left
 ·intro hCont
  refine two_ (i := 4) (j := 6) (Ni := some 13) (Nj := some 7) #[true, true, true, true, true, false, false, false] #[true, true, true, true, false, false, true, false] rfl rfl rfl rfl (two_of HT_.out (by kernel_rfl)) (by decide) (by decide) (fun K hK => ?_) (fun K hK => ?_)
  ·skip
   refine goes_ Try.func244 (by kernel_rfl) rfl #[.slice A0_1 l0_1.length c0_1] (by rfl) rfl rfl ar ?_
   with_reducible refine (spec_l01Own.calls _ _ l0_1 t452 _ ?side1 ?side2 A4.out).mono ?_
   (case side1 => exact kC (Kd.C_below HR0_1.out HB.out))
   (case side2 => exact HC0_1.out)
   rintro e w9 ⟨v453, rfl, ho0, hb⟩
   refine ⟨_, rfl, ?_⟩
   have HO454 := Aside0.mk (Kd.R_lower ho0 (below_size tb))
   replace BK449 := Aside0.mk (blk_below (kb BK449.out) hb)
   replace BK450 := Aside0.mk (blk_below (kb BK450.out) hb)
   replace BK451 := Aside0.mk (blk_below (kb BK451.out) hb)
   replace HB := Aside0.mk (below_step tb hb)
   (try clear hb)
   (try clear hb2)
   (try clear hk)
   (try clear hi)
   (try clear ho0)
   obtain ⟨Ao10, co10, eo10⟩ := Kd.R_slice HO454.out
   (first | subst eo10 | (injection eo10 with f1_ f2_ f3_; have f4_ := f1_.symm; have f5_ := f3_.symm; clear f1_ f2_ f3_; subst f4_; subst f5_))
   refine hK.out _ _ ⟨(blk_cell BK449.out 0).trans rfl, (blk_cell BK449.out 1).trans rfl⟩ (fun hHeld => ?_)
   clear hK K
   refine nr ?_
   refine pu 5 (some 14) #[true, true, true, true, true, true, false, false] ?_
   refine one_ (i := 6) (N := some 7) #[true, true, true, true, true, true, true, false] rfl rfl (one_of HT_.out (by kernel_rfl)) (by decide) (fun K hK => ?_)
   refine box_step ?hg (N := 7) ?hd (cs := #[.int .i64 0, .slice none 0 0]) (t := 32) ?hr ?_; (case hd => rfl); (case hg => rfl); (case hr => first | (go_simp; done) | (go_simp; rfl))
   intro gb455 hg w11 hbox hb
   replace HO454 := Aside0.mk (Kd.R_below (kR HO454.out) hb)
   have BK455 := Aside0.mk (hbox)
   have GW455 := Aside0.mk ((by rw [hg]; exact (below_size tb) : w.heap.size ≤ gb455))
   have GE455 := Aside0.mk ((by rw [hg]; exact (below_size tb) : w.heap.size ≤ gb455))
   replace HB := Aside0.mk (below_step tb hb)
   have NB449_455 := Aside0.mk ((by rw [hg]; exact Nat.ne_of_lt (blk_lt (kb BK449.out)) : gb449 ≠ gb455))
   have NB455_449 := Aside0.mk ((by rw [hg]; exact Nat.ne_of_gt (blk_lt (kb BK449.out)) : gb455 ≠ gb449))
   replace BK449 := Aside0.mk (blk_below (kb BK449.out) hb)
   have NB450_455 := Aside0.mk ((by rw [hg]; exact Nat.ne_of_lt (blk_lt (kb BK450.out)) : gb450 ≠ gb455))
   have NB455_450 := Aside0.mk ((by rw [hg]; exact Nat.ne_of_gt (blk_lt (kb BK450.out)) : gb455 ≠ gb450))
   replace BK450 := Aside0.mk (blk_below (kb BK450.out) hb)
   have NB451_455 := Aside0.mk ((by rw [hg]; exact Nat.ne_of_lt (blk_lt (kb BK451.out)) : gb451 ≠ gb455))
   have NB455_451 := Aside0.mk ((by rw [hg]; exact Nat.ne_of_gt (blk_lt (kb BK451.out)) : gb455 ≠ gb451))
   replace BK451 := Aside0.mk (blk_below (kb BK451.out) hb)
   clear hb hbox hg
   refine hK.out _ _ ⟨(blk_cell BK449.out 0).trans rfl, (blk_cell BK449.out 1).trans rfl⟩ (fun hHeld => ?_)
   clear hK K
   refine nr ?_
   exact norm_ (by simp only [putAll, Act.put, List.setIfInBounds_toArray, List.set_cons_zero, List.set_cons_succ]) (hCont (.slice Ao10 t452.length co10, gb455) _ ⟨hHeld, (kR HO454.out), (kb BK449.out), (kb BK450.out), (kb BK451.out), (kb BK455.out), GW455.out, GE455.out, NB449_455.out, NB455_449.out, NB450_455.out, NB455_450.out, NB451_455.out, NB455_451.out, tb⟩)
  ·skip
   refine box_step ?hg (N := 7) ?hd (cs := #[.int .i64 0, .slice none 0 0]) (t := 32) ?hr ?_; (case hd => rfl); (case hg => rfl); (case hr => first | (go_simp; done) | (go_simp; rfl))
   intro gb455 hg w9 hbox hb
   have BK455 := Aside0.mk (hbox)
   have GW455 := Aside0.mk ((by rw [hg]; exact (below_size tb) : w.heap.size ≤ gb455))
   have GE455 := Aside0.mk ((by rw [hg]; exact (below_size tb) : w.heap.size ≤ gb455))
   replace HB := Aside0.mk (below_step tb hb)
   have NB449_455 := Aside0.mk ((by rw [hg]; exact Nat.ne_of_lt (blk_lt (kb BK449.out)) : gb449 ≠ gb455))
   have NB455_449 := Aside0.mk ((by rw [hg]; exact Nat.ne_of_gt (blk_lt (kb BK449.out)) : gb455 ≠ gb449))
   replace BK449 := Aside0.mk (blk_below (kb BK449.out) hb)
   have NB450_455 := Aside0.mk ((by rw [hg]; exact Nat.ne_of_lt (blk_lt (kb BK450.out)) : gb450 ≠ gb455))
   have NB455_450 := Aside0.mk ((by rw [hg]; exact Nat.ne_of_gt (blk_lt (kb BK450.out)) : gb455 ≠ gb450))
   replace BK450 := Aside0.mk (blk_below (kb BK450.out) hb)
   have NB451_455 := Aside0.mk ((by rw [hg]; exact Nat.ne_of_lt (blk_lt (kb BK451.out)) : gb451 ≠ gb455))
   have NB455_451 := Aside0.mk ((by rw [hg]; exact Nat.ne_of_gt (blk_lt (kb BK451.out)) : gb455 ≠ gb451))
   replace BK451 := Aside0.mk (blk_below (kb BK451.out) hb)
   clear hb hbox hg
   refine hK.out _ _ ⟨(blk_cell BK449.out 0).trans rfl, (blk_cell BK449.out 1).trans rfl⟩ (fun hHeld => ?_)
   clear hK K
   refine nr ?_
   refine one_ (i := 4) (N := some 13) #[true, true, true, true, true, false, true, false] rfl rfl (one_of HT_.out (by kernel_rfl)) (by decide) (fun K hK => ?_)
   refine goes_ Try.func244 (by kernel_rfl) rfl #[.slice A0_1 l0_1.length c0_1] (by rfl) rfl rfl ar ?_
   with_reducible refine (spec_l01Own.calls _ _ l0_1 t452 _ ?side1 ?side2 A4.out).mono ?_
   (case side1 => exact kC (Kd.C_below HR0_1.out HB.out))
   (case side2 => exact HC0_1.out)
   rintro e w10 ⟨v453, rfl, ho0, hb⟩
   refine ⟨_, rfl, ?_⟩
   have HO454 := Aside0.mk (Kd.R_lower ho0 (below_size tb))
   replace BK449 := Aside0.mk (blk_below (kb BK449.out) hb)
   replace BK450 := Aside0.mk (blk_below (kb BK450.out) hb)
   replace BK451 := Aside0.mk (blk_below (kb BK451.out) hb)
   replace BK455 := Aside0.mk (blk_below (kb BK455.out) hb)
   replace HB := Aside0.mk (below_step tb hb)
   (try clear hb)
   (try clear hb2)
   (try clear hk)
   (try clear hi)
   (try clear ho0)
   obtain ⟨Ao11, co11, eo11⟩ := Kd.R_slice HO454.out
   (first | subst eo11 | (injection eo11 with f1_ f2_ f3_; have f4_ := f1_.symm; have f5_ := f3_.symm; clear f1_ f2_ f3_; subst f4_; subst f5_))
   refine hK.out _ _ ⟨(blk_cell BK449.out 0).trans rfl, (blk_cell BK449.out 1).trans rfl⟩ (fun hHeld => ?_)
   clear hK K
   refine nr ?_
   refine pu 5 (some 14) #[true, true, true, true, true, true, true, false] ?_
   exact norm_ (by simp only [putAll, Act.put, List.setIfInBounds_toArray, List.set_cons_zero, List.set_cons_succ]) (hCont (.slice Ao11 t452.length co11, gb455) _ ⟨hHeld, (kR HO454.out), (kb BK449.out), (kb BK450.out), (kb BK451.out), (kb BK455.out), GW455.out, GE455.out, NB449_455.out, NB455_449.out, NB450_455.out, NB455_450.out, NB451_455.out, NB455_451.out, tb⟩)
 rintro ⟨v453, gb455⟩ w12 ⟨hS_, h0_, h1_, h2_, h3_, h4_, h5_, h6_, h7_, h8_, h9_, h10_, h11_, h12_, h13_⟩
 have n0_ : Aside0 (Kd.R (Kd.int .i64) 2 w12 w.heap.size (fun _ => True) v453 t452) := ⟨h0_⟩
 have n1_ : Aside0 (w12.heap[gb449]? = some (.cells #[.int .i64 a0_0, .slice A0_1 l0_1.length c0_1] 32 (0, 0))) := ⟨h1_⟩
 have n2_ : Aside0 (w12.heap[gb450]? = some (.cells #[.int .i64 a1_0, .slice A1_1 l1_1.length c1_1] 32 (0, 0))) := ⟨h2_⟩
 have n3_ : Aside0 (w12.heap[gb451]? = some (.cells #[.int .i64 0, .slice none 0 0] 32 (0, 0))) := ⟨h3_⟩
 have n4_ : Aside0 (w12.heap[gb455]? = some (.cells #[.int .i64 0, .slice none 0 0] 32 (0, 0))) := ⟨h4_⟩
 have n5_ : Aside0 (w.heap.size ≤ gb455) := ⟨h5_⟩
 have n6_ : Aside0 (w.heap.size ≤ gb455) := ⟨h6_⟩
 have n7_ : Aside0 (gb449 ≠ gb455) := ⟨h7_⟩
 have n8_ : Aside0 (gb455 ≠ gb449) := ⟨h8_⟩
 have n9_ : Aside0 (gb450 ≠ gb455) := ⟨h9_⟩
 have n10_ : Aside0 (gb455 ≠ gb450) := ⟨h10_⟩
 have n11_ : Aside0 (gb451 ≠ gb455) := ⟨h11_⟩
 have n12_ : Aside0 (gb455 ≠ gb451) := ⟨h12_⟩
 have n13_ : Aside0 (Below w.heap.size w w12) := ⟨h13_⟩
 clear BK449
 clear BK450
 clear BK451
 clear HB
 clear h0_ h1_ h2_ h3_ h4_ h5_ h6_ h7_ h8_ h9_ h10_ h11_ h12_ h13_
 have HO454 := n0_
 have BK449 := n1_
 have BK450 := n2_
 have BK451 := n3_
 have BK455 := n4_
 have GW455 := n5_
 have GE455 := n6_
 have NB449_455 := n7_
 have NB455_449 := n8_
 have NB450_455 := n9_
 have NB455_450 := n10_
 have NB451_455 := n11_
 have NB455_451 := n12_
 have HB := n13_
 clear n0_ n1_ n2_ n3_ n4_ n5_ n6_ n7_ n8_ n9_ n10_ n11_ n12_ n13_
 have hHeld : w12.cell? ⟨gb449, 0, none⟩ = some (.int .i64 a0_0) ∧ w12.cell? ⟨gb449, 1, none⟩ = some (.slice A0_1 l0_1.length c0_1) := hS_
 obtain ⟨Ao13, co13, eo13⟩ := Kd.R_slice HO454.out
 (first | subst eo13 | (injection eo13 with f1_ f2_ f3_; have f4_ := f1_.symm; have f5_ := f3_.symm; clear f1_ f2_ f3_; subst f4_; subst f5_))
 refine norm_ (a' := ?_) ?_ ?_
 rotate_left
 ·simp only [putAll, Act.put, List.setIfInBounds_toArray, List.set_cons_zero, List.set_cons_succ]
  rfl
 refine one_ (i := 7) (N := none) #[true, true, true, true, true, true, true, true] rfl rfl (one_of HT_.out (by kernel_rfl)) (by decide) (fun K hK => ?_)
 have hs14 : w12.cell? ⟨gb455, 0, none⟩ = some (.int .i64 0) := (blk_cell BK455.out 0).trans rfl
 have hfs14 := blk_frozen BK455.out 0
 have hns14_0 := NB449_455.out
 have hns14_1 := NB450_455.out
 have hns14_2 := NB451_455.out
 have hms14_0 := NB455_449.out
 have hms14_1 := NB455_450.out
 have hms14_2 := NB455_451.out
 have hs15 : w12.cell? ⟨gb455, 1, none⟩ = some (.slice none 0 0) := (blk_cell BK455.out 1).trans rfl
 have hfs15 := blk_frozen BK455.out 1
 have hns15_0 := NB449_455.out
 have hns15_1 := NB450_455.out
 have hns15_2 := NB451_455.out
 have hms15_0 := NB455_449.out
 have hms15_1 := NB455_450.out
 have hms15_2 := NB455_451.out
 refine skip_ (w1 := ?_) (by rfl) rfl ?_ ?_
 rotate_left
 ·go_simp
  rfl
 refine hK.out _ _ ⟨((cell_far (p := ⟨gb455, _, none⟩) NB449_455.out _).trans (((cell_far (p := ⟨gb455, _, none⟩) NB449_455.out _).trans (hHeld.1)))), ((cell_far (p := ⟨gb455, _, none⟩) NB449_455.out _).trans (((cell_far (p := ⟨gb455, _, none⟩) NB449_455.out _).trans (hHeld.2))))⟩ (fun hHeld => ?_)
 clear hK K
 refine done_ (done_of HT_.out (by kernel_rfl)) ?_
 try go_wp2
 go_loopg [8] k (fun kq v8 w' => ∃ (x8_1 : Int) (x456001_1 : List Int) (u456001 : Value), v8 = .int .i64 x8_1 ∧ Aside0 (spec_l01Plus.l0 kq a2 x8_1 a1_0 l1_1 a0_0 x456001_1 = some (r1, r2)) ∧ Aside0 (kq ≤ k) ∧ Aside0 (Kd.R (Kd.int .i64) 2 w' w.heap.size (fun _ => True) u456001 x456001_1) ∧ Aside0 (w'.heap[gb449]? = some (.cells #[.int .i64 a0_0, (.slice A0_1 l0_1.length c0_1)] 32 (0, 0))) ∧ Aside0 (w'.heap[gb450]? = some (.cells #[.int .i64 a1_0, (.slice A1_1 l1_1.length c1_1)] 32 (0, 0))) ∧ Aside0 (w'.heap[gb451]? = some (.cells #[.int .i64 0, (.slice none 0 0)] 32 (0, 0))) ∧ Aside0 (w'.heap[gb455]? = some (.cells #[.int .i64 a0_0, u456001] 32 (0, 0))) ∧ Aside0 (Below w.heap.size w w'))
 case atStart => exact ⟨(0), (t452), (.slice Ao13 t452.length co13), (by first | rfl | (simp; done) | (simp [*]; done)), H', ⟨Nat.le_refl _⟩, ⟨by (with_reducible repeat (first | apply Kd.R_alloc | apply Kd.R_drewN | apply Kd.R_drew)); exact Kd.R_mono (Kd.R_far (p := ⟨gb455, 1, none⟩) (Kd.R_far (p := ⟨gb455, 0, none⟩) (Kd.R_types HO454.out BK455.out (by decide)) (fun _ hk => hk.2) (.int .i64 a0_0)) (fun _ hk => hk.2) (.slice Ao13 t452.length co13)) (fun _ hk => trivial)⟩, ⟨by (with_reducible repeat (first | refine blk_drewN ?_ _ | refine blk_drew ?_ | refine blk_alloc ?_ _)); refine blk_far ?_ NB449_455.out _; (with_reducible repeat (first | refine blk_drewN ?_ _ | refine blk_drew ?_ | refine blk_alloc ?_ _)); refine blk_far ?_ NB449_455.out _; (with_reducible repeat (first | refine blk_drewN ?_ _ | refine blk_drew ?_ | refine blk_alloc ?_ _)); exact BK449.out⟩, ⟨by (with_reducible repeat (first | refine blk_drewN ?_ _ | refine blk_drew ?_ | refine blk_alloc ?_ _)); refine blk_far ?_ NB450_455.out _; (with_reducible repeat (first | refine blk_drewN ?_ _ | refine blk_drew ?_ | refine blk_alloc ?_ _)); refine blk_far ?_ NB450_455.out _; (with_reducible repeat (first | refine blk_drewN ?_ _ | refine blk_drew ?_ | refine blk_alloc ?_ _)); exact BK450.out⟩, ⟨by (with_reducible repeat (first | refine blk_drewN ?_ _ | refine blk_drew ?_ | refine blk_alloc ?_ _)); refine blk_far ?_ NB451_455.out _; (with_reducible repeat (first | refine blk_drewN ?_ _ | refine blk_drew ?_ | refine blk_alloc ?_ _)); refine blk_far ?_ NB451_455.out _; (with_reducible repeat (first | refine blk_drewN ?_ _ | refine blk_drew ?_ | refine blk_alloc ?_ _)); exact BK451.out⟩, ⟨by (with_reducible repeat (first | refine blk_drewN ?_ _ | refine blk_drew ?_ | refine blk_alloc ?_ _)); refine blk_put (cs := #[.int .i64 a0_0, .slice none 0 0]) ?_ 1 _ rfl; (with_reducible repeat (first | refine blk_drewN ?_ _ | refine blk_drew ?_ | refine blk_alloc ?_ _)); refine blk_put (cs := #[.int .i64 0, .slice none 0 0]) ?_ 0 _ rfl; (with_reducible repeat (first | refine blk_drewN ?_ _ | refine blk_drew ?_ | refine blk_alloc ?_ _)); exact BK455.out⟩, ⟨tb⟩⟩
 case round =>
  clear H'
  try clear c1
  try clear c2
  try clear p2
  obtain ⟨x8_1, x456001_1, u456001, rfl, HA, HK1, HO_456001, BK449, BK450, BK451, BK455, HB⟩ := hrel
  cases gk with
  | zero => exact absurd HA.out (by simp [spec_l01Plus.l0])
  | succ k1 =>
   have H := HA.out
   clear HA
   simp only [spec_l01Plus.l0] at H
   by_cases c16 : x8_1 < (l1_1.length : Int)
   ·rw [if_pos c16] at H
    have c16b0 : decide (x8_1 < (l1_1.length : Int)) = true := decide_eq_true c16
    clear c16
    by_cases c17 : 0 ≤ x8_1
    ·rw [if_pos c17] at H
     have c17b0 : decide (0 ≤ x8_1) = true := decide_eq_true c17
     clear c17
     by_cases c18 : x8_1 < (x456001_1.length : Int)
     ·rw [if_pos c18] at H
      have c18b0 : decide (x8_1 < (x456001_1.length : Int)) = true := decide_eq_true c18
      clear c18
      obtain ⟨y458, hy458⟩ : ∃ y_ : List Int, y_ = (x456001_1.set (x8_1 : Int).toNat (wrap64 ((rd x456001_1 x8_1) + (wrap64 (a2 * (rd l1_1 x8_1)))))) := ⟨_, rfl⟩
      replace H : (spec_l01Plus.l0 k1 a2 (wrap64 (x8_1 + 1)) a1_0 l1_1 a0_0 y458) = some (r1, r2) := by first | (rw [hy458]; with_reducible exact H) | (rw [hy458]; with_reducible exact (bs H :)) | with_reducible exact (bs H :) | exact H
      have Ny458 := Aside0.mk hy458
      clear hy458
      have H' := Aside0.mk H
      clear H
      have hnb20 := NB450_449.out
      have hnc20 := NB449_450.out
      have hnb21 := NB450_451.out
      have hnc21 := NB451_450.out
      have hnb22 := NB450_455.out
      have hnc22 := NB455_450.out
      have hcz23_0 : wr.cell? ⟨gb450, 0, none⟩ = some (.int .i64 a1_0) := (blk_cell BK450.out 0).trans rfl
      have hcz23_1 : wr.cell? ⟨gb450, 1, none⟩ = some (.slice A1_1 l1_1.length c1_1) := (blk_cell BK450.out 1).trans rfl
      have hfz23_0 := blk_frozen BK450.out 0
      have hfz23_1 := blk_frozen BK450.out 1
      try go_wp2
      replace HO_456001 := Aside0.mk (Kd.R_drew HO_456001.out)
      replace BK449 := Aside0.mk (blk_drew BK449.out)
      replace BK450 := Aside0.mk (blk_drew BK450.out)
      replace BK451 := Aside0.mk (blk_drew BK451.out)
      replace BK455 := Aside0.mk (blk_drew BK455.out)
      replace HB := Aside0.mk (below_drew1 HB.out)
      obtain ⟨Ao25, co25, eo25⟩ := Kd.R_slice HO_456001.out
      (first | subst eo25 | (injection eo25 with f1_ f2_ f3_; have f4_ := f1_.symm; have f5_ := f3_.symm; clear f1_ f2_ f3_; subst f4_; subst f5_))
      have p456 : 0 ≤ (x8_1 : Int) := od
      have q456 : x8_1 < (x456001_1.length : Int) := od
      obtain ⟨ad456, e456, hx456_0⟩ := Kd.at_int (Kd.R_reads' HO_456001.out).2.2 x8_1 p456 q456
      cases e456
      replace p456 := eq_true p456
      replace q456 := eq_true q456
      have p457 : 0 ≤ (x8_1 : Int) := od
      have q457 : x8_1 < (l1_1.length : Int) := od
      obtain ⟨ad457, e457, hx457_0⟩ := Kd.at_int HR1_1.out x8_1 p457 q457
      have hw457_0 := hx457_0
      cases e457
      replace hx457_0 := (HB.out.cell (World.block_lt_of_cell? _ _ hx457_0)).trans hx457_0
      replace p457 := eq_true p457
      replace q457 := eq_true q457
      have p19 : 0 ≤ (x8_1 : Int) := od
      have q19 : (x8_1 : Int) < ((x456001_1.length : Int) : Int) := od
      obtain ⟨go19, co19, eo19, gb19, gl19, cl19, HG19⟩ := Kd.R_form HO_456001.out (by omega)
      (first | cases eo19 | (injection eo19 with ea_ en_ ec_; (first | subst ea_ | (injection ea_ with ea_; subst ea_)); subst ec_; clear en_))
      have GB19 := Aside0.mk gb19
      have GG19 := Aside0.mk HG19
      clear gb19 gl19 HG19
      (first | simp only [add_plain] at hx456_0 | skip)
      obtain ⟨hx19_0, hf19_0⟩ := Kd.R_celln 0 HO_456001.out (x8_1 : Int) p19 q19
      replace p19 := eq_true p19
      replace q19 := eq_true q19
      have HP26 := Kd.R_putn HO_456001.out (x8_1 : Int) (wrap64 ((rd x456001_1 x8_1) + (wrap64 (a2 * (rd l1_1 x8_1)))))
      rw [← Ny458.out] at HP26
      have HQ26 := Aside0.mk HP26
      clear HP26
      refine start_ (n := 18) (S := fun w' => w'.cell? ⟨gb455, 0, none⟩ = some (.int .i64 a0_0) ∧ w'.cell? ⟨gb455, 1, none⟩ = some (.slice (some ⟨go19, 0, none⟩) x456001_1.length co25) ∧ w'.cell? ⟨gb450, 0, none⟩ = some (.int .i64 a1_0) ∧ w'.cell? ⟨gb450, 1, none⟩ = some (.slice (some ad457) l1_1.length c1_1) ∧ w'.cell? ⟨go19, (x8_1).toNat, none⟩ = some (.int .i64 (rd x456001_1 x8_1)) ∧ w'.cell? (ad457.add (x8_1).toNat) = some (.int .i64 (rd l1_1 x8_1))) (ds := [17]) #[false, false, false, false, false, false, false, false, false, false, false, false, false, false, false, false, false, false] (by kernel_rfl) rfl rfl ⟨(blk_cell BK455.out 0).trans rfl, (blk_cell BK455.out 1).trans rfl, (blk_cell BK450.out 0).trans rfl, (blk_cell BK450.out 1).trans rfl, hx456_0, ((HB.out.cell (World.block_lt_of_cell? _ _ hw457_0)).trans hw457_0)⟩ (fun hHeld => ?_); refine with_tabW spec_l01Plus.tab5 spec_l01Plus.bits5 (fun HT_ HW_ => ?_)
      generalize wr.drew = w24 at HO_456001 BK449 BK450 BK451 BK455 HB GG19 HQ26 hf19_0 hx19_0 hx456_0 hx457_0 hHeld ⊢
      refine pu 0 (some 22) #[true, false, false, false, false, false, false, false, false, false, false, false, false, false, false, false, false, false] ?_
      refine pu 2 (some 24) #[true, false, true, false, false, false, false, false, false, false, false, false, false, false, false, false, false, false] ?_
      refine pu 3 (some 25) #[true, false, true, true, false, false, false, false, false, false, false, false, false, false, false, false, false, false] ?_
      refine pu 5 (some 27) #[true, false, true, true, false, true, false, false, false, false, false, false, false, false, false, false, false, false] ?_
      refine pu 8 (some 30) #[true, false, true, true, false, true, false, false, true, false, false, false, false, false, false, false, false, false] ?_
      refine pu 9 (some 31) #[true, false, true, true, false, true, false, false, true, true, false, false, false, false, false, false, false, false] ?_
      refine pu 11 (some 33) #[true, false, true, true, false, true, false, false, true, true, false, true, false, false, false, false, false, false] ?_
      refine tk 1 (some 23) #[true, true, true, true, false, true, false, false, true, true, false, true, false, false, false, false, false, false] hHeld ?_
      refine tk 4 (some 26) #[true, true, true, true, true, true, false, false, true, true, false, true, false, false, false, false, false, false] hHeld ?_
      refine pu 6 (some 28) #[true, true, true, true, true, true, true, false, true, true, false, true, false, false, false, false, false, false] ?_
      refine tk 7 (some 29) #[true, true, true, true, true, true, true, true, true, true, false, true, false, false, false, false, false, false] hHeld ?_
      refine tk 10 (some 32) #[true, true, true, true, true, true, true, true, true, true, true, true, false, false, false, false, false, false] hHeld ?_
      refine pu 12 (some 34) #[true, true, true, true, true, true, true, true, true, true, true, true, true, false, false, false, false, false] ?_
      refine tk 13 (some 35) #[true, true, true, true, true, true, true, true, true, true, true, true, true, true, false, false, false, false] hHeld ?_
      refine pu 14 (some 36) #[true, true, true, true, true, true, true, true, true, true, true, true, true, true, true, false, false, false] ?_
      refine pu 15 (some 37) #[true, true, true, true, true, true, true, true, true, true, true, true, true, true, true, true, false, false] ?_
      refine pu 16 (some 38) #[true, true, true, true, true, true, true, true, true, true, true, true, true, true, true, true, true, false] ?_
      refine last_ (i := 17) (N := none) #[true, true, true, true, true, true, true, true, true, true, true, true, true, true, true, true, true, true] rfl rfl (one_of HT_.out (by kernel_rfl)) (by decide) (fun K hK => ?_)
      refine skip_ (w1 := ?_) (by rfl) rfl ?_ ?_
      rotate_left
      ·go_simp
       rfl
      refine hK.out _ _ ?_
      clear hK K
      refine done_ (done_of HT_.out (by kernel_rfl)) ?_
      try go_wp2
      go_roundg k1
      case measure => have := HK1.out; omega
      case rel => exact ⟨(wrap64 (x8_1 + 1)), (y458), (.slice (some ⟨go19, 0, none⟩) x456001_1.length co25), (by first | rfl | (simp; done) | (simp [*]; done)), H', ⟨by have := HK1.out; omega⟩, ⟨kR HQ26.out⟩, ⟨by (with_reducible repeat (first | refine blk_drewN ?_ _ | refine blk_drew ?_ | refine blk_alloc ?_ _)); refine blk_far ?_ (by have h_ := Kd.R_ne HO_456001.out BK449.out (by decide); intro e_; exact h_ (by rw [e_]; rfl)) _; (with_reducible repeat (first | refine blk_drewN ?_ _ | refine blk_drew ?_ | refine blk_alloc ?_ _)); exact BK449.out⟩, ⟨by (with_reducible repeat (first | refine blk_drewN ?_ _ | refine blk_drew ?_ | refine blk_alloc ?_ _)); refine blk_far ?_ (by have h_ := Kd.R_ne HO_456001.out BK450.out (by decide); intro e_; exact h_ (by rw [e_]; rfl)) _; (with_reducible repeat (first | refine blk_drewN ?_ _ | refine blk_drew ?_ | refine blk_alloc ?_ _)); exact BK450.out⟩, ⟨by (with_reducible repeat (first | refine blk_drewN ?_ _ | refine blk_drew ?_ | refine blk_alloc ?_ _)); refine blk_far ?_ (by have h_ := Kd.R_ne HO_456001.out BK451.out (by decide); intro e_; exact h_ (by rw [e_]; rfl)) _; (with_reducible repeat (first | refine blk_drewN ?_ _ | refine blk_drew ?_ | refine blk_alloc ?_ _)); exact BK451.out⟩, ⟨by (with_reducible repeat (first | refine blk_drewN ?_ _ | refine blk_drew ?_ | refine blk_alloc ?_ _)); refine blk_far ?_ (by have h_ := Kd.R_ne HO_456001.out BK455.out (by decide); intro e_; exact h_ (by rw [e_]; rfl)) _; (with_reducible repeat (first | refine blk_drewN ?_ _ | refine blk_drew ?_ | refine blk_alloc ?_ _)); exact BK455.out⟩, ⟨tb⟩⟩
     ·rw [if_neg c18] at H
      exact absurd H (by simp)
    ·rw [if_neg c17] at H
     exact absurd H (by simp)
   ·rw [if_neg c16] at H
    have c16b0 : decide (x8_1 < (l1_1.length : Int)) = false := decide_eq_false c16
    clear c16
    simp only [Option.some.injEq, Prod.mk.injEq] at H
    obtain ⟨rfl, rfl⟩ := H
    have hnb27 := NB450_449.out
    have hnc27 := NB449_450.out
    have hnb28 := NB450_451.out
    have hnc28 := NB451_450.out
    have hnb29 := NB450_455.out
    have hnc29 := NB455_450.out
    have hcz30_0 : wr.cell? ⟨gb450, 0, none⟩ = some (.int .i64 a1_0) := (blk_cell BK450.out 0).trans rfl
    have hcz30_1 : wr.cell? ⟨gb450, 1, none⟩ = some (.slice A1_1 l1_1.length c1_1) := (blk_cell BK450.out 1).trans rfl
    have hfz30_0 := blk_frozen BK450.out 0
    have hfz30_1 := blk_frozen BK450.out 1
    have hnb31 := NB455_449.out
    have hnc31 := NB449_455.out
    have hnb32 := NB455_451.out
    have hnc32 := NB451_455.out
    have hcz33_0 : wr.cell? ⟨gb455, 0, none⟩ = some (.int .i64 a0_0) := (blk_cell BK455.out 0).trans rfl
    have hcz33_1 : wr.cell? ⟨gb455, 1, none⟩ = some (u456001) := (blk_cell BK455.out 1).trans rfl
    have hfz33_0 := blk_frozen BK455.out 0
    have hfz33_1 := blk_frozen BK455.out 1
    have hnb34 := NB451_449.out
    have hnc34 := NB449_451.out
    have hcz35_0 : wr.cell? ⟨gb451, 0, none⟩ = some (.int .i64 0) := (blk_cell BK451.out 0).trans rfl
    have hcz35_1 : wr.cell? ⟨gb451, 1, none⟩ = some (.slice none 0 0) := (blk_cell BK451.out 1).trans rfl
    have hfz35_0 := blk_frozen BK451.out 0
    have hfz35_1 := blk_frozen BK451.out 1
    obtain ⟨Ao36, co36, eo36⟩ := Kd.R_slice HO_456001.out
    subst eo36
    go_wp2
    refine bodyPost_ret (results_cell_row rfl _ _ gb451 32 #[.int .i64 a0_0, .slice Ao36 x456001_1.length co36] (0, 0) _ rfl (by (with_reducible repeat (first | refine blk_drewN ?_ _ | refine blk_drew ?_ | refine blk_alloc ?_ _)); refine blk_put (cs := #[.int .i64 a0_0, .slice none 0 0]) ?_ 1 _ rfl; (with_reducible repeat (first | refine blk_drewN ?_ _ | refine blk_drew ?_ | refine blk_alloc ?_ _)); refine blk_put (cs := #[.int .i64 0, .slice none 0 0]) ?_ 0 _ rfl; (with_reducible repeat (first | refine blk_drewN ?_ _ | refine blk_drew ?_ | refine blk_alloc ?_ _)); exact BK451.out) Try.underlying32 rfl (by kernel_rfl)) rfl ?_
    exact ⟨_, by first | rfl | (simp [errW_none, errW_some] <;> rfl) | (simp [*, errW_none, errW_some] <;> rfl), by (with_reducible repeat (first | apply Kd.R_alloc | apply Kd.R_drewN | apply Kd.R_drew)); exact Kd.R_mono (Kd.R_far (p := ⟨gb451, 1, none⟩) (Kd.R_far (p := ⟨gb451, 0, none⟩) (Kd.R_types HO_456001.out BK451.out (by decide)) (fun _ hk => hk.2) (.int .i64 a0_0)) (fun _ hk => hk.2) (.slice Ao36 x456001_1.length co36)) (fun _ hk => trivial), tb⟩

/-! ### spec_l01Phi: function 231 -/
def spec_l01Phi.l0 : Nat → Int → Int → Int → Option (Int)
 | 0, _, _, _ => none
 | k + 1, x0, x3, x4 => if x4 ≤ x0 then ((spec_l01Gcd.f k x4 x0).bind fun t459 => (if t459 = 1 then (spec_l01Phi.l0 k x0 (wrap64 (x3 + 1)) (wrap64 (x4 + 1))) else (spec_l01Phi.l0 k x0 x3 (wrap64 (x4 + 1))))) else (some x3)
def spec_l01Phi.f (k : Nat) (a0 : Int) : Option (Int) := spec_l01Phi.l0 k a0 0 1
set_option maxHeartbeats 8000000 in
set_option maxRecDepth 100000 in
theorem spec_l01Phi.calls (k : Nat) (a0 : Int) (r : Int) (w : World) (h : spec_l01Phi.f k a0 = some r) :
  Calls Try.prog 231 #[.int .i64 a0] w fun e w' => e = .returned (.int .i64 r) ∧ Below w.heap.size w w' := by
 have HB := Aside0.mk (Below.refl w.heap.size w)
 have H : (spec_l01Phi.l0 k a0 0 1) = some r := h
 clear h
 have H' := Aside0.mk H
 clear H
 go_enter Try.func231, Try.ntmps231
 go_wp2
 go_loopg [3, 4] k (fun kq v3 v4 w' => ∃ (x3_1 : Int) (x4_1 : Int), v3 = .int .i64 x3_1 ∧ v4 = .int .i64 x4_1 ∧ Aside0 (spec_l01Phi.l0 kq a0 x3_1 x4_1 = some r) ∧ Aside0 (kq ≤ k) ∧ Aside0 (Below w.heap.size w w'))
 case atStart => exact ⟨(0), (1), (by first | rfl | (simp; done) | (simp [*]; done)), (by first | rfl | (simp; done) | (simp [*]; done)), H', ⟨Nat.le_refl _⟩, ⟨tb⟩⟩
 case round =>
  clear H'
  obtain ⟨x3_1, x4_1, rfl, rfl, HA, HK1, HB⟩ := hrel
  cases gk with
  | zero => exact absurd HA.out (by simp [spec_l01Phi.l0])
  | succ k1 =>
   have H := HA.out
   clear HA
   simp only [spec_l01Phi.l0] at H
   by_cases c2 : x4_1 ≤ a0
   ·rw [if_pos c2] at H
    have c2b0 : decide (x4_1 ≤ a0) = true := decide_eq_true c2
    clear c2
    replace H := Option.bind_eq_some_iff.mp H
    obtain ⟨t459, A30, H⟩ := H
    replace H : (if t459 = 1 then (spec_l01Phi.l0 k1 a0 (wrap64 (x3_1 + 1)) (wrap64 (x4_1 + 1))) else (spec_l01Phi.l0 k1 a0 x3_1 (wrap64 (x4_1 + 1)))) = some r := H
    have A3 := Aside0.mk A30
    clear A30
    by_cases c4 : t459 = 1
    ·rw [if_pos c4] at H
     have c4b0 : (t459 == 1) = true := beq_iff_eq.mpr c4
     have c4b1 : (t459 != 1) = false := bne_eq_false_iff_eq.mpr c4
     clear c4
     have H' := Aside0.mk H
     clear H
     go_wp2_with (first | ((with_reducible refine gate_callee (f := 180) rfl ?_); refine goesL_ (some 12) rfl rfl Try.func180 (by kernel_rfl) rfl #[.int .i64 x4_1, .int .i64 a0] rfl ar ?_; (with_reducible refine (spec_l01Gcd.calls k1 x4_1 a0 t459 _ A3.out).mono ?_); rintro e w5 ⟨rfl, hb⟩; refine ⟨_, rfl, ?_⟩; replace HB := Aside0.mk (below_step tb hb); (try clear hb); (try clear hb2); (try clear hk); (try clear hi)))
     go_roundg k1
     case measure => have := HK1.out; omega
     case rel => exact ⟨(wrap64 (x3_1 + 1)), (wrap64 (x4_1 + 1)), (by first | rfl | (simp; done) | (simp [*]; done)), (by first | rfl | (simp; done) | (simp [*]; done)), H', ⟨by have := HK1.out; omega⟩, ⟨tb⟩⟩
    ·rw [if_neg c4] at H
     have c4b0 : (t459 == 1) = false := beq_eq_false_iff_ne.mpr c4
     have c4b1 : (t459 != 1) = true := bne_iff_ne.mpr c4
     have H' := Aside0.mk H
     clear H
     go_wp2_with (first | ((with_reducible refine gate_callee (f := 180) rfl ?_); refine goesL_ (some 12) rfl rfl Try.func180 (by kernel_rfl) rfl #[.int .i64 x4_1, .int .i64 a0] rfl ar ?_; (with_reducible refine (spec_l01Gcd.calls k1 x4_1 a0 t459 _ A3.out).mono ?_); rintro e w6 ⟨rfl, hb⟩; refine ⟨_, rfl, ?_⟩; replace HB := Aside0.mk (below_step tb hb); (try clear hb); (try clear hb2); (try clear hk); (try clear hi)))
     go_roundg k1
     case measure => have := HK1.out; omega
     case rel => exact ⟨(x3_1), (wrap64 (x4_1 + 1)), (by first | rfl | (simp; done) | (simp [*]; done)), (by first | rfl | (simp; done) | (simp [*]; done)), H', ⟨by have := HK1.out; omega⟩, ⟨tb⟩⟩
   ·rw [if_neg c2] at H
    have c2b0 : decide (x4_1 ≤ a0) = false := decide_eq_false c2
    clear c2
    obtain rfl := Option.some.inj H
    go_wp2
    go_ret
    exact ⟨by first | rfl | (simp [errW_none, errW_some] <;> rfl) | (simp [*, errW_none, errW_some] <;> rfl), tb⟩

/-! ### spec_l01Zero: function 212 -/
def spec_l01Zero.f (k : Nat) (a0 : Int) : Option (Int × List Int) := (spec_l01Phi.f k a0).bind fun t461 => (if 0 ≤ t461 then (if (t461 : Int).toNat ≤ 35184372088832 then (some (a0, (List.replicate (t461 : Int).toNat 0))) else (none)) else (none))
set_option maxHeartbeats 8000000 in
set_option maxRecDepth 100000 in
theorem spec_l01Zero.calls (k : Nat) (a0 : Int) (r1 : Int) (r2 : List Int) (w : World) (h : spec_l01Zero.f k a0 = some (r1, r2)) :
  Calls Try.prog 212 #[.int .i64 a0] w fun e w' => ∃ v1_ : Value, e = .returned (.agg #[.int .i64 r1, v1_]) ∧ Kd.R (Kd.int .i64) 2 w' w.heap.size (fun _ => True) v1_ r2 ∧ Below w.heap.size w w' := by
 have hu32 := Try.underlying32
 have HB := Aside0.mk (Below.refl w.heap.size w)
 have H : ((spec_l01Phi.f k a0).bind fun t461 => (if 0 ≤ t461 then (if (t461 : Int).toNat ≤ 35184372088832 then (some (a0, (List.replicate (t461 : Int).toNat 0))) else (none)) else (none))) = some (r1, r2) := h
 clear h
 replace H := Option.bind_eq_some_iff.mp H
 obtain ⟨t461, A20, H⟩ := H
 replace H : (if 0 ≤ t461 then (if (t461 : Int).toNat ≤ 35184372088832 then (some (a0, (List.replicate (t461 : Int).toNat 0))) else (none)) else (none)) = some (r1, r2) := H
 have A2 := Aside0.mk A20
 clear A20
 by_cases c3 : 0 ≤ t461
 ·rw [if_pos c3] at H
  have c3b0 := eq_true c3
  have c3b1 : decide (0 ≤ t461) = true := decide_eq_true c3
  clear c3
  by_cases c4 : (t461 : Int).toNat ≤ 35184372088832
  ·rw [if_pos c4] at H
   have c4b0 := eq_true c4
   have c4b1 : decide ((t461 : Int).toNat ≤ 35184372088832) = true := decide_eq_true c4
   clear c4
   obtain ⟨y462, hy462⟩ : ∃ y_ : List Int, y_ = (List.replicate (t461 : Int).toNat 0) := ⟨_, rfl⟩
   replace H : (some (a0, y462)) = some (r1, r2) := by first | (rw [hy462]; with_reducible exact H) | (rw [hy462]; with_reducible exact (bs H :)) | with_reducible exact (bs H :) | exact H
   have Ny462 := Aside0.mk hy462
   clear hy462
   simp only [Option.some.injEq, Prod.mk.injEq] at H
   obtain ⟨rfl, rfl⟩ := H
   go_enter Try.func212, Try.ntmps212
   go_wp2_with (first | ((with_reducible refine gate_dst (N := 2) rfl ?_); refine box_event ?hg (N := 2) ?hd (cs := #[.int .i64 0, .slice none 0 0]) (t := 32) ?hr ?_; (case hd => rfl); (case hg => rfl); (case hr => first | (go_simp; done) | (go_simp; rfl)); intro gb460 hg w5 hbox hb; have BK460 := Aside0.mk (hbox); have GW460 := Aside0.mk ((by rw [hg]; exact (below_size tb) : w.heap.size ≤ gb460)); have GE460 := Aside0.mk ((by rw [hg]; exact (below_size tb) : w.heap.size ≤ gb460)); replace HB := Aside0.mk (below_step tb hb); clear hb hbox hg) | ((with_reducible refine gate_callee (f := 231) rfl ?_); refine goesL_ (some 5) rfl rfl Try.func231 (by kernel_rfl) rfl #[.int .i64 a0] rfl ar ?_; (with_reducible refine (spec_l01Phi.calls k a0 t461 _ A2.out).mono ?_); rintro e w6 ⟨rfl, hb⟩; refine ⟨_, rfl, ?_⟩; replace BK460 := Aside0.mk (blk_below (kb BK460.out) hb); replace HB := Aside0.mk (below_step tb hb); (try clear hb); (try clear hb2); (try clear hk); (try clear hi)) | ((with_reducible refine gate_dst (N := 6) rfl ?_); refine Kd.R_make (Kd.int .i64) _ 2 rfl (N := 6) rfl 27 _ _ rfl t461 rfl rfl Try.underlying27 (.int .i64 0) 8 info2 rfl (by decide) (by omega) 0 (ok := fun _ => True) (okp := fun _ => True) rfl (fun _ hk => hk) trivial (od) (Nat.le_trans (Nat.mul_le_mul_right _ (od : t461.toNat ≤ 35184372088832)) (by omega)) (Below.refl _ _) (Nat.le_refl _) ?_; intro v463 w7 ho8 hb hg_ hnew_; clear hg_ hnew_; (first | rw [← Ny462.out] at ho8 | (simp only [Int.reduceToNat] at ho8; rw [← Ny462.out] at ho8)); have HO464 := Aside0.mk (Kd.R_lower ho8 (below_size tb)); replace BK460 := Aside0.mk (blk_below (kb BK460.out) hb); replace HB := Aside0.mk (below_step tb hb); clear hb ho8; obtain ⟨Ao9, co9, eo9⟩ := Kd.R_slice HO464.out; subst eo9; have hcz10_0 : w7.cell? ⟨gb460, 0, none⟩ = some (.int .i64 0) := (blk_cell BK460.out 0).trans rfl; have hcz10_1 : w7.cell? ⟨gb460, 1, none⟩ = some (.slice none 0 0) := (blk_cell BK460.out 1).trans rfl; have hfz10_0 := blk_frozen BK460.out 0; have hfz10_1 := blk_frozen BK460.out 1))
   refine bodyPost_ret (results_cell_row rfl _ _ gb460 32 #[.int .i64 a0, .slice Ao9 y462.length co9] (0, 0) _ rfl (by (with_reducible repeat (first | refine blk_drewN ?_ _ | refine blk_drew ?_ | refine blk_alloc ?_ _)); refine blk_put (cs := #[.int .i64 a0, .slice none 0 0]) ?_ 1 _ rfl; (with_reducible repeat (first | refine blk_drewN ?_ _ | refine blk_drew ?_ | refine blk_alloc ?_ _)); refine blk_put (cs := #[.int .i64 0, .slice none 0 0]) ?_ 0 _ rfl; (with_reducible repeat (first | refine blk_drewN ?_ _ | refine blk_drew ?_ | refine blk_alloc ?_ _)); exact BK460.out) Try.underlying32 rfl (by kernel_rfl)) rfl ?_
   exact ⟨_, by first | rfl | (simp [errW_none, errW_some] <;> rfl) | (simp [*, errW_none, errW_some] <;> rfl), by (with_reducible repeat (first | apply Kd.R_alloc | apply Kd.R_drewN | apply Kd.R_drew)); exact Kd.R_mono (Kd.R_far (p := ⟨gb460, 1, none⟩) (Kd.R_far (p := ⟨gb460, 0, none⟩) (Kd.R_types HO464.out BK460.out (by decide)) (fun _ hk => hk.2) (.int .i64 a0)) (fun _ hk => hk.2) (.slice Ao9 y462.length co9)) (fun _ hk => trivial), tb⟩
  ·rw [if_neg c4] at H
   exact absurd H (by simp)
 ·rw [if_neg c3] at H
  exact absurd H (by simp)

end Go.Proofs.Ytgcggngleiggiaa.Pr
