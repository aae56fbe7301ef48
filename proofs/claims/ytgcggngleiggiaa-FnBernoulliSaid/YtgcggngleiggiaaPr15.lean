-- Printed by a program of this session, hand-proved contracts among it.
import Derived.Test.YtgcggngleiggiaaPr0
import Derived.Test.YtgcggngleiggiaaPr9
import Derived.Test.YtgcggngleiggiaaPr10
import Derived.Test.YtgcggngleiggiaaPr14
namespace Go.Proofs.Ytgcggngleiggiaa.Pr
open Go.RowKit Go.Proofs.YtgcggngleiggiaaW.PrintWords Go.Proofs.YtgcggngleiggiaaW.PrintLast Go.Proofs.YtgcggngleiggiaaW.PrintMore Go.Proofs.Ytgcggngleiggiaa.Sq
attribute [local go_sem] max2_int min2_int max_two min_two max_three min_three max_four min_four   -- for this text's walks alone
set_option linter.unusedVariables false
set_option linter.unusedSimpArgs false

/-! ### impl_IsCyclo: function 112 -/
def impl_IsCyclo.f (k : Nat) (a0_0 : Int) (l0_1 : List Int) : Option (Bool) := (impl_isOrder.f a0_0).bind fun t534 => (if t534 = true then ((impl_totient.f k a0_0).bind fun t535 => (if (l0_1.length : Int) = t535 then ((impl_areSmall.f l0_1 1000000000).bind fun t536 => (some t536)) else (some false))) else (some false))
def impl_IsCyclo.T1 : Bool × List (List Nat × List Nat) := (true, [([], []), ([0], [0]), ([1], [1]), ([2, 2], [2]), ([3], [3]), ([4, 3], [3, 4]), ([5, 3], [3, 5]), ([3], [3]), ([7, 3], [3, 7]), ([8, 3, 3], [3, 8]), ([6, 9, 3], [3, 6, 9]), ([3, 10], [3, 10]), ([11, 9], [11]), ([12], [12]), ([13, 12], [12, 13]), ([14, 12, 12], [12, 14]), ([12, 15], [12, 15]), ([16, 15, 0, 1, 2, 3, 4, 5, 6, 7, 8, 9, 10, 11, 12, 13, 14, 15, 16], [16])])
def impl_IsCyclo.B1 : List Nat := [0, 1, 3, 7, 15, 31, 63, 15, 143, 399, 1023, 2047, 4095, 8191, 16383, 32767, 65535, 131071]
theorem impl_IsCyclo.tab1 : rtab .any (opsOf Try.f112 1) = impl_IsCyclo.T1 := by kernel_rfl
theorem impl_IsCyclo.bits1 : waitsOk impl_IsCyclo.T1.2 impl_IsCyclo.B1 = true := by kernel_rfl
set_option maxHeartbeats 8000000 in
set_option maxRecDepth 100000 in
theorem impl_IsCyclo.calls (k : Nat) (a0_0 : Int) (A0_1 : Option Addr) (c0_1 : Nat) (l0_1 : List Int) (r : Bool) (w : World) (hr0_1 : Kd.C (Kd.int .i64) w A0_1 l0_1.length l0_1) (hc0_1 : l0_1.length ≤ c0_1) (h : impl_IsCyclo.f k a0_0 l0_1 = some r) :
  Calls Try.prog 112 #[.agg #[.int .i64 a0_0, .slice A0_1 l0_1.length c0_1]] w fun e w' => e = .returned (.bool r) ∧ Below w.heap.size w w' := by
 have hu32 := Try.underlying32
 have HR0_1 := Aside0.mk hr0_1
 have HC0_1 := Aside0.mk hc0_1
 clear hr0_1 hc0_1
 have HB := Aside0.mk (Below.refl w.heap.size w)
 have H : ((impl_isOrder.f a0_0).bind fun t534 => (if t534 = true then ((impl_totient.f k a0_0).bind fun t535 => (if (l0_1.length : Int) = t535 then ((impl_areSmall.f l0_1 1000000000).bind fun t536 => (some t536)) else (some false))) else (some false))) = some r := h
 clear h
 replace H := Option.bind_eq_some_iff.mp H
 obtain ⟨t534, A20, H⟩ := H
 replace H : (if t534 = true then ((impl_totient.f k a0_0).bind fun t535 => (if (l0_1.length : Int) = t535 then ((impl_areSmall.f l0_1 1000000000).bind fun t536 => (some t536)) else (some false))) else (some false)) = some r := H
 have A2 := Aside0.mk A20
 clear A20
 by_cases c3 : t534 = true
 ·subst c3
  have H1 : ((impl_totient.f k a0_0).bind fun t535 => (if (l0_1.length : Int) = t535 then ((impl_areSmall.f l0_1 1000000000).bind fun t536 => (some t536)) else (some false))) = some r := by rw [if_pos rfl] at H; exact H
  clear H
  have H := H1
  clear H1
  replace H := Option.bind_eq_some_iff.mp H
  obtain ⟨t535, A40, H⟩ := H
  replace H : (if (l0_1.length : Int) = t535 then ((impl_areSmall.f l0_1 1000000000).bind fun t536 => (some t536)) else (some false)) = some r := H
  have A4 := Aside0.mk A40
  clear A40
  by_cases c5 : (l0_1.length : Int) = t535
  ·rw [if_pos c5] at H
   have c5b0 : ((l0_1.length : Int) == t535) = true := beq_iff_eq.mpr c5
   have c5b1 : ((l0_1.length : Int) != t535) = false := bne_eq_false_iff_eq.mpr c5
   clear c5
   replace H := Option.bind_eq_some_iff.mp H
   obtain ⟨t536, A60, H⟩ := H
   replace H : (some t536) = some r := H
   have A6 := Aside0.mk A60
   clear A60
   obtain rfl := Option.some.inj H
   go_enter Try.func112, Try.ntmps112
   try go_wp2_with (first | ((with_reducible refine gate_dst (N := 1) rfl ?_); (try (refine gate_guard (by rfl) ?_; dsimp only)); refine box_event ?hg (N := 1) ?hd (cs := #[.int .i64 a0_0, .slice A0_1 l0_1.length c0_1]) (t := 32) ?hr ?_; (case hd => rfl); (case hg => rfl); (case hr => first | (go_simp; done) | (go_simp; rfl)); intro gb533 hg w7 hbox hb; have BK533 := Aside0.mk (hbox); have GW533 := Aside0.mk ((by rw [hg]; exact (below_size tb) : w.heap.size ≤ gb533)); have GE533 := Aside0.mk ((by rw [hg]; exact (below_size tb) : w.heap.size ≤ gb533)); replace HB := Aside0.mk (below_step tb hb); clear hb hbox hg))
   replace BK533 := Aside0.mk (blk_drew BK533.out)
   replace HB := Aside0.mk (below_drew1 HB.out)
   refine start_ (n := 18) (S := fun w' => w'.cell? ⟨gb533, 0, none⟩ = some (.int .i64 a0_0) ∧ w'.cell? ⟨gb533, 1, none⟩ = some (.slice A0_1 l0_1.length c0_1)) (ds := []) #[false, false, false, false, false, false, false, false, false, false, false, false, false, false, false, false, false, false] (by kernel_rfl) rfl rfl ⟨(blk_cell BK533.out 0).trans rfl, (blk_cell BK533.out 1).trans rfl⟩ (fun hHeld => ?_); refine with_tabW impl_IsCyclo.tab1 impl_IsCyclo.bits1 (fun HT_ HW_ => ?_)
   generalize w7.drew = w8 at BK533 HB hHeld ⊢
   refine pu 0 (some 3) #[true, false, false, false, false, false, false, false, false, false, false, false, false, false, false, false, false, false] ?_
   refine tk 1 (some 4) #[true, true, false, false, false, false, false, false, false, false, false, false, false, false, false, false, false, false] hHeld ?_
   refine one_ (i := 2) (N := some 5) #[true, true, true, false, false, false, false, false, false, false, false, false, false, false, false, false, false, false] rfl rfl (one_of HT_.out (by kernel_rfl)) (by decide) (fun K hK => ?_)
   refine goes_ Try.func187 (by kernel_rfl) rfl #[.int .i64 a0_0] (by rfl) rfl rfl ar ?_
   with_reducible refine (impl_isOrder.calls a0_0 true _ A2.out).mono ?_
   rintro e w' ⟨rfl, ⟨nd, rfl⟩⟩
   refine ⟨_, rfl, ?_⟩
   refine hK.out _ _ ⟨(blk_cell BK533.out 0).trans rfl, (blk_cell BK533.out 1).trans rfl⟩ (fun hHeld => ?_)
   clear hK K
   refine nr ?_
   refine pu 3 (some 6) #[true, true, true, true, false, false, false, false, false, false, false, false, false, false, false, false, false, false] ?_
   refine pu 4 (some 7) #[true, true, true, true, true, false, false, false, false, false, false, false, false, false, false, false, false, false] ?_
   refine pu 7 (some 10) #[true, true, true, true, true, false, false, true, false, false, false, false, false, false, false, false, false, false] ?_
   refine tk 5 (some 8) #[true, true, true, true, true, true, false, true, false, false, false, false, false, false, false, false, false, false] hHeld ?_
   refine pu 6 (some 9) #[true, true, true, true, true, true, true, true, false, false, false, false, false, false, false, false, false, false] ?_
   refine tk 8 (some 11) #[true, true, true, true, true, true, true, true, true, false, false, false, false, false, false, false, false, false] hHeld ?_
   refine one_ (i := 9) (N := some 12) #[true, true, true, true, true, true, true, true, true, true, false, false, false, false, false, false, false, false] rfl rfl (one_of HT_.out (by kernel_rfl)) (by decide) (fun K hK => ?_)
   refine goes_ Try.func216 (by kernel_rfl) rfl #[.int .i64 a0_0] (by rfl) rfl rfl ar ?_
   with_reducible refine (impl_totient.calls k a0_0 t535 _ A4.out).mono ?_
   rintro e w9 ⟨rfl, hb⟩
   refine ⟨_, rfl, ?_⟩
   replace BK533 := Aside0.mk (blk_below (kb BK533.out) hb)
   replace HB := Aside0.mk (below_step tb hb)
   (try clear hb)
   (try clear hb2)
   (try clear hk)
   (try clear hi)
   refine hK.out _ _ ⟨(blk_cell BK533.out 0).trans rfl, (blk_cell BK533.out 1).trans rfl⟩ (fun hHeld => ?_)
   clear hK K
   refine nr ?_
   refine pu 10 (some 13) #[true, true, true, true, true, true, true, true, true, true, true, false, false, false, false, false, false, false] ?_
   refine pu 11 (some 14) #[true, true, true, true, true, true, true, true, true, true, true, true, false, false, false, false, false, false] ?_
   refine pu 12 (some 15) #[true, true, true, true, true, true, true, true, true, true, true, true, true, false, false, false, false, false] ?_
   refine pu 13 (some 16) #[true, true, true, true, true, true, true, true, true, true, true, true, true, true, false, false, false, false] ?_
   refine tk 14 (some 17) #[true, true, true, true, true, true, true, true, true, true, true, true, true, true, true, false, false, false] hHeld ?_
   refine one_ (i := 15) (N := some 18) #[true, true, true, true, true, true, true, true, true, true, true, true, true, true, true, true, false, false] rfl rfl (one_of HT_.out (by kernel_rfl)) (by decide) (fun K hK => ?_)
   refine goes_ Try.func204 (by kernel_rfl) rfl #[.slice A0_1 l0_1.length c0_1, .int .i64 1000000000] (by rfl) rfl rfl ar ?_
   with_reducible refine (impl_areSmall.calls _ _ l0_1 1000000000 t536 _ ?side1 ?side2 A6.out).mono ?_
   (case side1 => exact kC (Kd.C_below HR0_1.out HB.out))
   (case side2 => exact HC0_1.out)
   rintro e w10 ⟨rfl, hb⟩
   refine ⟨_, rfl, ?_⟩
   replace BK533 := Aside0.mk (blk_below (kb BK533.out) hb)
   replace HB := Aside0.mk (below_step tb hb)
   (try clear hb)
   (try clear hb2)
   (try clear hk)
   (try clear hi)
   refine hK.out _ _ ⟨(blk_cell BK533.out 0).trans rfl, (blk_cell BK533.out 1).trans rfl⟩ (fun hHeld => ?_)
   clear hK K
   refine nr ?_
   refine pu 16 (some 19) #[true, true, true, true, true, true, true, true, true, true, true, true, true, true, true, true, true, false] ?_
   refine pu 17 (some 2) #[true, true, true, true, true, true, true, true, true, true, true, true, true, true, true, true, true, true] ?_
   refine done_ (done_of HT_.out (by kernel_rfl)) ?_
   try go_wp2
   go_ret
   exact ⟨by first | rfl | (simp [errW_none, errW_some] <;> rfl) | (simp [*, errW_none, errW_some] <;> rfl), tb⟩
  ·rw [if_neg c5] at H
   have c5b0 : ((l0_1.length : Int) == t535) = false := beq_eq_false_iff_ne.mpr c5
   have c5b1 : ((l0_1.length : Int) != t535) = true := bne_iff_ne.mpr c5
   obtain rfl := Option.some.inj H
   go_enter Try.func112, Try.ntmps112
   try go_wp2_with (first | ((with_reducible refine gate_dst (N := 1) rfl ?_); (try (refine gate_guard (by rfl) ?_; dsimp only)); refine box_event ?hg (N := 1) ?hd (cs := #[.int .i64 a0_0, .slice A0_1 l0_1.length c0_1]) (t := 32) ?hr ?_; (case hd => rfl); (case hg => rfl); (case hr => first | (go_simp; done) | (go_simp; rfl)); intro gb533 hg w11 hbox hb; have BK533 := Aside0.mk (hbox); have GW533 := Aside0.mk ((by rw [hg]; exact (below_size tb) : w.heap.size ≤ gb533)); have GE533 := Aside0.mk ((by rw [hg]; exact (below_size tb) : w.heap.size ≤ gb533)); replace HB := Aside0.mk (below_step tb hb); clear hb hbox hg))
   replace BK533 := Aside0.mk (blk_drew BK533.out)
   replace HB := Aside0.mk (below_drew1 HB.out)
   refine start_ (n := 18) (S := fun w' => w'.cell? ⟨gb533, 0, none⟩ = some (.int .i64 a0_0) ∧ w'.cell? ⟨gb533, 1, none⟩ = some (.slice A0_1 l0_1.length c0_1)) (ds := []) #[false, false, false, false, false, false, false, false, false, false, false, false, false, false, false, false, false, false] (by kernel_rfl) rfl rfl ⟨(blk_cell BK533.out 0).trans rfl, (blk_cell BK533.out 1).trans rfl⟩ (fun hHeld => ?_); refine with_tabW impl_IsCyclo.tab1 impl_IsCyclo.bits1 (fun HT_ HW_ => ?_)
   generalize w11.drew = w12 at BK533 HB hHeld ⊢
   refine pu 0 (some 3) #[true, false, false, false, false, false, false, false, false, false, false, false, false, false, false, false, false, false] ?_
   refine tk 1 (some 4) #[true, true, false, false, false, false, false, false, false, false, false, false, false, false, false, false, false, false] hHeld ?_
   refine one_ (i := 2) (N := some 5) #[true, true, true, false, false, false, false, false, false, false, false, false, false, false, false, false, false, false] rfl rfl (one_of HT_.out (by kernel_rfl)) (by decide) (fun K hK => ?_)
   refine goes_ Try.func187 (by kernel_rfl) rfl #[.int .i64 a0_0] (by rfl) rfl rfl ar ?_
   with_reducible refine (impl_isOrder.calls a0_0 true _ A2.out).mono ?_
   rintro e w' ⟨rfl, ⟨nd, rfl⟩⟩
   refine ⟨_, rfl, ?_⟩
   refine hK.out _ _ ⟨(blk_cell BK533.out 0).trans rfl, (blk_cell BK533.out 1).trans rfl⟩ (fun hHeld => ?_)
   clear hK K
   refine nr ?_
   refine pu 3 (some 6) #[true, true, true, true, false, false, false, false, false, false, false, false, false, false, false, false, false, false] ?_
   refine pu 4 (some 7) #[true, true, true, true, true, false, false, false, false, false, false, false, false, false, false, false, false, false] ?_
   refine pu 7 (some 10) #[true, true, true, true, true, false, false, true, false, false, false, false, false, false, false, false, false, false] ?_
   refine tk 5 (some 8) #[true, true, true, true, true, true, false, true, false, false, false, false, false, false, false, false, false, false] hHeld ?_
   refine pu 6 (some 9) #[true, true, true, true, true, true, true, true, false, false, false, false, false, false, false, false, false, false] ?_
   refine tk 8 (some 11) #[true, true, true, true, true, true, true, true, true, false, false, false, false, false, false, false, false, false] hHeld ?_
   refine one_ (i := 9) (N := some 12) #[true, true, true, true, true, true, true, true, true, true, false, false, false, false, false, false, false, false] rfl rfl (one_of HT_.out (by kernel_rfl)) (by decide) (fun K hK => ?_)
   refine goes_ Try.func216 (by kernel_rfl) rfl #[.int .i64 a0_0] (by rfl) rfl rfl ar ?_
   with_reducible refine (impl_totient.calls k a0_0 t535 _ A4.out).mono ?_
   rintro e w13 ⟨rfl, hb⟩
   refine ⟨_, rfl, ?_⟩
   replace BK533 := Aside0.mk (blk_below (kb BK533.out) hb)
   replace HB := Aside0.mk (below_step tb hb)
   (try clear hb)
   (try clear hb2)
   (try clear hk)
   (try clear hi)
   refine hK.out _ _ ⟨(blk_cell BK533.out 0).trans rfl, (blk_cell BK533.out 1).trans rfl⟩ (fun hHeld => ?_)
   clear hK K
   refine nr ?_
   refine pu 10 (some 13) #[true, true, true, true, true, true, true, true, true, true, true, false, false, false, false, false, false, false] ?_
   refine pu 11 (some 14) #[true, true, true, true, true, true, true, true, true, true, true, true, false, false, false, false, false, false] ?_
   refine pu 12 (some 15) #[true, true, true, true, true, true, true, true, true, true, true, true, true, false, false, false, false, false] ?_
   refine pz 13 (some 16) #[true, true, true, true, true, true, true, true, true, true, true, true, true, true, false, false, false, false] ?_
   refine pz 14 (some 17) #[true, true, true, true, true, true, true, true, true, true, true, true, true, true, true, false, false, false] ?_
   refine pz 15 (some 18) #[true, true, true, true, true, true, true, true, true, true, true, true, true, true, true, true, false, false] ?_
   refine pu 16 (some 19) #[true, true, true, true, true, true, true, true, true, true, true, true, true, true, true, true, true, false] ?_
   refine pu 17 (some 2) #[true, true, true, true, true, true, true, true, true, true, true, true, true, true, true, true, true, true] ?_
   refine done_ (done_of HT_.out (by kernel_rfl)) ?_
   try go_wp2
   go_ret
   exact ⟨by first | rfl | (simp [errW_none, errW_some] <;> rfl) | (simp [*, errW_none, errW_some] <;> rfl), tb⟩
 ·replace c3 := Bool.eq_false_iff.mpr c3
  subst c3
  have H1 : (some false) = some r := by rw [if_neg (show ¬ (false = true) by decide)] at H; exact H
  clear H
  have H := H1
  clear H1
  obtain rfl := Option.some.inj H
  go_enter Try.func112, Try.ntmps112
  try go_wp2_with (first | ((with_reducible refine gate_dst (N := 1) rfl ?_); (try (refine gate_guard (by rfl) ?_; dsimp only)); refine box_event ?hg (N := 1) ?hd (cs := #[.int .i64 a0_0, .slice A0_1 l0_1.length c0_1]) (t := 32) ?hr ?_; (case hd => rfl); (case hg => rfl); (case hr => first | (go_simp; done) | (go_simp; rfl)); intro gb533 hg w14 hbox hb; have BK533 := Aside0.mk (hbox); have GW533 := Aside0.mk ((by rw [hg]; exact (below_size tb) : w.heap.size ≤ gb533)); have GE533 := Aside0.mk ((by rw [hg]; exact (below_size tb) : w.heap.size ≤ gb533)); replace HB := Aside0.mk (below_step tb hb); clear hb hbox hg))
  replace BK533 := Aside0.mk (blk_drew BK533.out)
  replace HB := Aside0.mk (below_drew1 HB.out)
  refine start_ (n := 18) (S := fun w' => w'.cell? ⟨gb533, 0, none⟩ = some (.int .i64 a0_0) ∧ w'.cell? ⟨gb533, 1, none⟩ = some (.slice A0_1 l0_1.length c0_1)) (ds := []) #[false, false, false, false, false, false, false, false, false, false, false, false, false, false, false, false, false, false] (by kernel_rfl) rfl rfl ⟨(blk_cell BK533.out 0).trans rfl, (blk_cell BK533.out 1).trans rfl⟩ (fun hHeld => ?_); refine with_tabW impl_IsCyclo.tab1 impl_IsCyclo.bits1 (fun HT_ HW_ => ?_)
  generalize w14.drew = w15 at BK533 HB hHeld ⊢
  refine pu 0 (some 3) #[true, false, false, false, false, false, false, false, false, false, false, false, false, false, false, false, false, false] ?_
  refine tk 1 (some 4) #[true, true, false, false, false, false, false, false, false, false, false, false, false, false, false, false, false, false] hHeld ?_
  refine one_ (i := 2) (N := some 5) #[true, true, true, false, false, false, false, false, false, false, false, false, false, false, false, false, false, false] rfl rfl (one_of HT_.out (by kernel_rfl)) (by decide) (fun K hK => ?_)
  refine goes_ Try.func187 (by kernel_rfl) rfl #[.int .i64 a0_0] (by rfl) rfl rfl ar ?_
  with_reducible refine (impl_isOrder.calls a0_0 false _ A2.out).mono ?_
  rintro e w' ⟨rfl, ⟨nd, rfl⟩⟩
  refine ⟨_, rfl, ?_⟩
  refine hK.out _ _ ⟨(blk_cell BK533.out 0).trans rfl, (blk_cell BK533.out 1).trans rfl⟩ (fun hHeld => ?_)
  clear hK K
  refine nr ?_
  refine pu 3 (some 6) #[true, true, true, true, false, false, false, false, false, false, false, false, false, false, false, false, false, false] ?_
  refine pz 4 (some 7) #[true, true, true, true, true, false, false, false, false, false, false, false, false, false, false, false, false, false] ?_
  refine pz 5 (some 8) #[true, true, true, true, true, true, false, false, false, false, false, false, false, false, false, false, false, false] ?_
  refine pz 6 (some 9) #[true, true, true, true, true, true, true, false, false, false, false, false, false, false, false, false, false, false] ?_
  refine pz 7 (some 10) #[true, true, true, true, true, true, true, true, false, false, false, false, false, false, false, false, false, false] ?_
  refine pz 8 (some 11) #[true, true, true, true, true, true, true, true, true, false, false, false, false, false, false, false, false, false] ?_
  refine pz 9 (some 12) #[true, true, true, true, true, true, true, true, true, true, false, false, false, false, false, false, false, false] ?_
  refine pz 10 (some 13) #[true, true, true, true, true, true, true, true, true, true, true, false, false, false, false, false, false, false] ?_
  refine pu 11 (some 14) #[true, true, true, true, true, true, true, true, true, true, true, true, false, false, false, false, false, false] ?_
  refine pu 12 (some 15) #[true, true, true, true, true, true, true, true, true, true, true, true, true, false, false, false, false, false] ?_
  refine pz 13 (some 16) #[true, true, true, true, true, true, true, true, true, true, true, true, true, true, false, false, false, false] ?_
  refine pz 14 (some 17) #[true, true, true, true, true, true, true, true, true, true, true, true, true, true, true, false, false, false] ?_
  refine pz 15 (some 18) #[true, true, true, true, true, true, true, true, true, true, true, true, true, true, true, true, false, false] ?_
  refine pu 16 (some 19) #[true, true, true, true, true, true, true, true, true, true, true, true, true, true, true, true, true, false] ?_
  refine pu 17 (some 2) #[true, true, true, true, true, true, true, true, true, true, true, true, true, true, true, true, true, true] ?_
  refine done_ (done_of HT_.out (by kernel_rfl)) ?_
  try go_wp2
  go_ret
  exact ⟨by first | rfl | (simp [errW_none, errW_some] <;> rfl) | (simp [*, errW_none, errW_some] <;> rfl), tb⟩

-- NOT PRINTED: function 234 (impl_sum_add)

-- NOT PRINTED: function 142 (impl_field_product)

-- NOT PRINTED: function 271 (impl_sum_value)

-- NOT PRINTED: function 237 (impl_values)

/-! ### impl_field_times: function 148 -/
def impl_field_times.f (a0_0 : Int) (a0_1 : Int) (l0_2 : List (List Int)) (l1 : List Int) (l2 : List Int) : Option (List Int × Bool) := Sm.timesF a0_0 a0_1 l0_2 l1 l2

set_option maxHeartbeats 8000000 in
set_option maxRecDepth 100000 in
theorem impl_field_times.calls (g0 : Nat) (a0_0 : Int) (a0_1 : Int) (A0_2 : Option Addr) (c0_2 : Nat) (l0_2 : List (List Int)) (A1 : Option Addr) (c1 : Nat) (l1 : List Int) (A2 : Option Addr) (c2 : Nat) (l2 : List Int) (r1 : List Int) (r2 : Bool) (w : World) (hg0 : w.heap[g0]? = some (.cells #[.int .i64 a0_0, .int .i64 a0_1, .slice A0_2 l0_2.length c0_2] 117 (0, 0))) (hr0_2 : Kd.C (Kd.slice 2 (Kd.int .i64)) w A0_2 l0_2.length l0_2) (hc0_2 : l0_2.length ≤ c0_2) (hr1 : Kd.C (Kd.int .i64) w A1 l1.length l1) (hc1 : l1.length ≤ c1) (hr2 : Kd.C (Kd.int .i64) w A2 l2.length l2) (hc2 : l2.length ≤ c2) (h : impl_field_times.f a0_0 a0_1 l0_2 l1 l2 = some (r1, r2)) :
  Calls Try.prog 148 #[.pointer (some ⟨g0, 0, none⟩), .slice A1 l1.length c1, .slice A2 l2.length c2] w fun e w' => ∃ v0_ : Value, e = .returned (.tuple #[v0_, .bool r2]) ∧ Kd.R (Kd.int .i64) 2 w' w.heap.size (fun _ => True) v0_ r1 ∧ Below w.heap.size w w' := by
 exact Sm.times_calls g0 a0_0 a0_1 A0_2 c0_2 l0_2 A1 c1 l1 A2 c2 l2 r1 r2 w hg0 hr0_2 hr1 hr2 h

/-! ### impl_field_whole: function 267 -/
def impl_field_whole.f (a0_0 : Int) (a0_1 : Int) (l0_2 : List (List Int)) (a1 : Int) : Option (List Int) := if 0 ≤ a0_1 then (if (a0_1 : Int).toNat ≤ 35184372088832 then ((some (List.replicate (a0_1 : Int).toNat 0 : List Int)).bind fun y537 => (if 0 < (y537.length : Int) then (some (y537.set (0 : Int).toNat a1)) else (none))) else (none)) else (none)
set_option maxHeartbeats 8000000 in
set_option maxRecDepth 100000 in
theorem impl_field_whole.calls (g0 : Nat) (a0_0 : Int) (a0_1 : Int) (A0_2 : Option Addr) (c0_2 : Nat) (l0_2 : List (List Int)) (a1 : Int) (r : List Int) (w : World) (hg0 : w.heap[g0]? = some (.cells #[.int .i64 a0_0, .int .i64 a0_1, .slice A0_2 l0_2.length c0_2] 117 (0, 0))) (hr0_2 : Kd.C (Kd.slice 2 (Kd.int .i64)) w A0_2 l0_2.length l0_2) (hc0_2 : l0_2.length ≤ c0_2) (h : impl_field_whole.f a0_0 a0_1 l0_2 a1 = some r) :
  Calls Try.prog 267 #[.pointer (some ⟨g0, 0, none⟩), .int .i64 a1] w fun e w' => ∃ v0_ : Value, e = .returned (v0_) ∧ Kd.R (Kd.int .i64) 2 w' w.heap.size (fun _ => True) v0_ r ∧ Below w.heap.size w w' := by
 have HR0_2 := Aside0.mk hr0_2
 have HC0_2 := Aside0.mk hc0_2
 clear hr0_2 hc0_2
 have BK0 := Aside0.mk hg0
 clear hg0
 have HB := Aside0.mk (Below.refl w.heap.size w)
 have H : (if 0 ≤ a0_1 then (if (a0_1 : Int).toNat ≤ 35184372088832 then ((some (List.replicate (a0_1 : Int).toNat 0 : List Int)).bind fun y537 => (if 0 < (y537.length : Int) then (some (y537.set (0 : Int).toNat a1)) else (none))) else (none)) else (none)) = some r := h
 clear h
 by_cases c3 : 0 ≤ a0_1
 ·rw [if_pos c3] at H
  have c3b0 := eq_true c3
  have c3b1 : decide (0 ≤ a0_1) = true := decide_eq_true c3
  clear c3
  by_cases c4 : (a0_1 : Int).toNat ≤ 35184372088832
  ·rw [if_pos c4] at H
   have c4b0 := eq_true c4
   have c4b1 : decide ((a0_1 : Int).toNat ≤ 35184372088832) = true := decide_eq_true c4
   clear c4
   obtain ⟨y537, hy537⟩ : ∃ y_ : List Int, y_ = (List.replicate (a0_1 : Int).toNat 0) := ⟨_, rfl⟩
   replace H : (if 0 < (y537.length : Int) then (some (y537.set (0 : Int).toNat a1)) else (none)) = some r := by first | (rw [hy537]; with_reducible exact H) | (rw [hy537]; with_reducible exact (bs H :)) | with_reducible exact (bs H :) | exact H
   have Ny537 := Aside0.mk hy537
   clear hy537
   by_cases c5 : 0 < (y537.length : Int)
   ·rw [if_pos c5] at H
    have c5b0 : decide (0 < (y537.length : Int)) = true := decide_eq_true c5
    have c5b1 : decide (0 < y537.length) = true := decide_eq_true (by omega)
    clear c5
    obtain ⟨y540, hy540⟩ : ∃ y_ : List Int, y_ = (y537.set (0 : Int).toNat a1) := ⟨_, rfl⟩
    replace H : (some y540) = some r := by first | (rw [hy540]; with_reducible exact H) | (rw [hy540]; with_reducible exact (bs H :)) | with_reducible exact (bs H :) | exact H
    have Ny540 := Aside0.mk hy540
    clear hy540
    obtain rfl := Option.some.inj H
    have hcz7_0 : w.cell? ⟨g0, 0, none⟩ = some (.int .i64 a0_0) := (blk_cell BK0.out 0).trans rfl
    have hcz7_1 : w.cell? ⟨g0, 1, none⟩ = some (.int .i64 a0_1) := (blk_cell BK0.out 1).trans rfl
    have hcz7_2 : w.cell? ⟨g0, 2, none⟩ = some (.slice A0_2 l0_2.length c0_2) := (blk_cell BK0.out 2).trans rfl
    have hfz7_0 := blk_frozen BK0.out 0
    have hfz7_1 := blk_frozen BK0.out 1
    have hfz7_2 := blk_frozen BK0.out 2
    go_enter Try.func267, Try.ntmps267
    go_wp2_with (first | ((with_reducible refine gate_dst (N := 10) rfl ?_); refine Kd.R_make (Kd.int .i64) _ 2 rfl (N := 10) rfl 27 _ _ rfl a0_1 rfl rfl Try.underlying27 (.int .i64 0) 8 info2 rfl (by decide) (by omega) 0 (ok := fun _ => True) (okp := fun _ => True) rfl (fun _ hk => hk) trivial (od) (Nat.le_trans (Nat.mul_le_mul_right _ (od : a0_1.toNat ≤ 35184372088832)) (by omega)) (Below.refl _ _) (Nat.le_refl _) ?_; intro v538 w8 ho9 hb hg_ hnew_; clear hg_ hnew_; (first | rw [← Ny537.out] at ho9 | (simp only [Int.reduceToNat] at ho9; rw [← Ny537.out] at ho9)); have HO539 := Aside0.mk (Kd.R_lower ho9 (below_size tb)); replace BK0 := Aside0.mk (blk_below (kb BK0.out) hb); replace HB := Aside0.mk (below_step tb hb); clear hb ho9; have p6 : 0 ≤ (0 : Int) := (by omega); have q6 : (0 : Int) < ((y537.length : Int) : Int) := od; have qi6 : (0 < y537.length) = True := eq_true (by omega); obtain ⟨go6, co6, eo6, gb6, gl6, cl6, HG6⟩ := Kd.R_form HO539.out (by omega); (first | cases eo6 | (injection eo6 with ea_ en_ ec_; (first | subst ea_ | (injection ea_ with ea_; subst ea_)); subst ec_; clear en_)); have GB6 := Aside0.mk gb6; have GG6 := Aside0.mk HG6; clear gb6 gl6 HG6; obtain ⟨hx6_0, hf6_0⟩ := Kd.R_celln 0 HO539.out (0 : Int) p6 q6; (try rw [show ((0 : Int)).toNat = 0 from rfl] at hx6_0); (try simp only [Nat.reduceMul, Nat.zero_mul, Nat.zero_add, Nat.reduceAdd] at hx6_0); (try rw [show ((0 : Int)).toNat = 0 from rfl] at hf6_0); (try simp only [Nat.reduceMul, Nat.zero_mul, Nat.zero_add, Nat.reduceAdd] at hf6_0); replace p6 := eq_true p6; replace q6 := eq_true q6; obtain ⟨hy10_, hz10_⟩ := Kd.R_celln 0 HO539.out (0 : Int) (by omega) (od); (try simp only [Int.reduceToNat, Int.toNat_zero, Int.toNat_ofNat, Nat.reduceMul, Nat.zero_mul, Nat.zero_add] at hy10_ hz10_); (try rw [show ((0 : Int)).toNat = 0 from rfl] at hy10_); (try rw [show ((0 : Int)).toNat = 0 from rfl] at hz10_); have HP10 := Kd.R_putg HO539.out (0 : Int) a1) | ((with_reducible refine gate_store (t := 2) (p := 13) rfl ?_); refine store_event (t := 2) (p := 13) (v := ?vo_w11) (w1 := (w8.setCell ⟨go6, (0 : Int).toNat, none⟩ (.int .i64 a1))) ?hg ?ho ?hn ?hr ?_; (case ho => rfl); (case hg => rfl); (case hn => rfl); (case hr => first | (go_simp; done) | (go_simp; rfl)); intro w11 hw; have hg : w8.grownBy w11 (some go6) := (by rw [hw]; exact HP10.2); have hp_ : Kd.R (Kd.int .i64) 2 w11 w.heap.size (fun _ => True) (.slice (some ⟨go6, 0, none⟩) y537.length co6) y540 := (by rw [hw, Ny540.out]; exact HP10.1); clear HP10; replace BK0 := Aside0.mk (blk_grown (kb BK0.out) hg (Kd.R_ne HO539.out BK0.out (by decide))); replace HO539 := Aside0.mk (hp_); replace HB := Aside0.mk ((by rw [hw]; exact below_set (HB.out) GB6.out : Below w.heap.size w w11)); clear hg hw hp_))
    go_ret
    exact ⟨_, by first | rfl | (simp [errW_none, errW_some] <;> rfl) | (simp [*, errW_none, errW_some] <;> rfl), kR HO539.out, tb⟩
   ·rw [if_neg c5] at H
    exact absurd H (by simp)
  ·rw [if_neg c4] at H
   exact absurd H (by simp)
 ·rw [if_neg c3] at H
  exact absurd H (by simp)

/-! ### impl_field_all: function 218 -/
def impl_field_all.l0 : Nat → List Int → List (List Int) → Int → Int → Int → Int → List (List Int) → Option (List Int × Bool)
 | 0, _, _, _, _, _, _, _ => none
 | k + 1, x6, x13, x14, x15, x1000, x1001, x1002 => if x15 < x14 then (if 0 ≤ x15 then (if x15 < (x13.length : Int) then ((impl_field_times.f x1000 x1001 x1002 x6 (rd_L3 x13 x15)).bind fun bt545 => (if bt545.2 = true then (impl_field_all.l0 k bt545.1 x13 x14 (wrap64 (x15 + 1)) x1000 x1001 x1002) else (some (([] : List Int), false)))) else (none)) else (none)) else (some (x6, true))
def impl_field_all.f (k : Nat) (a0_0 : Int) (a0_1 : Int) (l0_2 : List (List Int)) (l1 : List (List Int)) : Option (List Int × Bool) := (impl_field_whole.f a0_0 a0_1 l0_2 1).bind fun t541 => (impl_field_all.l0 k t541 l1 (l1.length : Int) 0 a0_0 a0_1 l0_2)
set_option maxHeartbeats 8000000 in
set_option maxRecDepth 100000 in
theorem impl_field_all.calls (k : Nat) (g0 : Nat) (a0_0 : Int) (a0_1 : Int) (A0_2 : Option Addr) (c0_2 : Nat) (l0_2 : List (List Int)) (A1 : Option Addr) (c1 : Nat) (l1 : List (List Int)) (r1 : List Int) (r2 : Bool) (w : World) (hg0 : w.heap[g0]? = some (.cells #[.int .i64 a0_0, .int .i64 a0_1, .slice A0_2 l0_2.length c0_2] 117 (0, 0))) (hr0_2 : Kd.C (Kd.slice 2 (Kd.int .i64)) w A0_2 l0_2.length l0_2) (hc0_2 : l0_2.length ≤ c0_2) (hr1 : Kd.C (Kd.slice 2 (Kd.int .i64)) w A1 l1.length l1) (hc1 : l1.length ≤ c1) (h : impl_field_all.f k a0_0 a0_1 l0_2 l1 = some (r1, r2)) :
  Calls Try.prog 218 #[.pointer (some ⟨g0, 0, none⟩), .slice A1 l1.length c1] w fun e w' => ∃ v0_ : Value, e = .returned (.tuple #[v0_, .bool r2]) ∧ Kd.R (Kd.int .i64) 2 w' w.heap.size (fun _ => True) v0_ r1 ∧ Below w.heap.size w w' := by
 have HR0_2 := Aside0.mk hr0_2
 have HC0_2 := Aside0.mk hc0_2
 clear hr0_2 hc0_2
 have HR1 := Aside0.mk hr1
 have HC1 := Aside0.mk hc1
 clear hr1 hc1
 have BK0 := Aside0.mk hg0
 clear hg0
 have HB := Aside0.mk (Below.refl w.heap.size w)
 have H : ((impl_field_whole.f a0_0 a0_1 l0_2 1).bind fun t541 => (impl_field_all.l0 k t541 l1 (l1.length : Int) 0 a0_0 a0_1 l0_2)) = some (r1, r2) := h
 clear h
 replace H := Option.bind_eq_some_iff.mp H
 obtain ⟨t541, A30, H⟩ := H
 replace H : (impl_field_all.l0 k t541 l1 (l1.length : Int) 0 a0_0 a0_1 l0_2) = some (r1, r2) := H
 have A3 := Aside0.mk A30
 clear A30
 have H' := Aside0.mk H
 clear H
 go_enter Try.func218, Try.ntmps218
 go_wp2_with (first | ((with_reducible refine gate_callee (f := 267) rfl ?_); refine goesL_ (some 12) rfl rfl Try.func267 (by kernel_rfl) rfl #[.pointer (some ⟨g0, 0, none⟩), .int .i64 1] rfl ar ?_; (with_reducible refine (impl_field_whole.calls g0 a0_0 a0_1 A0_2 c0_2 l0_2 1 t541 _ ?side1 ?side2 ?side3 A3.out).mono ?_); (case side1 => exact kb BK0.out); (case side2 => exact kC HR0_2.out); (case side3 => exact HC0_2.out); rintro e w4 ⟨v542, rfl, ho0, hb⟩; refine ⟨_, rfl, ?_⟩; have HO543 := Aside0.mk (Kd.R_lower ho0 (below_size tb)); replace BK0 := Aside0.mk (blk_below (kb BK0.out) hb); replace HB := Aside0.mk (below_step tb hb); (try clear hb); (try clear hb2); (try clear hk); (try clear hi); (try clear ho0)))
 go_loopg [6, 15] k (fun kq v6 v15 w' => ∃ (x6_1 : List Int) (x15_1 : Int) (x1000_1 : Int) (x1001_1 : Int), v15 = .int .i64 x15_1 ∧ Aside0 (impl_field_all.l0 kq x6_1 l1 (l1.length : Int) x15_1 x1000_1 x1001_1 l0_2 = some (r1, r2)) ∧ Aside0 (kq ≤ k) ∧ Aside0 (Kd.R (Kd.int .i64) 2 w' w.heap.size (fun _ => True) v6 x6_1) ∧ Aside0 (w'.heap[g0]? = some (.cells #[.int .i64 x1000_1, .int .i64 x1001_1, (.slice A0_2 l0_2.length c0_2)] 117 (0, 0))) ∧ Aside0 (Below w.heap.size w w'))
 case atStart => exact ⟨(t541), (0), (a0_0), (a0_1), (by first | rfl | (simp; done) | (simp [*]; done)), H', ⟨Nat.le_refl _⟩, ⟨kR HO543.out⟩, ⟨kb BK0.out⟩, ⟨tb⟩⟩
 case round =>
  clear H'
  try clear c1
  try clear c2
  try clear p2
  obtain ⟨x6_1, x15_1, x1000_1, x1001_1, rfl, HA, HK1, HO_6, BK0, HB⟩ := hrel
  cases gk with
  | zero => exact absurd HA.out (by simp [impl_field_all.l0])
  | succ k1 =>
   have H := HA.out
   clear HA
   simp only [impl_field_all.l0] at H
   by_cases c5 : x15_1 < (l1.length : Int)
   ·rw [if_pos c5] at H
    have c5b0 : decide (x15_1 < (l1.length : Int)) = true := decide_eq_true c5
    clear c5
    by_cases c6 : 0 ≤ x15_1
    ·rw [if_pos c6] at H
     have c6b0 : decide (0 ≤ x15_1) = true := decide_eq_true c6
     clear c6
     by_cases c7 : x15_1 < (l1.length : Int)
     ·rw [if_pos c7] at H
      have c7b0 : decide (x15_1 < (l1.length : Int)) = true := decide_eq_true c7
      clear c7
      replace H := Option.bind_eq_some_iff.mp H
      obtain ⟨⟨t545, t546⟩, A80, H⟩ := H
      replace H : (if t546 = true then (impl_field_all.l0 k1 t545 l1 (l1.length : Int) (wrap64 (x15_1 + 1)) x1000_1 x1001_1 l0_2) else (some (([] : List Int), false))) = some (r1, r2) := H
      have A8 := Aside0.mk A80
      clear A80
      by_cases c9 : t546 = true
      ·subst c9
       have H1 : (impl_field_all.l0 k1 t545 l1 (l1.length : Int) (wrap64 (x15_1 + 1)) x1000_1 x1001_1 l0_2) = some (r1, r2) := by rw [if_pos rfl] at H; exact H
       clear H
       have H := H1
       clear H1
       have H' := Aside0.mk H
       clear H
       have p544 : 0 ≤ (x15_1 : Int) := od
       have q544 : x15_1 < (l1.length : Int) := od
       obtain ⟨ad544, A544_0, c544_0, e544, hx544_0, hl544_0, hi544_0⟩ := at_L3 HR1.out x15_1 p544 q544
       cases e544
       replace hx544_0 := (HB.out.cell (World.block_lt_of_cell? _ _ hx544_0)).trans hx544_0
       have HR544_0 := Aside0.mk hi544_0
       have HC544_0 := Aside0.mk hl544_0
       clear hi544_0 hl544_0
       replace p544 := eq_true p544
       replace q544 := eq_true q544
       obtain ⟨Ao10, co10, eo10⟩ := Kd.R_slice HO_6.out
       subst eo10
       go_wp2_with (first | ((with_reducible refine gate_callee (f := 148) rfl ?_); refine goesL_ (some 23) rfl rfl Try.func148 (by kernel_rfl) rfl #[.pointer (some ⟨g0, 0, none⟩), .slice Ao10 x6_1.length co10, .slice A544_0 (rd_L3 l1 x15_1).length c544_0] rfl ar ?_; (with_reducible refine (impl_field_times.calls g0 x1000_1 x1001_1 A0_2 c0_2 l0_2 _ _ x6_1 _ _ (rd_L3 l1 x15_1) t545 true _ ?side1 ?side2 ?side3 ?side4 ?side5 ?side6 ?side7 A8.out).mono ?_); (case side1 => exact kb BK0.out); (case side2 => exact kC (Kd.C_below HR0_2.out HB.out)); (case side3 => exact HC0_2.out); (case side4 => exact kC (Kd.R_reads' HO_6.out).2.2); (case side5 => exact (Kd.R_reads' HO_6.out).2.1); (case side6 => exact kC (Kd.C_below HR544_0.out HB.out)); (case side7 => exact HC544_0.out); rintro e w11 ⟨v547, rfl, ho0, hb⟩; refine ⟨_, rfl, ?_⟩; have HO548 := Aside0.mk (Kd.R_lower (Kd.R_new' ho0 (Kd.R_lt (kR HO_6.out))) (below_size tb)); replace HO_6 := Aside0.mk (Kd.R_elder' (kR HO_6.out) (Kd.R_base ho0) hb); replace BK0 := Aside0.mk (blk_below (kb BK0.out) hb); replace HB := Aside0.mk (below_step tb hb); (try clear hb); (try clear hb2); (try clear hk); (try clear hi); (try clear ho0)))
       go_roundg k1
       case measure => have := HK1.out; omega
       case rel => exact ⟨(t545), (wrap64 (x15_1 + 1)), (x1000_1), (x1001_1), (by first | rfl | (simp; done) | (simp [*]; done)), H', ⟨by have := HK1.out; omega⟩, ⟨by (with_reducible repeat (first | apply Kd.R_alloc | apply Kd.R_drewN | apply Kd.R_drew)); exact Kd.R_mono HO548.out (fun _ hk => trivial)⟩, ⟨kb BK0.out⟩, ⟨tb⟩⟩
      ·replace c9 := Bool.eq_false_iff.mpr c9
       subst c9
       have H1 : (some (([] : List Int), false)) = some (r1, r2) := by rw [if_neg (show ¬ (false = true) by decide)] at H; exact H
       clear H
       have H := H1
       clear H1
       simp only [Option.some.injEq, Prod.mk.injEq] at H
       obtain ⟨rfl, rfl⟩ := H
       have p544 : 0 ≤ (x15_1 : Int) := od
       have q544 : x15_1 < (l1.length : Int) := od
       obtain ⟨ad544, A544_0, c544_0, e544, hx544_0, hl544_0, hi544_0⟩ := at_L3 HR1.out x15_1 p544 q544
       cases e544
       replace hx544_0 := (HB.out.cell (World.block_lt_of_cell? _ _ hx544_0)).trans hx544_0
       have HR544_0 := Aside0.mk hi544_0
       have HC544_0 := Aside0.mk hl544_0
       clear hi544_0 hl544_0
       replace p544 := eq_true p544
       replace q544 := eq_true q544
       obtain ⟨Ao12, co12, eo12⟩ := Kd.R_slice HO_6.out
       subst eo12
       go_wp2_with (first | ((with_reducible refine gate_callee (f := 148) rfl ?_); refine goesL_ (some 23) rfl rfl Try.func148 (by kernel_rfl) rfl #[.pointer (some ⟨g0, 0, none⟩), .slice Ao12 x6_1.length co12, .slice A544_0 (rd_L3 l1 x15_1).length c544_0] rfl ar ?_; (with_reducible refine (impl_field_times.calls g0 x1000_1 x1001_1 A0_2 c0_2 l0_2 _ _ x6_1 _ _ (rd_L3 l1 x15_1) t545 false _ ?side1 ?side2 ?side3 ?side4 ?side5 ?side6 ?side7 A8.out).mono ?_); (case side1 => exact kb BK0.out); (case side2 => exact kC (Kd.C_below HR0_2.out HB.out)); (case side3 => exact HC0_2.out); (case side4 => exact kC (Kd.R_reads' HO_6.out).2.2); (case side5 => exact (Kd.R_reads' HO_6.out).2.1); (case side6 => exact kC (Kd.C_below HR544_0.out HB.out)); (case side7 => exact HC544_0.out); rintro e w13 ⟨v547, rfl, ho0, hb⟩; refine ⟨_, rfl, ?_⟩; have HO548 := Aside0.mk (Kd.R_lower (Kd.R_new' ho0 (Kd.R_lt (kR HO_6.out))) (below_size tb)); replace HO_6 := Aside0.mk (Kd.R_elder' (kR HO_6.out) (Kd.R_base ho0) hb); replace BK0 := Aside0.mk (blk_below (kb BK0.out) hb); replace HB := Aside0.mk (below_step tb hb); (try clear hb); (try clear hb2); (try clear hk); (try clear hi); (try clear ho0)))
       go_ret2
       exact ⟨_, by first | rfl | (simp [errW_none, errW_some] <;> rfl) | (simp [*, errW_none, errW_some] <;> rfl), by first | exact Kd.R_nil _ _ _ _ _ | exact Kd.N_nil _ _ _ _ _ | exact Kd.V_nil _ _ _ _ _ | exact Kd.Q_nil _ _ _ _ _ | exact Kd.S_nil _ _ _ _ _, tb⟩
     ·rw [if_neg c7] at H
      exact absurd H (by simp)
    ·rw [if_neg c6] at H
     exact absurd H (by simp)
   ·rw [if_neg c5] at H
    have c5b0 : decide (x15_1 < (l1.length : Int)) = false := decide_eq_false c5
    clear c5
    simp only [Option.some.injEq, Prod.mk.injEq] at H
    obtain ⟨rfl, rfl⟩ := H
    go_wp2
    go_ret2
    exact ⟨_, by first | rfl | (simp [errW_none, errW_some] <;> rfl) | (simp [*, errW_none, errW_some] <;> rfl), kR HO_6.out, tb⟩

/-! ### impl_field_image: function 149 -/
def impl_field_image.f (k : Nat) (a0_0 : Int) (a0_1 : Int) (l0_2 : List (List Int)) (l1 : List Int) (a2 : Int) : Option (List Int) := impl_field_with.f k a0_0 a0_1 l0_2 l1 (fun i => wrap64 (a2 * i))
set_option maxRecDepth 100000 in
theorem image_fn_ (a : Int) (B : Nat) (w : World) (hB : B < w.heap.size) (hc : w.cell? ⟨B, 0, none⟩ = some (.int .i64 a)) :
  ∀ (W : World) (x : Int), Below w.heap.size w W → Calls Try.prog 238 (#[Value.int .i64 x] ++ #[.pointer (some ⟨B, 0, none⟩)]) W fun e w' => e = .returned (.int .i64 (wrap64 (a * x))) ∧ Drawn0 W w' := fun W x hb => by
 have hc' : W.cell? ⟨B, 0, none⟩ = some (.int .i64 a) := (hb.cell (p := ⟨B, 0, none⟩) hB).trans hc
 clear hc
 go_enter Try.func238, Try.ntmps238
 go_wp2
 go_ret
 exact ⟨rfl, Drawn0.refl _⟩

set_option maxHeartbeats 8000000 in
set_option maxRecDepth 100000 in
theorem impl_field_image.calls (k : Nat) (g0 : Nat) (a0_0 : Int) (a0_1 : Int) (A0_2 : Option Addr) (c0_2 : Nat) (l0_2 : List (List Int)) (A1 : Option Addr) (c1 : Nat) (l1 : List Int) (a2 : Int) (r : List Int) (w : World) (hg0 : w.heap[g0]? = some (.cells #[.int .i64 a0_0, .int .i64 a0_1, .slice A0_2 l0_2.length c0_2] 117 (0, 0))) (hr0_2 : Kd.C (Kd.slice 2 (Kd.int .i64)) w A0_2 l0_2.length l0_2) (hc0_2 : l0_2.length ≤ c0_2) (hr1 : Kd.C (Kd.int .i64) w A1 l1.length l1) (hc1 : l1.length ≤ c1) (h : impl_field_image.f k a0_0 a0_1 l0_2 l1 a2 = some r) :
  Calls Try.prog 149 #[.pointer (some ⟨g0, 0, none⟩), .slice A1 l1.length c1, .int .i64 a2] w fun e w' => ∃ v0_ : Value, e = .returned (v0_) ∧ Kd.R (Kd.int .i64) 2 w' w.heap.size (fun _ => True) v0_ r ∧ Below w.heap.size w w' := by
 have HC : ∀ W : World, Below w.heap.size w W → W.cell? ⟨w.heap.size, 0, none⟩ = some (.int .i64 a2) → w.heap.size < W.heap.size → Calls Try.prog 188 #[.pointer (some ⟨g0, 0, none⟩), .slice A1 l1.length c1, .func (.func 238) #[] #[.pointer (some ⟨w.heap.size, 0, none⟩)]] W fun e w' => ∃ v0_ : Value, e = .returned v0_ ∧ Kd.R (Kd.int .i64) 2 w' W.heap.size (fun _ => True) v0_ r ∧ Below W.heap.size W w' := fun W hb hc hlt =>
  impl_field_with.calls k g0 a0_0 a0_1 A0_2 c0_2 l0_2 A1 c1 l1 238 _ (fun i => wrap64 (a2 * i)) r W (blk_below hg0 hb) (Kd.C_below hr0_2 hb) hc0_2 (Kd.C_below hr1 hb) hc1 (enters_of Try.func238 (by kernel_rfl) rfl) (image_fn_ a2 w.heap.size W hlt hc) h
 have H := Aside0.mk HC
 clear HC h hg0 hr0_2 hc0_2 hr1 hc1
 go_enter Try.func149, Try.ntmps149
 go_wp2_with (go_at_call 188; refine (H.out _ ((Below.refl _ _).alloc (Nat.le_refl _) _) (by simp) (by simp)).mono ?_; rintro e w1 ⟨v0, rfl, ho, hb⟩; have HO := Aside0.mk (Kd.R_lower ho (by simp : w.heap.size ≤ _)); have HB := Aside0.mk (below_step ((Below.refl w.heap.size w).alloc (Nat.le_refl _) _) hb); clear ho hb)
 go_ret
 exact ⟨_, rfl, HO.out, HB.out⟩

end Go.Proofs.Ytgcggngleiggiaa.Pr
