-- Printed by a program of this session, hand-proved contracts among it.
import Derived.Test.YtgcggngleiggiaaPr0
import Derived.Test.YtgcggngleiggiaaPr4
namespace Go.Proofs.Ytgcggngleiggiaa.Pr
open Go.RowKit Go.Proofs.YtgcggngleiggiaaW.PrintWords Go.Proofs.YtgcggngleiggiaaW.PrintLast Go.Proofs.YtgcggngleiggiaaW.PrintMore Go.Proofs.Ytgcggngleiggiaa.Sq
attribute [local go_sem] max2_int min2_int max_two min_two max_three min_three max_four min_four   -- for this text's walks alone
set_option linter.unusedVariables false
set_option linter.unusedSimpArgs false

/-! ### impl_fractionOf: function 208 -/
def impl_fractionOf.f (k : Nat) (a0 : Int) (a1 : Int) : Option (Int × Int) := if a1 < 0 then ((impl_gcd.f k (wrap64 (-a0)) (wrap64 (-a1))).bind fun t184 => (if t184 = 0 then (none) else (some (wrap64 (Int.tdiv (wrap64 (-a0)) t184), wrap64 (Int.tdiv (wrap64 (-a1)) t184))))) else ((impl_gcd.f k a0 a1).bind fun t185 => (if t185 = 0 then (none) else (some (wrap64 (Int.tdiv a0 t185), wrap64 (Int.tdiv a1 t185)))))
def impl_fractionOf.T4 : Bool × List (List Nat × List Nat) := (true, [([], []), ([], []), ([0, 1], [0, 1]), ([], []), ([], []), ([3, 4], [3, 4]), ([2, 5], [2, 5]), ([6, 0, 1, 2, 3, 4, 5, 6], [6])])
def impl_fractionOf.B4 : List Nat := [0, 0, 3, 0, 0, 24, 63, 127]
theorem impl_fractionOf.tab4 : rtab .any (opsOf Try.f208 4) = impl_fractionOf.T4 := by kernel_rfl
theorem impl_fractionOf.bits4 : waitsOk impl_fractionOf.T4.2 impl_fractionOf.B4 = true := by kernel_rfl
set_option maxHeartbeats 8000000 in
set_option maxRecDepth 100000 in
theorem impl_fractionOf.calls (k : Nat) (a0 : Int) (a1 : Int) (r1 : Int) (r2 : Int) (w : World) (h : impl_fractionOf.f k a0 a1 = some (r1, r2)) :
  Calls Try.prog 208 #[.int .i64 a0, .int .i64 a1] w fun e w' => e = .returned (.agg #[.int .i64 r1, .int .i64 r2]) ∧ Below w.heap.size w w' := by
 have hu191 := Try.underlying191
 have HB := Aside0.mk (Below.refl w.heap.size w)
 have H : (if a1 < 0 then ((impl_gcd.f k (wrap64 (-a0)) (wrap64 (-a1))).bind fun t184 => (if t184 = 0 then (none) else (some (wrap64 (Int.tdiv (wrap64 (-a0)) t184), wrap64 (Int.tdiv (wrap64 (-a1)) t184))))) else ((impl_gcd.f k a0 a1).bind fun t185 => (if t185 = 0 then (none) else (some (wrap64 (Int.tdiv a0 t185), wrap64 (Int.tdiv a1 t185)))))) = some (r1, r2) := h
 clear h
 by_cases c3 : a1 < 0
 ·rw [if_pos c3] at H
  have c3b0 : decide (a1 < 0) = true := decide_eq_true c3
  clear c3
  replace H := Option.bind_eq_some_iff.mp H
  obtain ⟨t184, A40, H⟩ := H
  replace H : (if t184 = 0 then (none) else (some (wrap64 (Int.tdiv (wrap64 (-a0)) t184), wrap64 (Int.tdiv (wrap64 (-a1)) t184)))) = some (r1, r2) := H
  have A4 := Aside0.mk A40
  clear A40
  by_cases c5 : t184 = 0
  ·rw [if_pos c5] at H
   exact absurd H (by simp)
  ·rw [if_neg c5] at H
   have c5b0 : (t184 == 0) = false := beq_eq_false_iff_ne.mpr c5
   have c5b1 : (t184 != 0) = true := bne_iff_ne.mpr c5
   simp only [Option.some.injEq, Prod.mk.injEq] at H
   obtain ⟨rfl, rfl⟩ := H
   go_enter Try.func208, Try.ntmps208
   try go_wp2_with (first | ((with_reducible refine gate_dst (N := 4) rfl ?_); refine box_event ?hg (N := 4) ?hd (cs := #[.int .i64 0, .int .i64 0]) (t := 191) ?hr ?_; (case hd => rfl); (case hg => rfl); (case hr => first | (go_simp; done) | (go_simp; rfl)); intro gb183 hg w6 hbox hb; have BK183 := Aside0.mk (hbox); have GW183 := Aside0.mk ((by rw [hg]; exact (below_size tb) : w.heap.size ≤ gb183)); have GE183 := Aside0.mk ((by rw [hg]; exact (below_size tb) : w.heap.size ≤ gb183)); replace HB := Aside0.mk (below_step tb hb); clear hb hbox hg) | ((with_reducible refine gate_callee (f := 120) rfl ?_); refine goesL_ (some 14) rfl rfl Try.func120 (by kernel_rfl) rfl #[.int .i64 (wrap64 (-a0)), .int .i64 (wrap64 (-a1))] rfl ar ?_; (with_reducible refine (impl_gcd.calls k (wrap64 (-a0)) (wrap64 (-a1)) t184 _ A4.out).mono ?_); rintro e w7 ⟨rfl, hb⟩; refine ⟨_, rfl, ?_⟩; replace BK183 := Aside0.mk (blk_below (kb BK183.out) hb); replace HB := Aside0.mk (below_step tb hb); (try clear hb); (try clear hb2); (try clear hk); (try clear hi)))
   replace BK183 := Aside0.mk (blk_drew BK183.out)
   replace HB := Aside0.mk (below_drew1 HB.out)
   refine start_ (n := 8) (S := fun w' => True) (ds := []) #[false, false, false, false, false, false, false, false] (by kernel_rfl) rfl rfl trivial (fun hHeld => ?_); refine with_tabW impl_fractionOf.tab4 impl_fractionOf.bits4 (fun HT_ HW_ => ?_)
   generalize w7.drew = w8 at BK183 HB hHeld ⊢
   refine pu 0 (some 15) #[true, false, false, false, false, false, false, false] ?_
   refine pu 1 (some 16) #[true, true, false, false, false, false, false, false] ?_
   refine pu 2 (some 17) #[true, true, true, false, false, false, false, false] ?_
   refine pu 3 (some 18) #[true, true, true, true, false, false, false, false] ?_
   refine pu 4 (some 19) #[true, true, true, true, true, false, false, false] ?_
   refine pu 5 (some 20) #[true, true, true, true, true, true, false, false] ?_
   refine pu 6 (some 21) #[true, true, true, true, true, true, true, false] ?_
   refine one_ (i := 7) (N := none) #[true, true, true, true, true, true, true, true] rfl rfl (one_of HT_.out (by kernel_rfl)) (by decide) (fun K hK => ?_)
   have hs9 : w8.cell? ⟨gb183, 0, none⟩ = some (.int .i64 0) := (blk_cell BK183.out 0).trans rfl
   have hfs9 := blk_frozen BK183.out 0
   have hs10 : w8.cell? ⟨gb183, 1, none⟩ = some (.int .i64 0) := (blk_cell BK183.out 1).trans rfl
   have hfs10 := blk_frozen BK183.out 1
   refine skip_ (w1 := ?_) (by rfl) rfl ?_ ?_
   rotate_left
   ·go_simp
    rfl
   refine hK.out _ _ trivial (fun hHeld => ?_)
   clear hK K
   refine done_ (done_of HT_.out (by kernel_rfl)) ?_
   try go_wp2
   refine bodyPost_ret (results_cell_row rfl _ _ gb183 191 #[.int .i64 (wrap64 (Int.tdiv (wrap64 (-a0)) t184)), .int .i64 (wrap64 (Int.tdiv (wrap64 (-a1)) t184))] (0, 0) _ rfl (by (with_reducible repeat (first | refine blk_drewN ?_ _ | refine blk_drew ?_ | refine blk_alloc ?_ _)); refine blk_put (cs := #[.int .i64 (wrap64 (Int.tdiv (wrap64 (-a0)) t184)), .int .i64 0]) ?_ 1 _ rfl; (with_reducible repeat (first | refine blk_drewN ?_ _ | refine blk_drew ?_ | refine blk_alloc ?_ _)); refine blk_put (cs := #[.int .i64 0, .int .i64 0]) ?_ 0 _ rfl; (with_reducible repeat (first | refine blk_drewN ?_ _ | refine blk_drew ?_ | refine blk_alloc ?_ _)); exact BK183.out) Try.underlying191 rfl (by kernel_rfl)) rfl ?_
   exact ⟨by first | rfl | (simp [errW_none, errW_some] <;> rfl) | (simp [*, errW_none, errW_some] <;> rfl), tb⟩
 ·rw [if_neg c3] at H
  have c3b0 : decide (a1 < 0) = false := decide_eq_false c3
  clear c3
  replace H := Option.bind_eq_some_iff.mp H
  obtain ⟨t185, A110, H⟩ := H
  replace H : (if t185 = 0 then (none) else (some (wrap64 (Int.tdiv a0 t185), wrap64 (Int.tdiv a1 t185)))) = some (r1, r2) := H
  have A11 := Aside0.mk A110
  clear A110
  by_cases c12 : t185 = 0
  ·rw [if_pos c12] at H
   exact absurd H (by simp)
  ·rw [if_neg c12] at H
   have c12b0 : (t185 == 0) = false := beq_eq_false_iff_ne.mpr c12
   have c12b1 : (t185 != 0) = true := bne_iff_ne.mpr c12
   simp only [Option.some.injEq, Prod.mk.injEq] at H
   obtain ⟨rfl, rfl⟩ := H
   go_enter Try.func208, Try.ntmps208
   try go_wp2_with (first | ((with_reducible refine gate_dst (N := 4) rfl ?_); refine box_event ?hg (N := 4) ?hd (cs := #[.int .i64 0, .int .i64 0]) (t := 191) ?hr ?_; (case hd => rfl); (case hg => rfl); (case hr => first | (go_simp; done) | (go_simp; rfl)); intro gb183 hg w13 hbox hb; have BK183 := Aside0.mk (hbox); have GW183 := Aside0.mk ((by rw [hg]; exact (below_size tb) : w.heap.size ≤ gb183)); have GE183 := Aside0.mk ((by rw [hg]; exact (below_size tb) : w.heap.size ≤ gb183)); replace HB := Aside0.mk (below_step tb hb); clear hb hbox hg) | ((with_reducible refine gate_callee (f := 120) rfl ?_); refine goesL_ (some 14) rfl rfl Try.func120 (by kernel_rfl) rfl #[.int .i64 a0, .int .i64 a1] rfl ar ?_; (with_reducible refine (impl_gcd.calls k a0 a1 t185 _ A11.out).mono ?_); rintro e w14 ⟨rfl, hb⟩; refine ⟨_, rfl, ?_⟩; replace BK183 := Aside0.mk (blk_below (kb BK183.out) hb); replace HB := Aside0.mk (below_step tb hb); (try clear hb); (try clear hb2); (try clear hk); (try clear hi)))
   replace BK183 := Aside0.mk (blk_drew BK183.out)
   replace HB := Aside0.mk (below_drew1 HB.out)
   refine start_ (n := 8) (S := fun w' => True) (ds := []) #[false, false, false, false, false, false, false, false] (by kernel_rfl) rfl rfl trivial (fun hHeld => ?_); refine with_tabW impl_fractionOf.tab4 impl_fractionOf.bits4 (fun HT_ HW_ => ?_)
   generalize w14.drew = w15 at BK183 HB hHeld ⊢
   refine pu 0 (some 15) #[true, false, false, false, false, false, false, false] ?_
   refine pu 1 (some 16) #[true, true, false, false, false, false, false, false] ?_
   refine pu 2 (some 17) #[true, true, true, false, false, false, false, false] ?_
   refine pu 3 (some 18) #[true, true, true, true, false, false, false, false] ?_
   refine pu 4 (some 19) #[true, true, true, true, true, false, false, false] ?_
   refine pu 5 (some 20) #[true, true, true, true, true, true, false, false] ?_
   refine pu 6 (some 21) #[true, true, true, true, true, true, true, false] ?_
   refine one_ (i := 7) (N := none) #[true, true, true, true, true, true, true, true] rfl rfl (one_of HT_.out (by kernel_rfl)) (by decide) (fun K hK => ?_)
   have hs16 : w15.cell? ⟨gb183, 0, none⟩ = some (.int .i64 0) := (blk_cell BK183.out 0).trans rfl
   have hfs16 := blk_frozen BK183.out 0
   have hs17 : w15.cell? ⟨gb183, 1, none⟩ = some (.int .i64 0) := (blk_cell BK183.out 1).trans rfl
   have hfs17 := blk_frozen BK183.out 1
   refine skip_ (w1 := ?_) (by rfl) rfl ?_ ?_
   rotate_left
   ·go_simp
    rfl
   refine hK.out _ _ trivial (fun hHeld => ?_)
   clear hK K
   refine done_ (done_of HT_.out (by kernel_rfl)) ?_
   try go_wp2
   refine bodyPost_ret (results_cell_row rfl _ _ gb183 191 #[.int .i64 (wrap64 (Int.tdiv a0 t185)), .int .i64 (wrap64 (Int.tdiv a1 t185))] (0, 0) _ rfl (by (with_reducible repeat (first | refine blk_drewN ?_ _ | refine blk_drew ?_ | refine blk_alloc ?_ _)); refine blk_put (cs := #[.int .i64 (wrap64 (Int.tdiv a0 t185)), .int .i64 0]) ?_ 1 _ rfl; (with_reducible repeat (first | refine blk_drewN ?_ _ | refine blk_drew ?_ | refine blk_alloc ?_ _)); refine blk_put (cs := #[.int .i64 0, .int .i64 0]) ?_ 0 _ rfl; (with_reducible repeat (first | refine blk_drewN ?_ _ | refine blk_drew ?_ | refine blk_alloc ?_ _)); exact BK183.out) Try.underlying191 rfl (by kernel_rfl)) rfl ?_
   exact ⟨by first | rfl | (simp [errW_none, errW_some] <;> rfl) | (simp [*, errW_none, errW_some] <;> rfl), tb⟩

/-! ### impl_fraction_and: function 207 -/
def impl_fraction_and.f (k : Nat) (a0_0 : Int) (a0_1 : Int) (a1_0 : Int) (a1_1 : Int) : Option (Int × Int) := (impl_gcd.f k a0_1 a1_1).bind fun t189 => (if t189 = 0 then (none) else ((impl_fractionOf.f k (wrap64 ((wrap64 (a0_0 * (wrap64 (Int.tdiv a1_1 t189)))) + (wrap64 (a1_0 * (wrap64 (Int.tdiv a0_1 t189)))))) (wrap64 ((wrap64 (Int.tdiv a0_1 t189)) * a1_1))).bind fun bt190 => (some (bt190.1, bt190.2))))
def impl_fraction_and.T2 : Bool × List (List Nat × List Nat) := (true, [([], []), ([0], [0]), ([], []), ([2], [2]), ([], []), ([3, 4], [3, 4]), ([1, 5], [1, 5]), ([], []), ([7], [7]), ([], []), ([9], [9]), ([], []), ([10, 11], [10, 11]), ([8, 12], [8, 12]), ([6, 13], [6, 13]), ([], []), ([15], [15]), ([], []), ([16, 17], [16, 17]), ([], []), ([19], [19]), ([18, 20], [18, 20]), ([14, 21], [14, 21]), ([22, 22, 0, 1, 2, 3, 4, 5, 6, 7, 8, 9, 10, 11, 12, 13, 14, 15, 16, 17, 18, 19, 20, 21, 22], [22])])
def impl_fraction_and.B2 : List Nat := [0, 1, 0, 4, 0, 28, 63, 0, 128, 0, 512, 0, 3584, 8064, 16383, 0, 32768, 0, 229376, 0, 524288, 2064384, 4194303, 8388607]
theorem impl_fraction_and.tab2 : rtab .any (opsOf Try.f207 2) = impl_fraction_and.T2 := by kernel_rfl
theorem impl_fraction_and.bits2 : waitsOk impl_fraction_and.T2.2 impl_fraction_and.B2 = true := by kernel_rfl
set_option maxHeartbeats 8000000 in
set_option maxRecDepth 100000 in
theorem impl_fraction_and.calls (k : Nat) (a0_0 : Int) (a0_1 : Int) (a1_0 : Int) (a1_1 : Int) (r1 : Int) (r2 : Int) (w : World) (h : impl_fraction_and.f k a0_0 a0_1 a1_0 a1_1 = some (r1, r2)) :
  Calls Try.prog 207 #[.agg #[.int .i64 a0_0, .int .i64 a0_1], .agg #[.int .i64 a1_0, .int .i64 a1_1]] w fun e w' => e = .returned (.agg #[.int .i64 r1, .int .i64 r2]) ∧ Below w.heap.size w w' := by
 have hu191 := Try.underlying191
 have HB := Aside0.mk (Below.refl w.heap.size w)
 have H : ((impl_gcd.f k a0_1 a1_1).bind fun t189 => (if t189 = 0 then (none) else ((impl_fractionOf.f k (wrap64 ((wrap64 (a0_0 * (wrap64 (Int.tdiv a1_1 t189)))) + (wrap64 (a1_0 * (wrap64 (Int.tdiv a0_1 t189)))))) (wrap64 ((wrap64 (Int.tdiv a0_1 t189)) * a1_1))).bind fun bt190 => (some (bt190.1, bt190.2))))) = some (r1, r2) := h
 clear h
 replace H := Option.bind_eq_some_iff.mp H
 obtain ⟨t189, A30, H⟩ := H
 replace H : (if t189 = 0 then (none) else ((impl_fractionOf.f k (wrap64 ((wrap64 (a0_0 * (wrap64 (Int.tdiv a1_1 t189)))) + (wrap64 (a1_0 * (wrap64 (Int.tdiv a0_1 t189)))))) (wrap64 ((wrap64 (Int.tdiv a0_1 t189)) * a1_1))).bind fun bt190 => (some (bt190.1, bt190.2)))) = some (r1, r2) := H
 have A3 := Aside0.mk A30
 clear A30
 by_cases c4 : t189 = 0
 ·rw [if_pos c4] at H
  exact absurd H (by simp)
 ·rw [if_neg c4] at H
  have c4b0 : (t189 == 0) = false := beq_eq_false_iff_ne.mpr c4
  have c4b1 : (t189 != 0) = true := bne_iff_ne.mpr c4
  replace H := Option.bind_eq_some_iff.mp H
  obtain ⟨⟨t190, t191⟩, A50, H⟩ := H
  replace H : (some (t190, t191)) = some (r1, r2) := H
  have A5 := Aside0.mk A50
  clear A50
  simp only [Option.some.injEq, Prod.mk.injEq] at H
  obtain ⟨rfl, rfl⟩ := H
  go_enter Try.func207, Try.ntmps207
  try go_wp2_with (first | ((with_reducible refine gate_dst (N := 2) rfl ?_); refine box_event ?hg (N := 2) ?hd (cs := #[.int .i64 a0_0, .int .i64 a0_1]) (t := 191) ?hr ?_; (case hd => rfl); (case hg => rfl); (case hr => first | (go_simp; done) | (go_simp; rfl)); intro gb186 hg w6 hbox hb; have BK186 := Aside0.mk (hbox); have GW186 := Aside0.mk ((by rw [hg]; exact (below_size tb) : w.heap.size ≤ gb186)); have GE186 := Aside0.mk ((by rw [hg]; exact (below_size tb) : w.heap.size ≤ gb186)); replace HB := Aside0.mk (below_step tb hb); clear hb hbox hg) | ((with_reducible refine gate_dst (N := 3) rfl ?_); refine box_event ?hg (N := 3) ?hd (cs := #[.int .i64 a1_0, .int .i64 a1_1]) (t := 191) ?hr ?_; (case hd => rfl); (case hg => rfl); (case hr => first | (go_simp; done) | (go_simp; rfl)); intro gb187 hg w7 hbox hb; have BK187 := Aside0.mk (hbox); have GW187 := Aside0.mk ((by rw [hg]; exact (below_size tb) : w.heap.size ≤ gb187)); have GE187 := Aside0.mk ((by rw [hg]; exact (below_size tb) : w.heap.size ≤ gb187)); replace HB := Aside0.mk (below_step tb hb); have NB186_187 := Aside0.mk ((by rw [hg]; exact Nat.ne_of_lt (blk_lt (kb BK186.out)) : gb186 ≠ gb187)); have NB187_186 := Aside0.mk ((by rw [hg]; exact Nat.ne_of_gt (blk_lt (kb BK186.out)) : gb187 ≠ gb186)); replace BK186 := Aside0.mk (blk_below (kb BK186.out) hb); clear hb hbox hg) | ((with_reducible refine gate_dst (N := 4) rfl ?_); refine box_event ?hg (N := 4) ?hd (cs := #[.int .i64 0, .int .i64 0]) (t := 191) ?hr ?_; (case hd => rfl); (case hg => rfl); (case hr => first | (go_simp; done) | (go_simp; rfl)); intro gb188 hg w8 hbox hb; have BK188 := Aside0.mk (hbox); have GW188 := Aside0.mk ((by rw [hg]; exact (below_size tb) : w.heap.size ≤ gb188)); have GE188 := Aside0.mk ((by rw [hg]; exact (below_size tb) : w.heap.size ≤ gb188)); replace HB := Aside0.mk (below_step tb hb); have NB186_188 := Aside0.mk ((by rw [hg]; exact Nat.ne_of_lt (blk_lt (kb BK186.out)) : gb186 ≠ gb188)); have NB188_186 := Aside0.mk ((by rw [hg]; exact Nat.ne_of_gt (blk_lt (kb BK186.out)) : gb188 ≠ gb186)); replace BK186 := Aside0.mk (blk_below (kb BK186.out) hb); have NB187_188 := Aside0.mk ((by rw [hg]; exact Nat.ne_of_lt (blk_lt (kb BK187.out)) : gb187 ≠ gb188)); have NB188_187 := Aside0.mk ((by rw [hg]; exact Nat.ne_of_gt (blk_lt (kb BK187.out)) : gb188 ≠ gb187)); replace BK187 := Aside0.mk (blk_below (kb BK187.out) hb); clear hb hbox hg; have hnb9 := NB186_187.out; have hnc9 := NB187_186.out; have hnb10 := NB186_188.out; have hnc10 := NB188_186.out; have hcz11_0 : w8.cell? ⟨gb186, 0, none⟩ = some (.int .i64 a0_0) := (blk_cell BK186.out 0).trans rfl; have hcz11_1 : w8.cell? ⟨gb186, 1, none⟩ = some (.int .i64 a0_1) := (blk_cell BK186.out 1).trans rfl; have hfz11_0 := blk_frozen BK186.out 0; have hfz11_1 := blk_frozen BK186.out 1; have hnb12 := NB187_188.out; have hnc12 := NB188_187.out; have hcz13_0 : w8.cell? ⟨gb187, 0, none⟩ = some (.int .i64 a1_0) := (blk_cell BK187.out 0).trans rfl; have hcz13_1 : w8.cell? ⟨gb187, 1, none⟩ = some (.int .i64 a1_1) := (blk_cell BK187.out 1).trans rfl; have hfz13_0 := blk_frozen BK187.out 0; have hfz13_1 := blk_frozen BK187.out 1) | ((with_reducible refine gate_callee (f := 120) rfl ?_); refine goesL_ (some 10) rfl rfl Try.func120 (by kernel_rfl) rfl #[.int .i64 a0_1, .int .i64 a1_1] rfl ar ?_; (with_reducible refine (impl_gcd.calls k a0_1 a1_1 t189 _ A3.out).mono ?_); rintro e w14 ⟨rfl, hb⟩; refine ⟨_, rfl, ?_⟩; replace BK186 := Aside0.mk (blk_below (kb BK186.out) hb); replace BK187 := Aside0.mk (blk_below (kb BK187.out) hb); replace BK188 := Aside0.mk (blk_below (kb BK188.out) hb); replace HB := Aside0.mk (below_step tb hb); (try clear hb); (try clear hb2); (try clear hk); (try clear hi)))
  replace BK186 := Aside0.mk (blk_drew BK186.out)
  replace BK187 := Aside0.mk (blk_drew BK187.out)
  replace BK188 := Aside0.mk (blk_drew BK188.out)
  replace HB := Aside0.mk (below_drew1 HB.out)
  refine start_ (n := 24) (S := fun w' => w'.cell? ⟨gb186, 0, none⟩ = some (.int .i64 a0_0) ∧ w'.cell? ⟨gb186, 1, none⟩ = some (.int .i64 a0_1) ∧ w'.cell? ⟨gb187, 0, none⟩ = some (.int .i64 a1_0) ∧ w'.cell? ⟨gb187, 1, none⟩ = some (.int .i64 a1_1)) (ds := []) #[false, false, false, false, false, false, false, false, false, false, false, false, false, false, false, false, false, false, false, false, false, false, false, false] (by kernel_rfl) rfl rfl ⟨(blk_cell BK186.out 0).trans rfl, (blk_cell BK186.out 1).trans rfl, (blk_cell BK187.out 0).trans rfl, (blk_cell BK187.out 1).trans rfl⟩ (fun hHeld => ?_); refine with_tabW impl_fraction_and.tab2 impl_fraction_and.bits2 (fun HT_ HW_ => ?_)
  generalize w14.drew = w15 at BK186 BK187 BK188 HB hHeld ⊢
  refine pu 0 (some 11) #[true, false, false, false, false, false, false, false, false, false, false, false, false, false, false, false, false, false, false, false, false, false, false, false] ?_
  refine pu 2 (some 13) #[true, false, true, false, false, false, false, false, false, false, false, false, false, false, false, false, false, false, false, false, false, false, false, false] ?_
  refine pu 4 (some 15) #[true, false, true, false, true, false, false, false, false, false, false, false, false, false, false, false, false, false, false, false, false, false, false, false] ?_
  refine pu 7 (some 18) #[true, false, true, false, true, false, false, true, false, false, false, false, false, false, false, false, false, false, false, false, false, false, false, false] ?_
  refine pu 9 (some 20) #[true, false, true, false, true, false, false, true, false, true, false, false, false, false, false, false, false, false, false, false, false, false, false, false] ?_
  refine pu 11 (some 22) #[true, false, true, false, true, false, false, true, false, true, false, true, false, false, false, false, false, false, false, false, false, false, false, false] ?_
  refine pu 15 (some 26) #[true, false, true, false, true, false, false, true, false, true, false, true, false, false, false, true, false, false, false, false, false, false, false, false] ?_
  refine pu 17 (some 28) #[true, false, true, false, true, false, false, true, false, true, false, true, false, false, false, true, false, true, false, false, false, false, false, false] ?_
  refine pu 19 (some 30) #[true, false, true, false, true, false, false, true, false, true, false, true, false, false, false, true, false, true, false, true, false, false, false, false] ?_
  refine tk 1 (some 12) #[true, true, true, false, true, false, false, true, false, true, false, true, false, false, false, true, false, true, false, true, false, false, false, false] hHeld ?_
  refine tk 3 (some 14) #[true, true, true, true, true, false, false, true, false, true, false, true, false, false, false, true, false, true, false, true, false, false, false, false] hHeld ?_
  refine pu 5 (some 16) #[true, true, true, true, true, true, false, true, false, true, false, true, false, false, false, true, false, true, false, true, false, false, false, false] ?_
  refine pu 6 (some 17) #[true, true, true, true, true, true, true, true, false, true, false, true, false, false, false, true, false, true, false, true, false, false, false, false] ?_
  refine tk 8 (some 19) #[true, true, true, true, true, true, true, true, true, true, false, true, false, false, false, true, false, true, false, true, false, false, false, false] hHeld ?_
  refine tk 10 (some 21) #[true, true, true, true, true, true, true, true, true, true, true, true, false, false, false, true, false, true, false, true, false, false, false, false] hHeld ?_
  refine pu 12 (some 23) #[true, true, true, true, true, true, true, true, true, true, true, true, true, false, false, true, false, true, false, true, false, false, false, false] ?_
  refine pu 13 (some 24) #[true, true, true, true, true, true, true, true, true, true, true, true, true, true, false, true, false, true, false, true, false, false, false, false] ?_
  refine pu 14 (some 25) #[true, true, true, true, true, true, true, true, true, true, true, true, true, true, true, true, false, true, false, true, false, false, false, false] ?_
  refine tk 16 (some 27) #[true, true, true, true, true, true, true, true, true, true, true, true, true, true, true, true, true, true, false, true, false, false, false, false] hHeld ?_
  refine pu 18 (some 29) #[true, true, true, true, true, true, true, true, true, true, true, true, true, true, true, true, true, true, true, true, false, false, false, false] ?_
  refine tk 20 (some 31) #[true, true, true, true, true, true, true, true, true, true, true, true, true, true, true, true, true, true, true, true, true, false, false, false] hHeld ?_
  refine pu 21 (some 32) #[true, true, true, true, true, true, true, true, true, true, true, true, true, true, true, true, true, true, true, true, true, true, false, false] ?_
  refine one_ (i := 22) (N := some 33) #[true, true, true, true, true, true, true, true, true, true, true, true, true, true, true, true, true, true, true, true, true, true, true, false] rfl rfl (one_of HT_.out (by kernel_rfl)) (by decide) (fun K hK => ?_)
  refine goes_ Try.func208 (by kernel_rfl) rfl #[.int .i64 (wrap64 ((wrap64 (a0_0 * (wrap64 (Int.tdiv a1_1 t189)))) + (wrap64 (a1_0 * (wrap64 (Int.tdiv a0_1 t189)))))), .int .i64 (wrap64 ((wrap64 (Int.tdiv a0_1 t189)) * a1_1))] (by rfl) rfl rfl ar ?_
  with_reducible refine (impl_fractionOf.calls k (wrap64 ((wrap64 (a0_0 * (wrap64 (Int.tdiv a1_1 t189)))) + (wrap64 (a1_0 * (wrap64 (Int.tdiv a0_1 t189)))))) (wrap64 ((wrap64 (Int.tdiv a0_1 t189)) * a1_1)) t190 t191 _ A5.out).mono ?_
  rintro e w16 ⟨rfl, hb⟩
  refine ⟨_, rfl, ?_⟩
  replace BK186 := Aside0.mk (blk_below (kb BK186.out) hb)
  replace BK187 := Aside0.mk (blk_below (kb BK187.out) hb)
  replace BK188 := Aside0.mk (blk_below (kb BK188.out) hb)
  replace HB := Aside0.mk (below_step tb hb)
  (try clear hb)
  (try clear hb2)
  (try clear hk)
  (try clear hi)
  refine hK.out _ _ ⟨(blk_cell BK186.out 0).trans rfl, (blk_cell BK186.out 1).trans rfl, (blk_cell BK187.out 0).trans rfl, (blk_cell BK187.out 1).trans rfl⟩ (fun hHeld => ?_)
  clear hK K
  refine nr ?_
  refine one_ (i := 23) (N := none) #[true, true, true, true, true, true, true, true, true, true, true, true, true, true, true, true, true, true, true, true, true, true, true, true] rfl rfl (one_of HT_.out (by kernel_rfl)) (by decide) (fun K hK => ?_)
  have hs17 : w16.cell? ⟨gb188, 0, none⟩ = some (.int .i64 0) := (blk_cell BK188.out 0).trans rfl
  have hfs17 := blk_frozen BK188.out 0
  have hns17_0 := NB186_188.out
  have hns17_1 := NB187_188.out
  have hms17_0 := NB188_186.out
  have hms17_1 := NB188_187.out
  have hs18 : w16.cell? ⟨gb188, 1, none⟩ = some (.int .i64 0) := (blk_cell BK188.out 1).trans rfl
  have hfs18 := blk_frozen BK188.out 1
  have hns18_0 := NB186_188.out
  have hns18_1 := NB187_188.out
  have hms18_0 := NB188_186.out
  have hms18_1 := NB188_187.out
  refine skip_ (w1 := ?_) (by rfl) rfl ?_ ?_
  rotate_left
  ·go_simp
   rfl
  refine hK.out _ _ ⟨((cell_far (p := ⟨gb188, _, none⟩) NB186_188.out _).trans (((cell_far (p := ⟨gb188, _, none⟩) NB186_188.out _).trans (hHeld.1)))), ((cell_far (p := ⟨gb188, _, none⟩) NB186_188.out _).trans (((cell_far (p := ⟨gb188, _, none⟩) NB186_188.out _).trans (hHeld.2.1)))), ((cell_far (p := ⟨gb188, _, none⟩) NB187_188.out _).trans (((cell_far (p := ⟨gb188, _, none⟩) NB187_188.out _).trans (hHeld.2.2.1)))), ((cell_far (p := ⟨gb188, _, none⟩) NB187_188.out _).trans (((cell_far (p := ⟨gb188, _, none⟩) NB187_188.out _).trans (hHeld.2.2.2))))⟩ (fun hHeld => ?_)
  clear hK K
  refine done_ (done_of HT_.out (by kernel_rfl)) ?_
  try go_wp2
  refine bodyPost_ret (results_cell_row rfl _ _ gb188 191 #[.int .i64 t190, .int .i64 t191] (0, 0) _ rfl (by (with_reducible repeat (first | refine blk_drewN ?_ _ | refine blk_drew ?_ | refine blk_alloc ?_ _)); refine blk_put (cs := #[.int .i64 t190, .int .i64 0]) ?_ 1 _ rfl; (with_reducible repeat (first | refine blk_drewN ?_ _ | refine blk_drew ?_ | refine blk_alloc ?_ _)); refine blk_put (cs := #[.int .i64 0, .int .i64 0]) ?_ 0 _ rfl; (with_reducible repeat (first | refine blk_drewN ?_ _ | refine blk_drew ?_ | refine blk_alloc ?_ _)); exact BK188.out) Try.underlying191 rfl (by kernel_rfl)) rfl ?_
  exact ⟨by first | rfl | (simp [errW_none, errW_some] <;> rfl) | (simp [*, errW_none, errW_some] <;> rfl), tb⟩

end Go.Proofs.Ytgcggngleiggiaa.Pr
