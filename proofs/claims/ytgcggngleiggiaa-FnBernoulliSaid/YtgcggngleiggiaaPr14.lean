-- Printed by a program of this session, hand-proved contracts among it.
import Derived.Test.YtgcggngleiggiaaPr0
import Derived.Test.YtgcggngleiggiaaPr1
import Derived.Test.YtgcggngleiggiaaPr4
import Derived.Test.YtgcggngleiggiaaPr6
import Derived.Test.YtgcggngleiggiaaPr11
import Derived.Test.YtgcggngleiggiaaPr13
namespace Go.Proofs.Ytgcggngleiggiaa.Pr
open Go.RowKit Go.Proofs.YtgcggngleiggiaaW.PrintWords Go.Proofs.YtgcggngleiggiaaW.PrintLast Go.Proofs.YtgcggngleiggiaaW.PrintMore Go.Proofs.Ytgcggngleiggiaa.Sq
attribute [local go_sem] max2_int min2_int max_two min_two max_three min_three max_four min_four   -- for this text's walks alone
set_option linter.unusedVariables false
set_option linter.unusedSimpArgs false

/-! ### spec_CyclotomicUnit: function 106 -/
mutual
def spec_CyclotomicUnit.j0 : Nat → Int → Int → Bool → Option (Int × List Int × Int)
 | 0, _, _, _ => none
 | k + 1, x0, x1, x22 => if x22 = true then (some (0, ([] : List Int), 2)) else ((spec_l01Zero.f k x0).bind fun bt519 => (spec_CyclotomicUnit.l0 k x0 x1 0 bt519.1 bt519.2))
def spec_CyclotomicUnit.l0 : Nat → Int → Int → Int → Int → List Int → Option (Int × List Int × Int)
 | 0, _, _, _, _, _ => none
 | k + 1, x0, x1, x7, x524000, x524001 => if x7 < x1 then ((spec_l01Unit.f k x0 x7).bind fun bt524 => ((spec_l01Plus.f k x524000 x524001 bt524.1 bt524.2 1).bind fun bt528 => (spec_CyclotomicUnit.l0 k x0 x1 (wrap64 (x7 + 1)) bt528.1 bt528.2))) else (some (x524000, x524001, 0))
end
def spec_CyclotomicUnit.f (k : Nat) (a0 : Int) (a1 : Int) : Option (Int × List Int × Int) := (spec_l01In.f a0 2 16).bind fun t516 => (if t516 = true then ((spec_l01In.f a1 1 a0).bind fun t517 => (if t517 = true then ((spec_l01Gcd.f k a1 a0).bind fun t518 => (spec_CyclotomicUnit.j0 k a0 a1 (t518 != 1))) else (spec_CyclotomicUnit.j0 k a0 a1 true))) else (spec_CyclotomicUnit.j0 k a0 a1 true))
set_option maxHeartbeats 8000000 in
set_option maxRecDepth 100000 in
theorem spec_CyclotomicUnit.calls (k : Nat) (a0 : Int) (a1 : Int) (r1 : Int) (r2 : List Int) (r3 : Int) (w : World) (h : spec_CyclotomicUnit.f k a0 a1 = some (r1, r2, r3)) :
  Calls Try.prog 106 #[.int .i64 a0, .int .i64 a1] w fun e w' => ∃ v1_ : Value, e = .returned (.tuple #[.agg #[.int .i64 r1, v1_], .int .i64 r3]) ∧ Kd.R (Kd.int .i64) 2 w' w.heap.size (fun _ => True) v1_ r2 ∧ Below w.heap.size w w' := by
 have hu32 := Try.underlying32
 have HB := Aside0.mk (Below.refl w.heap.size w)
 have H : ((spec_l01In.f a0 2 16).bind fun t516 => (if t516 = true then ((spec_l01In.f a1 1 a0).bind fun t517 => (if t517 = true then ((spec_l01Gcd.f k a1 a0).bind fun t518 => (spec_CyclotomicUnit.j0 k a0 a1 (t518 != 1))) else (spec_CyclotomicUnit.j0 k a0 a1 true))) else (spec_CyclotomicUnit.j0 k a0 a1 true))) = some (r1, r2, r3) := h
 clear h
 have HC3 := Aside0.mk H
 clear H
 go_enter Try.func106, Try.ntmps106
 go_upto_region 1 with (first | ((with_reducible refine gate_dst (N := 4) rfl ?_); refine box_event ?hg (N := 4) ?hd (cs := #[.int .i64 0, .slice none 0 0]) (t := 32) ?hr ?_; (case hd => rfl); (case hg => rfl); (case hr => first | (go_simp; done) | (go_simp; rfl)); intro gb515 hg w4 hbox hb; have BK515 := Aside0.mk (hbox); have GW515 := Aside0.mk ((by rw [hg]; exact (below_size tb) : w.heap.size ≤ gb515)); have GE515 := Aside0.mk ((by rw [hg]; exact (below_size tb) : w.heap.size ≤ gb515)); replace HB := Aside0.mk (below_step tb hb); clear hb hbox hg))
 (try simp only [Act.put, List.setIfInBounds_toArray, List.set_cons_zero, List.set_cons_succ])
 go_cut [22] (fun v22 wc => ∃ (kq : Nat) (x22_2 : Bool), v22 = .bool x22_2 ∧ Aside0 (spec_CyclotomicUnit.j0 kq a0 a1 x22_2 = some (r1, r2, r3)) ∧ Aside0 (kq ≤ k) ∧ Aside0 (wc.heap[gb515]? = some (.cells #[.int .i64 0, (.slice none 0 0)] 32 (0, 0))) ∧ Aside0 (Below w.heap.size w wc))
 case first =>
  have H := HC3.out
  clear HC3
  replace H := Option.bind_eq_some_iff.mp H
  obtain ⟨t516, A50, H⟩ := H
  replace H : (if t516 = true then ((spec_l01In.f a1 1 a0).bind fun t517 => (if t517 = true then ((spec_l01Gcd.f k a1 a0).bind fun t518 => (spec_CyclotomicUnit.j0 k a0 a1 (t518 != 1))) else (spec_CyclotomicUnit.j0 k a0 a1 true))) else (spec_CyclotomicUnit.j0 k a0 a1 true)) = some (r1, r2, r3) := H
  have A5 := Aside0.mk A50
  clear A50
  by_cases c6 : t516 = true
  ·subst c6
   have H1 : ((spec_l01In.f a1 1 a0).bind fun t517 => (if t517 = true then ((spec_l01Gcd.f k a1 a0).bind fun t518 => (spec_CyclotomicUnit.j0 k a0 a1 (t518 != 1))) else (spec_CyclotomicUnit.j0 k a0 a1 true))) = some (r1, r2, r3) := by rw [if_pos rfl] at H; exact H
   clear H
   have H := H1
   clear H1
   replace H := Option.bind_eq_some_iff.mp H
   obtain ⟨t517, A70, H⟩ := H
   replace H : (if t517 = true then ((spec_l01Gcd.f k a1 a0).bind fun t518 => (spec_CyclotomicUnit.j0 k a0 a1 (t518 != 1))) else (spec_CyclotomicUnit.j0 k a0 a1 true)) = some (r1, r2, r3) := H
   have A7 := Aside0.mk A70
   clear A70
   by_cases c8 : t517 = true
   ·subst c8
    have H1 : ((spec_l01Gcd.f k a1 a0).bind fun t518 => (spec_CyclotomicUnit.j0 k a0 a1 (t518 != 1))) = some (r1, r2, r3) := by rw [if_pos rfl] at H; exact H
    clear H
    have H := H1
    clear H1
    replace H := Option.bind_eq_some_iff.mp H
    obtain ⟨t518, A90, H⟩ := H
    replace H : (spec_CyclotomicUnit.j0 k a0 a1 (t518 != 1)) = some (r1, r2, r3) := H
    have A9 := Aside0.mk A90
    clear A90
    have H' := Aside0.mk H
    clear H
    go_wp2_with (first | ((with_reducible refine gate_callee (f := 160) rfl ?_); refine goesL_ (some 9) rfl rfl Try.func160 (by kernel_rfl) rfl #[.int .i64 a0, .int .i64 2, .int .i64 16] rfl ar ?_; (with_reducible refine (spec_l01In.calls a0 2 16 true _ A5.out).mono ?_); rintro e w' ⟨rfl, ⟨nd, rfl⟩⟩; refine ⟨_, rfl, ?_⟩) | (go_at_call 160; (with_reducible refine (spec_l01In.calls a1 1 a0 true _ A7.out).mono ?_); rintro e w' ⟨rfl, ⟨nd, rfl⟩⟩) | (go_at_call 180; (with_reducible refine (spec_l01Gcd.calls k a1 a0 t518 _ A9.out).mono ?_); rintro e w10 ⟨rfl, hb⟩; replace BK515 := Aside0.mk (blk_below (kb BK515.out) hb); replace HB := Aside0.mk (below_step tb hb); (try clear hb); (try clear hb2); (try clear hk); (try clear hi)))
    go_meet
    case rel => exact ⟨_, ((t518 != 1)), (by first | rfl | (simp; done) | (simp [*]; done)), H', ⟨by first | omega | exact Nat.le_refl _⟩, ⟨kb BK515.out⟩, ⟨tb⟩⟩
   ·replace c8 := Bool.eq_false_iff.mpr c8
    subst c8
    have H1 : (spec_CyclotomicUnit.j0 k a0 a1 true) = some (r1, r2, r3) := by rw [if_neg (show ¬ (false = true) by decide)] at H; exact H
    clear H
    have H := H1
    clear H1
    have H' := Aside0.mk H
    clear H
    go_wp2_with (first | ((with_reducible refine gate_callee (f := 160) rfl ?_); refine goesL_ (some 9) rfl rfl Try.func160 (by kernel_rfl) rfl #[.int .i64 a0, .int .i64 2, .int .i64 16] rfl ar ?_; (with_reducible refine (spec_l01In.calls a0 2 16 true _ A5.out).mono ?_); rintro e w' ⟨rfl, ⟨nd, rfl⟩⟩; refine ⟨_, rfl, ?_⟩) | (go_at_call 160; (with_reducible refine (spec_l01In.calls a1 1 a0 false _ A7.out).mono ?_); rintro e w' ⟨rfl, ⟨nd, rfl⟩⟩))
    go_meet
    case rel => exact ⟨_, (true), (by first | rfl | (simp; done) | (simp [*]; done)), H', ⟨by first | omega | exact Nat.le_refl _⟩, ⟨kb BK515.out⟩, ⟨tb⟩⟩
  ·replace c6 := Bool.eq_false_iff.mpr c6
   subst c6
   have H1 : (spec_CyclotomicUnit.j0 k a0 a1 true) = some (r1, r2, r3) := by rw [if_neg (show ¬ (false = true) by decide)] at H; exact H
   clear H
   have H := H1
   clear H1
   have H' := Aside0.mk H
   clear H
   go_wp2_with (first | ((with_reducible refine gate_callee (f := 160) rfl ?_); refine goesL_ (some 9) rfl rfl Try.func160 (by kernel_rfl) rfl #[.int .i64 a0, .int .i64 2, .int .i64 16] rfl ar ?_; (with_reducible refine (spec_l01In.calls a0 2 16 false _ A5.out).mono ?_); rintro e w' ⟨rfl, ⟨nd, rfl⟩⟩; refine ⟨_, rfl, ?_⟩))
   go_meet
   case rel => exact ⟨_, (true), (by first | rfl | (simp; done) | (simp [*]; done)), H', ⟨by first | omega | exact Nat.le_refl _⟩, ⟨kb BK515.out⟩, ⟨tb⟩⟩
 case rest =>
  clear HC3
  try clear c1
  try clear p2
  try clear c6
  try clear c8
  try clear c10
  obtain ⟨kq, x22_2, rfl, HA, HJ2, BK515, HB⟩ := hcut
  cases kq with
  | zero => exact absurd HA.out (by simp [spec_CyclotomicUnit.j0])
  | succ kj2 =>
   have H := HA.out
   clear HA
   simp only [spec_CyclotomicUnit.j0] at H
   by_cases c11 : x22_2 = true
   ·subst c11
    have H1 : (some (0, ([] : List Int), 2)) = some (r1, r2, r3) := by rw [if_pos rfl] at H; exact H
    clear H
    have H := H1
    clear H1
    simp only [Option.some.injEq, Prod.mk.injEq] at H
    obtain ⟨rfl, rfl, rfl⟩ := H
    have hcz12_0 : wc.cell? ⟨gb515, 0, none⟩ = some (.int .i64 0) := (blk_cell BK515.out 0).trans rfl
    have hcz12_1 : wc.cell? ⟨gb515, 1, none⟩ = some (.slice none 0 0) := (blk_cell BK515.out 1).trans rfl
    have hfz12_0 := blk_frozen BK515.out 0
    have hfz12_1 := blk_frozen BK515.out 1
    go_wp2
    refine bodyPost_ret (results_ct rfl _ _ gb515 32 #[.int .i64 0, .slice none 0 0] (0, 0) _ rfl (by (with_reducible repeat (first | refine blk_drewN ?_ _ | refine blk_drew ?_ | refine blk_alloc ?_ _)); refine blk_put (cs := #[.int .i64 0, .slice none 0 0]) ?_ 1 _ rfl; (with_reducible repeat (first | refine blk_drewN ?_ _ | refine blk_drew ?_ | refine blk_alloc ?_ _)); refine blk_put (cs := #[.int .i64 0, .slice none 0 0]) ?_ 0 _ rfl; (with_reducible repeat (first | refine blk_drewN ?_ _ | refine blk_drew ?_ | refine blk_alloc ?_ _)); exact BK515.out) Try.underlying32 rfl (by kernel_rfl)) rfl ?_
    exact ⟨_, by first | rfl | (simp [errW_none, errW_some] <;> rfl) | (simp [*, errW_none, errW_some] <;> rfl), by first | exact Kd.R_nil _ _ _ _ _ | exact Kd.N_nil _ _ _ _ _ | exact Kd.V_nil _ _ _ _ _ | exact Kd.Q_nil _ _ _ _ _ | exact Kd.S_nil _ _ _ _ _, tb⟩
   ·replace c11 := Bool.eq_false_iff.mpr c11
    subst c11
    have H1 : ((spec_l01Zero.f kj2 a0).bind fun bt519 => (spec_CyclotomicUnit.l0 kj2 a0 a1 0 bt519.1 bt519.2)) = some (r1, r2, r3) := by rw [if_neg (show ¬ (false = true) by decide)] at H; exact H
    clear H
    have H := H1
    clear H1
    replace H := Option.bind_eq_some_iff.mp H
    obtain ⟨⟨t519, t520⟩, A130, H⟩ := H
    replace H : (spec_CyclotomicUnit.l0 kj2 a0 a1 0 t519 t520) = some (r1, r2, r3) := H
    have A13 := Aside0.mk A130
    clear A130
    have H' := Aside0.mk H
    clear H
    go_wp2_with (first | ((with_reducible refine gate_callee (f := 212) rfl ?_); refine goesL_ (some 25) rfl rfl Try.func212 (by kernel_rfl) rfl #[.int .i64 a0] rfl ar ?_; (with_reducible refine (spec_l01Zero.calls kj2 a0 t519 t520 _ A13.out).mono ?_); rintro e w14 ⟨v521, rfl, ho0, hb⟩; refine ⟨_, rfl, ?_⟩; have HO522 := Aside0.mk (Kd.R_lower ho0 (below_size tb)); replace BK515 := Aside0.mk (blk_below (kb BK515.out) hb); replace HB := Aside0.mk (below_step tb hb); (try clear hb); (try clear hb2); (try clear hk); (try clear hi); (try clear ho0)) | ((with_reducible refine gate_dst (N := 6) rfl ?_); refine box_event ?hg (N := 6) ?hd (cs := #[.int .i64 0, .slice none 0 0]) (t := 32) ?hr ?_; (case hd => rfl); (case hg => rfl); (case hr => first | (go_simp; done) | (go_simp; rfl)); intro gb523 hg w15 hbox hb; replace HO522 := Aside0.mk (Kd.R_below (kR HO522.out) hb); have BK523 := Aside0.mk (hbox); have GW523 := Aside0.mk ((by rw [hg]; exact (below_size tb) : w.heap.size ≤ gb523)); have GE523 := Aside0.mk ((by rw [hg]; exact (below_size tb) : w.heap.size ≤ gb523)); replace HB := Aside0.mk (below_step tb hb); have NB515_523 := Aside0.mk ((by rw [hg]; exact Nat.ne_of_lt (blk_lt (kb BK515.out)) : gb515 ≠ gb523)); have NB523_515 := Aside0.mk ((by rw [hg]; exact Nat.ne_of_gt (blk_lt (kb BK515.out)) : gb523 ≠ gb515)); replace BK515 := Aside0.mk (blk_below (kb BK515.out) hb); clear hb hbox hg; have hnb16 := NB523_515.out; have hnc16 := NB515_523.out; have hcz17_0 : w15.cell? ⟨gb523, 0, none⟩ = some (.int .i64 0) := (blk_cell BK523.out 0).trans rfl; have hcz17_1 : w15.cell? ⟨gb523, 1, none⟩ = some (.slice none 0 0) := (blk_cell BK523.out 1).trans rfl; have hfz17_0 := blk_frozen BK523.out 0; have hfz17_1 := blk_frozen BK523.out 1; obtain ⟨Ao18, co18, eo18⟩ := Kd.R_slice HO522.out; subst eo18))
    go_loopg [7] kj2 (fun kq v7 w' => ∃ (x7_2 : Int) (x524000_2 : Int) (x524001_2 : List Int) (u524001 : Value), v7 = .int .i64 x7_2 ∧ Aside0 (spec_CyclotomicUnit.l0 kq a0 a1 x7_2 x524000_2 x524001_2 = some (r1, r2, r3)) ∧ Aside0 (kq ≤ kj2) ∧ Aside0 (Kd.R (Kd.int .i64) 2 w' w.heap.size (fun _ => True) u524001 x524001_2) ∧ Aside0 (w'.heap[gb515]? = some (.cells #[.int .i64 0, (.slice none 0 0)] 32 (0, 0))) ∧ Aside0 (w'.heap[gb523]? = some (.cells #[.int .i64 x524000_2, u524001] 32 (0, 0))) ∧ Aside0 (Below w.heap.size w w'))
    case atStart => exact ⟨(0), (t519), (t520), (.slice Ao18 t520.length co18), (by first | rfl | (simp; done) | (simp [*]; done)), H', ⟨Nat.le_refl _⟩, ⟨by (with_reducible repeat (first | apply Kd.R_alloc | apply Kd.R_drewN | apply Kd.R_drew)); exact Kd.R_mono (Kd.R_far (p := ⟨gb523, 1, none⟩) (Kd.R_far (p := ⟨gb523, 0, none⟩) (Kd.R_types HO522.out BK523.out (by decide)) (fun _ hk => hk.2) (.int .i64 t519)) (fun _ hk => hk.2) (.slice Ao18 t520.length co18)) (fun _ hk => trivial)⟩, ⟨by (with_reducible repeat (first | refine blk_drewN ?_ _ | refine blk_drew ?_ | refine blk_alloc ?_ _)); refine blk_far ?_ NB515_523.out _; (with_reducible repeat (first | refine blk_drewN ?_ _ | refine blk_drew ?_ | refine blk_alloc ?_ _)); refine blk_far ?_ NB515_523.out _; (with_reducible repeat (first | refine blk_drewN ?_ _ | refine blk_drew ?_ | refine blk_alloc ?_ _)); exact BK515.out⟩, ⟨by (with_reducible repeat (first | refine blk_drewN ?_ _ | refine blk_drew ?_ | refine blk_alloc ?_ _)); refine blk_put (cs := #[.int .i64 t519, .slice none 0 0]) ?_ 1 _ rfl; (with_reducible repeat (first | refine blk_drewN ?_ _ | refine blk_drew ?_ | refine blk_alloc ?_ _)); refine blk_put (cs := #[.int .i64 0, .slice none 0 0]) ?_ 0 _ rfl; (with_reducible repeat (first | refine blk_drewN ?_ _ | refine blk_drew ?_ | refine blk_alloc ?_ _)); exact BK523.out⟩, ⟨tb⟩⟩
    case round =>
     clear H'
     try clear c1
     try clear c2
     try clear p2
     try clear c6
     try clear c8
     try clear c10
     try clear c11
     try clear c16
     try clear hcz12_0
     try clear hcz12_1
     try clear hcz17_0
     try clear hcz17_1
     try clear hfz12_0
     try clear hfz12_1
     try clear hfz17_0
     try clear hfz17_1
     try clear p2
     obtain ⟨x7_2, x524000_2, x524001_2, u524001, rfl, HA, HK2, HO_524001, BK515, BK523, HB⟩ := hrel
     cases gk with
     | zero => exact absurd HA.out (by simp [spec_CyclotomicUnit.l0])
     | succ k2 =>
      have H := HA.out
      clear HA
      simp only [spec_CyclotomicUnit.l0] at H
      by_cases c19 : x7_2 < a1
      ·rw [if_pos c19] at H
       have c19b0 : decide (x7_2 < a1) = true := decide_eq_true c19
       clear c19
       replace H := Option.bind_eq_some_iff.mp H
       obtain ⟨⟨t524, t525⟩, A200, H⟩ := H
       replace H : ((spec_l01Plus.f k2 x524000_2 x524001_2 t524 t525 1).bind fun bt528 => (spec_CyclotomicUnit.l0 k2 a0 a1 (wrap64 (x7_2 + 1)) bt528.1 bt528.2)) = some (r1, r2, r3) := H
       have A20 := Aside0.mk A200
       clear A200
       replace H := Option.bind_eq_some_iff.mp H
       obtain ⟨⟨t528, t529⟩, A210, H⟩ := H
       replace H : (spec_CyclotomicUnit.l0 k2 a0 a1 (wrap64 (x7_2 + 1)) t528 t529) = some (r1, r2, r3) := H
       have A21 := Aside0.mk A210
       clear A210
       have H' := Aside0.mk H
       clear H
       try go_wp2
       replace HO_524001 := Aside0.mk (Kd.R_drew HO_524001.out)
       replace BK515 := Aside0.mk (blk_drew BK515.out)
       replace BK523 := Aside0.mk (blk_drew BK523.out)
       replace HB := Aside0.mk (below_drew1 HB.out)
       refine start_ (n := 6) (S := fun w' => w'.cell? ⟨gb523, 0, none⟩ = some (.int .i64 x524000_2) ∧ w'.cell? ⟨gb523, 1, none⟩ = some (u524001)) (ds := [5]) #[false, false, false, false, false, false] (by kernel_rfl) rfl rfl ⟨(blk_cell BK523.out 0).trans rfl, (blk_cell BK523.out 1).trans rfl⟩ (fun hHeld => ?_)
       generalize wr.drew = w22 at HO_524001 BK515 BK523 HB hHeld ⊢
       refine pu 1 (some 32) #[false, true, false, false, false, false] ?_
       refine pu 2 (some 33) #[false, true, true, false, false, false] ?_
       refine tk 0 (some 31) #[true, true, true, false, false, false] hHeld ?_
       refine one_ (i := 3) (N := some 34) #[true, true, true, true, false, false] rfl rfl (by kernel_rfl) (by decide) (fun K hK => ?_)
       refine goes_ Try.func192 (by kernel_rfl) rfl #[.int .i64 a0, .int .i64 x7_2] (by rfl) rfl rfl ar ?_
       with_reducible refine (spec_l01Unit.calls k2 a0 x7_2 t524 t525 _ A20.out).mono ?_
       rintro e w23 ⟨v526, rfl, ho0, hb⟩
       refine ⟨_, rfl, ?_⟩
       have HO527 := Aside0.mk (Kd.R_lower (Kd.R_new' ho0 (Kd.R_lt (kR HO_524001.out))) (below_size tb))
       replace HO_524001 := Aside0.mk (Kd.R_elder' (kR HO_524001.out) (Kd.R_base ho0) hb)
       replace BK515 := Aside0.mk (blk_below (kb BK515.out) hb)
       replace BK523 := Aside0.mk (blk_below (kb BK523.out) hb)
       replace HB := Aside0.mk (below_step tb hb)
       (try clear hb)
       (try clear hb2)
       (try clear hk)
       (try clear hi)
       (try clear ho0)
       obtain ⟨Ao24, co24, eo24⟩ := Kd.R_slice HO_524001.out
       (first | subst eo24 | (injection eo24 with f1_ f2_ f3_; have f4_ := f1_.symm; have f5_ := f3_.symm; clear f1_ f2_ f3_; subst f4_; subst f5_))
       obtain ⟨Ao25, co25, eo25⟩ := Kd.R_slice HO527.out
       (first | subst eo25 | (injection eo25 with f1_ f2_ f3_; have f4_ := f1_.symm; have f5_ := f3_.symm; clear f1_ f2_ f3_; subst f4_; subst f5_))
       refine hK.out _ _ ⟨(blk_cell BK523.out 0).trans rfl, (blk_cell BK523.out 1).trans rfl⟩ (fun hHeld => ?_)
       clear hK K
       refine nr ?_
       refine one_ (i := 4) (N := some 35) #[true, true, true, true, true, false] rfl rfl (by kernel_rfl) (by decide) (fun K hK => ?_)
       refine goes_ Try.func191 (by kernel_rfl) rfl #[.agg #[.int .i64 x524000_2, .slice Ao24 x524001_2.length co24], .agg #[.int .i64 t524, .slice Ao25 t525.length co25], .int .i64 1] (by rfl) rfl rfl ar ?_
       with_reducible refine (spec_l01Plus.calls k2 x524000_2 _ _ x524001_2 t524 _ _ t525 1 t528 t529 _ ?side1 ?side2 ?side3 ?side4 A21.out).mono ?_
       (case side1 => exact kC (Kd.R_reads' HO_524001.out).2.2)
       (case side2 => exact (Kd.R_reads' HO_524001.out).2.1)
       (case side3 => exact kC (Kd.R_reads' HO527.out).2.2)
       (case side4 => exact (Kd.R_reads' HO527.out).2.1)
       rintro e w26 ⟨v530, rfl, ho0, hb⟩
       refine ⟨_, rfl, ?_⟩
       have HO531 := Aside0.mk (Kd.R_lower (Kd.R_new' (Kd.R_new' ho0 (Kd.R_lt (kR HO_524001.out))) (Kd.R_lt (kR HO527.out))) (below_size tb))
       replace HO_524001 := Aside0.mk (Kd.R_elder' (kR HO_524001.out) (Kd.R_base ho0) hb)
       replace HO527 := Aside0.mk (Kd.R_elder' (kR HO527.out) (Kd.R_base ho0) hb)
       replace BK515 := Aside0.mk (blk_below (kb BK515.out) hb)
       replace BK523 := Aside0.mk (blk_below (kb BK523.out) hb)
       replace HB := Aside0.mk (below_step tb hb)
       (try clear hb)
       (try clear hb2)
       (try clear hk)
       (try clear hi)
       (try clear ho0)
       obtain ⟨Ao28, co28, eo28⟩ := Kd.R_slice HO531.out
       (first | subst eo28 | (injection eo28 with f1_ f2_ f3_; have f4_ := f1_.symm; have f5_ := f3_.symm; clear f1_ f2_ f3_; subst f4_; subst f5_))
       refine hK.out _ _ ⟨(blk_cell BK523.out 0).trans rfl, (blk_cell BK523.out 1).trans rfl⟩ (fun hHeld => ?_)
       clear hK K
       refine nr ?_
       refine last_ (i := 5) (N := none) #[true, true, true, true, true, true] rfl rfl (by kernel_rfl) (by decide) (fun K hK => ?_)
       have hs27 : w26.cell? ⟨gb523, 0, none⟩ = some (.int .i64 x524000_2) := (blk_cell BK523.out 0).trans rfl
       have hfs27 := blk_frozen BK523.out 0
       have hns27_0 := NB515_523.out
       have hms27_0 := NB523_515.out
       have hs29 : w26.cell? ⟨gb523, 1, none⟩ = some (.slice Ao24 x524001_2.length co24) := (blk_cell BK523.out 1).trans rfl
       have hfs29 := blk_frozen BK523.out 1
       have hns29_0 := NB515_523.out
       have hms29_0 := NB523_515.out
       refine skip_ (w1 := ?_) (by rfl) rfl ?_ ?_
       rotate_left
       ·go_simp
        rfl
       refine hK.out _ _ ?_
       clear hK K
       refine done_ (by kernel_rfl) ?_
       try go_wp2
       go_roundg k2
       case measure => have := HJ2.out; have := HK2.out; omega
       case rel => exact ⟨(wrap64 (x7_2 + 1)), (t528), (t529), (.slice Ao28 t529.length co28), (by first | rfl | (simp; done) | (simp [*]; done)), H', ⟨by have := HJ2.out; have := HK2.out; omega⟩, ⟨by (with_reducible repeat (first | apply Kd.R_alloc | apply Kd.R_drewN | apply Kd.R_drew)); exact Kd.R_mono (Kd.R_far (p := ⟨gb523, 1, none⟩) (Kd.R_far (p := ⟨gb523, 0, none⟩) (Kd.R_types HO531.out BK523.out (by decide)) (fun _ hk => hk.2) (.int .i64 t528)) (fun _ hk => hk.2) (.slice Ao28 t529.length co28)) (fun _ hk => trivial)⟩, ⟨by (with_reducible repeat (first | refine blk_drewN ?_ _ | refine blk_drew ?_ | refine blk_alloc ?_ _)); refine blk_far ?_ NB515_523.out _; (with_reducible repeat (first | refine blk_drewN ?_ _ | refine blk_drew ?_ | refine blk_alloc ?_ _)); refine blk_far ?_ NB515_523.out _; (with_reducible repeat (first | refine blk_drewN ?_ _ | refine blk_drew ?_ | refine blk_alloc ?_ _)); exact BK515.out⟩, ⟨by (with_reducible repeat (first | refine blk_drewN ?_ _ | refine blk_drew ?_ | refine blk_alloc ?_ _)); refine blk_put (cs := #[.int .i64 t528, .slice Ao24 x524001_2.length co24]) ?_ 1 _ rfl; (with_reducible repeat (first | refine blk_drewN ?_ _ | refine blk_drew ?_ | refine blk_alloc ?_ _)); refine blk_put (cs := #[.int .i64 x524000_2, .slice Ao24 x524001_2.length co24]) ?_ 0 _ rfl; (with_reducible repeat (first | refine blk_drewN ?_ _ | refine blk_drew ?_ | refine blk_alloc ?_ _)); exact BK523.out⟩, ⟨tb⟩⟩
      ·rw [if_neg c19] at H
       have c19b0 : decide (x7_2 < a1) = false := decide_eq_false c19
       clear c19
       simp only [Option.some.injEq, Prod.mk.injEq] at H
       obtain ⟨rfl, rfl, rfl⟩ := H
       have hnb30 := NB523_515.out
       have hnc30 := NB515_523.out
       have hcz31_0 : wr.cell? ⟨gb523, 0, none⟩ = some (.int .i64 x524000_2) := (blk_cell BK523.out 0).trans rfl
       have hcz31_1 : wr.cell? ⟨gb523, 1, none⟩ = some (u524001) := (blk_cell BK523.out 1).trans rfl
       have hfz31_0 := blk_frozen BK523.out 0
       have hfz31_1 := blk_frozen BK523.out 1
       have hcz32_0 : wr.cell? ⟨gb515, 0, none⟩ = some (.int .i64 0) := (blk_cell BK515.out 0).trans rfl
       have hcz32_1 : wr.cell? ⟨gb515, 1, none⟩ = some (.slice none 0 0) := (blk_cell BK515.out 1).trans rfl
       have hfz32_0 := blk_frozen BK515.out 0
       have hfz32_1 := blk_frozen BK515.out 1
       obtain ⟨Ao33, co33, eo33⟩ := Kd.R_slice HO_524001.out
       subst eo33
       go_wp2
       refine bodyPost_ret (results_ct rfl _ _ gb515 32 #[.int .i64 x524000_2, .slice Ao33 x524001_2.length co33] (0, 0) _ rfl (by (with_reducible repeat (first | refine blk_drewN ?_ _ | refine blk_drew ?_ | refine blk_alloc ?_ _)); refine blk_put (cs := #[.int .i64 x524000_2, .slice none 0 0]) ?_ 1 _ rfl; (with_reducible repeat (first | refine blk_drewN ?_ _ | refine blk_drew ?_ | refine blk_alloc ?_ _)); refine blk_put (cs := #[.int .i64 0, .slice none 0 0]) ?_ 0 _ rfl; (with_reducible repeat (first | refine blk_drewN ?_ _ | refine blk_drew ?_ | refine blk_alloc ?_ _)); exact BK515.out) Try.underlying32 rfl (by kernel_rfl)) rfl ?_
       exact ⟨_, by first | rfl | (simp [errW_none, errW_some] <;> rfl) | (simp [*, errW_none, errW_some] <;> rfl), by (with_reducible repeat (first | apply Kd.R_alloc | apply Kd.R_drewN | apply Kd.R_drew)); exact Kd.R_mono (Kd.R_far (p := ⟨gb515, 1, none⟩) (Kd.R_far (p := ⟨gb515, 0, none⟩) (Kd.R_types HO_524001.out BK515.out (by decide)) (fun _ hk => hk.2) (.int .i64 x524000_2)) (fun _ hk => hk.2) (.slice Ao33 x524001_2.length co33)) (fun _ hk => trivial), tb⟩

/-! ### impl_totient: function 216 -/
def impl_totient.l0 : Nat → Int → Int → Int → Option (Int)
 | 0, _, _, _ => none
 | k + 1, x0, x3, x4 => if x4 ≤ x0 then ((impl_gcd.f k x4 x0).bind fun t532 => (if t532 = 1 then (impl_totient.l0 k x0 (wrap64 (x3 + 1)) (wrap64 (x4 + 1))) else (impl_totient.l0 k x0 x3 (wrap64 (x4 + 1))))) else (some x3)
def impl_totient.f (k : Nat) (a0 : Int) : Option (Int) := impl_totient.l0 k a0 0 1
set_option maxHeartbeats 8000000 in
set_option maxRecDepth 100000 in
theorem impl_totient.calls (k : Nat) (a0 : Int) (r : Int) (w : World) (h : impl_totient.f k a0 = some r) :
  Calls Try.prog 216 #[.int .i64 a0] w fun e w' => e = .returned (.int .i64 r) ∧ Below w.heap.size w w' := by
 have HB := Aside0.mk (Below.refl w.heap.size w)
 have H : (impl_totient.l0 k a0 0 1) = some r := h
 clear h
 have H' := Aside0.mk H
 clear H
 go_enter Try.func216, Try.ntmps216
 go_wp2
 go_loopg [3, 4] k (fun kq v3 v4 w' => ∃ (x3_1 : Int) (x4_1 : Int), v3 = .int .i64 x3_1 ∧ v4 = .int .i64 x4_1 ∧ Aside0 (impl_totient.l0 kq a0 x3_1 x4_1 = some r) ∧ Aside0 (kq ≤ k) ∧ Aside0 (Below w.heap.size w w'))
 case atStart => exact ⟨(0), (1), (by first | rfl | (simp; done) | (simp [*]; done)), (by first | rfl | (simp; done) | (simp [*]; done)), H', ⟨Nat.le_refl _⟩, ⟨tb⟩⟩
 case round =>
  clear H'
  obtain ⟨x3_1, x4_1, rfl, rfl, HA, HK1, HB⟩ := hrel
  cases gk with
  | zero => exact absurd HA.out (by simp [impl_totient.l0])
  | succ k1 =>
   have H := HA.out
   clear HA
   simp only [impl_totient.l0] at H
   by_cases c2 : x4_1 ≤ a0
   ·rw [if_pos c2] at H
    have c2b0 : decide (x4_1 ≤ a0) = true := decide_eq_true c2
    clear c2
    replace H := Option.bind_eq_some_iff.mp H
    obtain ⟨t532, A30, H⟩ := H
    replace H : (if t532 = 1 then (impl_totient.l0 k1 a0 (wrap64 (x3_1 + 1)) (wrap64 (x4_1 + 1))) else (impl_totient.l0 k1 a0 x3_1 (wrap64 (x4_1 + 1)))) = some r := H
    have A3 := Aside0.mk A30
    clear A30
    by_cases c4 : t532 = 1
    ·rw [if_pos c4] at H
     have c4b0 : (t532 == 1) = true := beq_iff_eq.mpr c4
     have c4b1 : (t532 != 1) = false := bne_eq_false_iff_eq.mpr c4
     clear c4
     have H' := Aside0.mk H
     clear H
     go_wp2_with (first | ((with_reducible refine gate_callee (f := 120) rfl ?_); refine goesL_ (some 12) rfl rfl Try.func120 (by kernel_rfl) rfl #[.int .i64 x4_1, .int .i64 a0] rfl ar ?_; (with_reducible refine (impl_gcd.calls k1 x4_1 a0 t532 _ A3.out).mono ?_); rintro e w5 ⟨rfl, hb⟩; refine ⟨_, rfl, ?_⟩; replace HB := Aside0.mk (below_step tb hb); (try clear hb); (try clear hb2); (try clear hk); (try clear hi)))
     go_roundg k1
     case measure => have := HK1.out; omega
     case rel => exact ⟨(wrap64 (x3_1 + 1)), (wrap64 (x4_1 + 1)), (by first | rfl | (simp; done) | (simp [*]; done)), (by first | rfl | (simp; done) | (simp [*]; done)), H', ⟨by have := HK1.out; omega⟩, ⟨tb⟩⟩
    ·rw [if_neg c4] at H
     have c4b0 : (t532 == 1) = false := beq_eq_false_iff_ne.mpr c4
     have c4b1 : (t532 != 1) = true := bne_iff_ne.mpr c4
     have H' := Aside0.mk H
     clear H
     go_wp2_with (first | ((with_reducible refine gate_callee (f := 120) rfl ?_); refine goesL_ (some 12) rfl rfl Try.func120 (by kernel_rfl) rfl #[.int .i64 x4_1, .int .i64 a0] rfl ar ?_; (with_reducible refine (impl_gcd.calls k1 x4_1 a0 t532 _ A3.out).mono ?_); rintro e w6 ⟨rfl, hb⟩; refine ⟨_, rfl, ?_⟩; replace HB := Aside0.mk (below_step tb hb); (try clear hb); (try clear hb2); (try clear hk); (try clear hi)))
     go_roundg k1
     case measure => have := HK1.out; omega
     case rel => exact ⟨(x3_1), (wrap64 (x4_1 + 1)), (by first | rfl | (simp; done) | (simp [*]; done)), (by first | rfl | (simp; done) | (simp [*]; done)), H', ⟨by have := HK1.out; omega⟩, ⟨tb⟩⟩
   ·rw [if_neg c2] at H
    have c2b0 : decide (x4_1 ≤ a0) = false := decide_eq_false c2
    clear c2
    obtain rfl := Option.some.inj H
    go_wp2
    go_ret
    exact ⟨by first | rfl | (simp [errW_none, errW_some] <;> rfl) | (simp [*, errW_none, errW_some] <;> rfl), tb⟩

end Go.Proofs.Ytgcggngleiggiaa.Pr
