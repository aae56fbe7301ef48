-- Printed by a program of this session.
import Derived.Test.YtceifmklobagbaaPB0
import Derived.Test.YtceifmklobagbaaPB1
import Derived.Test.YtceifmklobagbaaPB2
namespace Go.Proofs.Ytceifmklobagbaa.PB
open Go.RowKit Go.Proofs.YtceifmklobagbaaW.PrintWords Go.Proofs.YtceifmklobagbaaW.PrintLast Go.Proofs.YtceifmklobagbaaW.PrintMore
attribute [local go_sem] max2_int min2_int max_two min_two max_three min_three max_four min_four   -- for this text's walks alone
set_option linter.unusedVariables false
set_option linter.unusedSimpArgs false

/-! ### laws_FnExactBernoulliModulo: function 6 -/
def laws_FnExactBernoulliModulo.f (k : Nat) (a0 : Int) (a1 : Int) : Option (Bool) := (spec_BernoulliModulo.f k a0 a1).bind fun bt149 => ((impl_BernoulliModulo.f k a0 a1).bind fun bt151 => (if bt151.1 = bt149.1 then (if bt151.2 = bt149.2 then (some true) else (none)) else (none)))
theorem laws_FnExactBernoulliModulo.mono : ∀ a0 a1 k, LeO (laws_FnExactBernoulliModulo.f k a0 a1) (laws_FnExactBernoulliModulo.f (k + 1) a0 a1) := by
  intro a0 a1 k
  unfold laws_FnExactBernoulliModulo.f
  repeat' first
      | (with_reducible exact impl_BernoulliModulo.mono _ _ _)
      | (with_reducible exact spec_BernoulliModulo.mono _ _ _)
      | (with_reducible exact LeO.refl _)
      | (with_reducible exact LeO.none _)
      | (with_reducible refine LeO.ite ?_ ?_)
      | (with_reducible refine LeO.bind ?_ (fun _ => ?_))
      | exact impl_BernoulliModulo.mono _ _ _
      | exact spec_BernoulliModulo.mono _ _ _
      | exact LeO.none _
      | refine LeO.ite ?_ ?_
      | refine LeO.bind ?_ (fun _ => ?_)
set_option maxHeartbeats 8000000 in
set_option maxRecDepth 100000 in
theorem laws_FnExactBernoulliModulo.calls (k : Nat) (a0 : Int) (a1 : Int) (r : Bool) (w : World) (h : laws_FnExactBernoulliModulo.f k a0 a1 = some r) :
    Calls Try.prog 6 #[.int .i64 a0, .int .i64 a1] w fun e w' => e = .returned (.bool r) ∧ Below w.heap.size w w' := by
  have HB := Aside0.mk (Below.refl w.heap.size w)
  have H : ((spec_BernoulliModulo.f k a0 a1).bind fun bt149 => ((impl_BernoulliModulo.f k a0 a1).bind fun bt151 => (if bt151.1 = bt149.1 then (if bt151.2 = bt149.2 then (some true) else (none)) else (none)))) = some r := h
  clear h
  replace H := Option.bind_eq_some_iff.mp H
  obtain ⟨⟨t149, t150⟩, A30, H⟩ := H
  replace H : ((impl_BernoulliModulo.f k a0 a1).bind fun bt151 => (if bt151.1 = t149 then (if bt151.2 = t150 then (some true) else (none)) else (none))) = some r := H
  have A3 := Aside0.mk A30
  clear A30
  replace H := Option.bind_eq_some_iff.mp H
  obtain ⟨⟨t151, t152⟩, A40, H⟩ := H
  replace H : (if t151 = t149 then (if t152 = t150 then (some true) else (none)) else (none)) = some r := H
  have A4 := Aside0.mk A40
  clear A40
  by_cases c5 : t151 = t149
  · rw [if_pos c5] at H
    have c5b0 : (t151 == t149) = true := beq_iff_eq.mpr c5
    have c5b1 : (t151 != t149) = false := bne_eq_false_iff_eq.mpr c5
    clear c5
    by_cases c6 : t152 = t150
    · rw [if_pos c6] at H
      have c6b0 : (t152 == t150) = true := beq_iff_eq.mpr c6
      have c6b1 : (t152 != t150) = false := bne_eq_false_iff_eq.mpr c6
      clear c6
      obtain rfl := Option.some.inj H
      go_enter Try.func6, Try.ntmps6
      go_wp2_with (first | ((with_reducible refine gate_callee (f := 36) rfl ?_); refine goesL_ (some 12) rfl rfl Try.func36 (by kernel_rfl) rfl #[.int .i64 a0, .int .i64 a1] rfl (by (try simp only [List.map_toArray, List.map_cons, List.map_nil]); first | done | rfl | (simp only [List.length_drop, List.length_take]; rfl)) ?_; (with_reducible refine (spec_BernoulliModulo.calls k a0 a1 t149 t150 _ A3.out).mono ?_); rintro e w7 ⟨rfl, hb⟩; refine ⟨_, rfl, ?_⟩; have n0_ := Aside0.mk (below_step (by repeat (first | (with_reducible first | exact HB.out | apply below_alloc | apply pw_below_drewN | apply below_drew1) | exact HB.out)) hb); clear HB; have HB := n0_; clear n0_; (try clear hb); (try clear hb2); (try clear hk); (try clear hi)) | ((with_reducible refine gate_callee (f := 37) rfl ?_); refine goesL_ (some 18) rfl rfl Try.func37 (by kernel_rfl) rfl #[.int .i64 a0, .int .i64 a1] rfl (by (try simp only [List.map_toArray, List.map_cons, List.map_nil]); first | done | rfl | (simp only [List.length_drop, List.length_take]; rfl)) ?_; (with_reducible refine (impl_BernoulliModulo.calls k a0 a1 t151 t152 _ A4.out).mono ?_); rintro e w8 ⟨rfl, hb⟩; refine ⟨_, rfl, ?_⟩; have n0_ := Aside0.mk (below_step (by repeat (first | (with_reducible first | exact HB.out | apply below_alloc | apply pw_below_drewN | apply below_drew1) | exact HB.out)) hb); clear HB; have HB := n0_; clear n0_; (try clear hb); (try clear hb2); (try clear hk); (try clear hi)))
      go_ret
      exact ⟨by first | rfl | (simp [errW_none, errW_some] <;> rfl) | (simp [*, errW_none, errW_some] <;> rfl), by repeat (first | (with_reducible first | exact HB.out | apply below_alloc | apply pw_below_drewN | apply below_drew1) | exact HB.out)⟩
    · rw [if_neg c6] at H
      exact absurd H (by simp)
  · rw [if_neg c5] at H
    exact absurd H (by simp)

/-- THE ONE PURE STATEMENT of laws_FnExactBernoulliModulo: yours. -/
def laws_FnExactBernoulliModulo.Pure : Prop := ∀ (a0 : Int) (a1 : Int), (Lit.int .i64 a0).wf = true → (Lit.int .i64 a1).wf = true → ∃ k, laws_FnExactBernoulliModulo.f k a0 a1 = some true
theorem laws_FnExactBernoulliModulo.walk (P : laws_FnExactBernoulliModulo.Pure) (a0 : Int) (a1 : Int) (w : World) (w0 : (Lit.int .i64 a0).wf = true) (w1 : (Lit.int .i64 a1).wf = true) :
    Calls Try.prog 6 #[.int .i64 a0, .int .i64 a1] w fun e w' => e = .returned (.bool true) ∧ Below w.heap.size w w' := by
  obtain ⟨k, h⟩ := P a0 a1 w0 w1
  refine (laws_FnExactBernoulliModulo.calls k a0 a1 true w h).mono ?_
  rintro e w' ⟨rfl, hd⟩
  exact ⟨rfl, hd⟩

end Go.Proofs.Ytceifmklobagbaa.PB
