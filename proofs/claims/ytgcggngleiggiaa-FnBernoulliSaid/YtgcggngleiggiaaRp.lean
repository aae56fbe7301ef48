/-
slices.Repeat of a list of one number: the number so many times. Conditions: 1 to 1000000 times.
-/
import Derived.Below
import Derived.BigQuiet
import Derived.Deep.LoopGhost
import Derived.Deep.QuietTactic
import Derived.KernelRfl
import Derived.Laws.BitsLemmas
import Derived.Laws.IdiomCopy
import Derived.OwnWalk
import Derived.RowKit
import Derived.RowKit3
import Derived.Tactics
import Derived.Test.YtgcggngleiggiaaCu
import Derived.Test.YtgcggngleiggiaaProg
import Derived.Test.YtgcggngleiggiaaSm
import Derived.Test.YtgcggngleiggiaaV0
import Derived.Test.YtgcggngleiggiaaV1
import Derived.WalkKit
import Derived.WideLaws
namespace Go.Proofs.Ytgcggngleiggiaa.Rp
open Go Go.RowKit Go.Proofs.YtgcggngleiggiaaW.PrintWords Go.Proofs.YtgcggngleiggiaaW.PrintLast Go.Proofs.YtgcggngleiggiaaW.PrintMore
open Go.Proofs.YtgcggngleiggiaaW.PrintWords.Kd
set_option linter.unusedVariables false
set_option linter.unusedSimpArgs false
section
variable {α : Type} {enc : α → Value} {h1 : ∀ x, (enc x).oneCell' = true} {e base g n cap : Nat} {ok : Nat → Prop}
/-- copy(x[j:], x[:j]) -/
def dbl (xs : List α) (j : Nat) : List α := xs.take j ++ (xs.take (min (xs.length - j) j) ++ xs.drop (j + min (xs.length - j) j))
theorem copydbl_run {P : Program} {W : World} (t ty el : TypeId) (ht : P.underlying t = some (.slice el)) (hinfo : (P.info? el).map (·.size) = some 1) {xs : List α}
    (HO : (scalar enc h1).R e W base ok (.slice (some ⟨g, 0, none⟩) n cap) xs) (j c2 cd : Nat) (hj0 : 0 < j) (hj : j < n) {A : Option Addr} (hA : A = some ⟨g, j, none⟩) :
    ∃ w1, (Builtin.copy_ #[t, t] ty #[.slice A (n - j) cd, .slice (some ⟨g, 0, none⟩) j c2]).run P W = .ok (goInt ((min (n - j) j : Nat) : Int)) w1 ∧ (scalar enc h1).R e w1 base ok (.slice (some ⟨g, 0, none⟩) n cap) (dbl xs j) ∧ W.grownBy w1 (some g) := by
  obtain ⟨rfl, hnc, _⟩ := R_reads' HO
  unfold dbl
  generalize hm : min (xs.length - j) j = m
  subst hA
  have hl : (xs.take m).length = m := by rw [List.length_take]; omega
  obtain ⟨r1, r2⟩ := Cu.R_setCells (xs.take m) j W xs HO (by rw [hl]; omega)
  refine ⟨_, ?_, ?_, r2⟩
  · have hrun := run_copy_cells (P := P) W t t ty el g j (xs.length - j) cd ⟨g, 0, none⟩ j c2 ((xs.take m).map enc) ht hinfo (by rw [List.length_map, hl]; show m = min j (xs.length - j); omega) ?_ ?_ ?_ ?_
    · rw [List.length_map, hl] at hrun
      exact hrun
    · intro i v hv
      rw [List.getElem?_map] at hv
      obtain ⟨x, hx, rfl⟩ := Option.map_eq_some_iff.1 hv
      have hj : i < m := by
        have := (List.getElem?_eq_some_iff.1 hx).1
        omega
      have hh := (R_celln (h1 := h1) x HO (i : Int) (by omega) (by omega)).1
      rw [Int.toNat_natCast] at hh
      rw [show (⟨g, 0, none⟩ : Addr).add i = ⟨g, i, none⟩ by simp [Addr.add]; omega, hh]
      rw [List.getElem?_take_of_lt hj] at hx
      congr 2
      unfold rdOf
      simp [hx]
    · intro i hi
      rw [List.length_map, hl] at hi
      have d0 : α := xs[0]'(by omega)
      have hh := (R_celln (h1 := h1) d0 HO ((j + i : Nat) : Int) (by omega) (by omega)).1
      rw [Int.toNat_natCast] at hh
      rw [hh]; rfl
    · intro i hi
      rw [List.length_map, hl] at hi
      have d0 : α := xs[0]'(by omega)
      have hh := (R_celln (h1 := h1) d0 HO ((j + i : Nat) : Int) (by omega) (by omega)).2
      rw [Int.toNat_natCast] at hh
      exact hh
    · intro v hv
      obtain ⟨x, _, rfl⟩ := List.mem_map.1 hv
      exact h1 x
  · rw [hl] at r1
    exact r1
theorem R_copydbl_step {P : Program} {ops : Array Oper} {o : Oper} {a : Act} {Q : Exit → Act → World → Prop} {Kc : Act → World → Prop} {w0 W : World} (base : Nat) (hw : Region.wanted o (yielded ops a.tmps) = true) (s x : Operand) (t el : TypeId) (ho : o.op = .call { callee := .builtin .copy, args := #[s, x], argTypes := #[t, t] })
    (ht : P.underlying t = some (.slice el)) (hinfo : (P.info? el).map (·.size) = some 1) {j cd c2 : Nat} {xs : List α}
    (hs : a.eval s = .slice (some ⟨g, j, none⟩) (n - j) cd) (hx : a.eval x = .slice (some ⟨g, 0, none⟩) j c2) 
    (HO : (scalar enc h1).R e W base ok (.slice (some ⟨g, 0, none⟩) n cap) xs) (hk : 0 < j ∧ j < n) (HB : Below base w0 W) (hbase : base ≤ W.heap.size)
    (hh : ∀ w1, (scalar enc h1).R e w1 base ok (.slice (some ⟨g, 0, none⟩) n cap) (dbl xs j) → Below base w0 w1 → W.grownBy w1 (some g) → Kc (a.put o.dst (goInt ((min (n - j) j : Nat) : Int))) w1) :
    if Region.wanted o (yielded ops a.tmps) = true then Oper.wp P o a W Kc Q else Kc (a.put o.dst undef) W := by
  obtain ⟨w1, hr, r1, r2⟩ := copydbl_run (P := P) t o.type el ht hinfo HO j c2 cd hk.1 hk.2 rfl
  rw [if_pos hw]
  unfold Oper.wp execOp
  simp only [ho, resolve, invoke, builtin, Sem.run_bind, Sem.run_pure, Result.andThen_ok, List.map_toArray, List.map_cons, List.map_nil, hs, hx, hr]
  exact hh w1 r1 (HB.grown r2 hbase (fun k hk => by injection hk with hk; subst hk; exact R_base HO _ (by simp [Value.ownBlock]))) r2
end
theorem dbl_rep (v z : Int) (j n : Nat) (hj : 0 < j) (h : j < n) : dbl (List.replicate j v ++ List.replicate (n - j) z) j = List.replicate (j + min (n - j) j) v ++ List.replicate (n - (j + min (n - j) j)) z := by
  unfold dbl
  have hl : (List.replicate j v ++ List.replicate (n - j) z).length = n := by simp; omega
  rw [hl]
  generalize hm : min (n - j) j = m
  have e1 : (List.replicate j v ++ List.replicate (n - j) z).take j = List.replicate j v := by
    rw [List.take_append_of_le_length (by simp)]
    simp
  have e2 : (List.replicate j v ++ List.replicate (n - j) z).take m = List.replicate m v := by
    rw [List.take_append_of_le_length (by simp; omega)]
    simp; omega
  have e3 : (List.replicate j v ++ List.replicate (n - j) z).drop (j + m) = List.replicate (n - (j + m)) z := by
    rw [List.drop_append]
    simp
    omega
  rw [e1, e2, e3, ← List.append_assoc, List.replicate_append_replicate]
set_option maxHeartbeats 8000000 in
set_option maxRecDepth 100000 in
theorem mul64_one (c : Int) (h0 : 0 ≤ c) (h1 : c ≤ 1000000) (w : World) : Calls Try.prog 285 #[.int .u64 1, .int .u64 c] w fun e w' => e = .returned (.tuple #[.int .u64 0, .int .u64 c]) ∧ Drawn0 w w' := by
  have m1 : Go.bits .and .u64 1 4294967295 = 1 := by decide +kernel
  have m2 : Go.bits .and .u64 c 4294967295 = c := by
    have := bits_mask .u64 64 (by decide) (fun n a b => by simp [IntKind.wrap, IntKind.bits, IntKind.signed]; omega) 32 (by decide) c h0 (by omega)
    have e : ((2 : Int) ^ 32 - 1) = 4294967295 := by decide
    rw [e] at this
    rw [this]; omega
  have m3 : Go.bits .and .u64 0 4294967295 = 0 := by decide +kernel
  have hd : c / 4294967296 = 0 := by omega
  go_enter Try.func285, Try.ntmps285
  go_wp2
  go_ret2
  exact ⟨by simp [hd, m3, IntKind.wrap], Drawn0.refl _⟩
set_option maxHeartbeats 8000000 in
set_option maxRecDepth 100000 in
theorem mul_one (c : Int) (h0 : 0 ≤ c) (h1 : c ≤ 1000000) (w : World) : Calls Try.prog 279 #[.int .u64 1, .int .u64 c] w fun e w' => e = .returned (.tuple #[.int .u64 0, .int .u64 c]) ∧ Drawn0 w w' := by
  go_enter Try.func279, Try.ntmps279
  go_wp2_with (go_at_call 285; refine (mul64_one c h0 h1 _).mono ?_; rintro e w' ⟨rfl, ⟨nd, rfl⟩⟩)
  go_ret2
  exact ⟨rfl, by repeat (first | exact Drawn0.refl _ | apply Drawn0.step)⟩
theorem below_grown_none {W w1 : World} (h : W.grownBy w1 none) : Below W.heap.size W w1 := ⟨h.os, h.tape, h.output, h.size, fun k hk => h.block k hk (by simp)⟩
set_option maxHeartbeats 8000000 in
set_option maxRecDepth 100000 in
theorem repeat_calls (A0 : Option Addr) (c0 : Nat) (v : Int) (n : Nat) (w : World) (hr0 : Kd.C (Kd.int .i64) w A0 [v].length [v]) (h0 : 1 ≤ n) (h1 : n ≤ 1000000) :
    Calls Try.prog 264 #[.slice A0 [v].length c0, .int .i64 (n : Int)] w fun e w' => ∃ v0_ : Value, e = .returned v0_ ∧ Kd.R (Kd.int .i64) 2 w' w.heap.size (fun _ => True) v0_ (List.replicate n v) ∧ Below w.heap.size w w' := by
  have HR := Aside0.mk hr0
  have HB := Aside0.mk (Below.refl w.heap.size w)
  have HO := Aside0.mk True.intro
  clear hr0
  have k1 : IntKind.u64.wrap (n : Int) = (n : Int) := by simp [IntKind.wrap, IntKind.bits, IntKind.signed]; omega
  have k2 : wrap64 (n : Int) = (n : Int) := by unfold wrap64; omega
  have k3 : decide ((n : Int) < 0) = false := decide_eq_false (by omega)
  have k4 : decide (9223372036854775807 < (n : Int)) = false := decide_eq_false (by omega)
  rw [List.length_singleton] at *
  go_enter Try.func264, Try.ntmps264
  go_wp2_with (first | (go_at_call 279; refine (mul_one (n : Int) (by omega) (by omega) _).mono ?_; rintro e w5 ⟨rfl, ⟨nd, rfl⟩⟩; replace HB := Aside0.mk (pw_below_drewN HB.out nd); replace HR := Aside0.mk (Kd.C_below HR.out (pw_below_drewN (Below.refl _ w) nd)); generalize w.drewN nd = w6 at HB HR ⊢) | ((with_reducible refine gate_dst (N := 30) rfl ?_); refine Kd.R_make (Kd.int .i64) (w0 := w) w.heap.size 2 rfl (N := 30) rfl 27 _ _ rfl (n : Int) rfl rfl Try.underlying27 (.int .i64 0) 8 Sm.info2_ rfl (by decide) (by omega) 0 (ok := fun _ => True) (okp := fun _ => True) rfl (fun _ hk => hk) trivial (by omega) (by omega) HB.out HB.out.size ?_; intro v1 w1 ho hb hg hnew; rw [Int.toNat_natCast] at ho; have hp : 0 < (List.replicate n (0 : Int)).length := (by rw [List.length_replicate]; omega); obtain ⟨g, cap, e1, hg1, hg2, hg3⟩ := Kd.R_form ho hp; subst e1; replace HR := Aside0.mk (Kd.C_below HR.out (below_grown_none hg)); rw [List.length_replicate] at ho; replace HB := Aside0.mk hb; replace HO := Aside0.mk ho; clear ho hb hg hnew hp hg1 hg2 hg3) | ((with_reducible refine gate_builtin (b := .copy) (xs := #[.tmp 31, .tmp 32]) rfl ?_); refine Kd.R_copy (enc := Value.int .i64) (h1 := fun _ => rfl) 0 (w0 := w) w.heap.size rfl (.tmp 31) (.tmp 32) 27 27 2 rfl Try.underlying27 (by kernel_rfl) (.slice (some ⟨g, 0, none⟩) n cap) (List.replicate n 0) [v] A0 1 c0 (fun _ => True) rfl rfl HO.out HR.out HB.out HB.out.size ?_; intro w7 ho hb hg; rw [List.length_replicate] at *; replace HB := Aside0.mk hb; replace HO := Aside0.mk ho; clear ho hb hg))
  have hcap : n ≤ cap := (Kd.R_reads' HO.out).2.1
  have HO1 : Aside0 ((Kd.int .i64).R 2 w7 w.heap.size (fun _ => True) (.slice (some ⟨g, 0, none⟩) n cap) (List.replicate 1 v ++ List.replicate (n - 1) 0)) := ⟨by
    have h := HO.out
    have e : min 1 n = 1 := by omega
    rw [e, List.drop_replicate] at h
    exact h⟩
  clear HO
  go_loopg [8] (n - 1) (fun kq v8 w' => ∃ j : Nat, v8 = .int .i64 (j : Int) ∧ Aside0 (1 ≤ j ∧ j ≤ n) ∧ Aside0 (kq = n - j) ∧ Aside0 ((Kd.int .i64).R 2 w' w.heap.size (fun _ => True) (.slice (some ⟨g, 0, none⟩) n cap) (List.replicate j v ++ List.replicate (n - j) 0)) ∧ Aside0 (Below w.heap.size w w'))
  case atStart => exact ⟨1, rfl, ⟨by omega⟩, ⟨rfl⟩, HO1, HB⟩
  case round =>
    clear HO1 HB HR
    obtain ⟨j, rfl, HJ, HK, HO, HB⟩ := hrel
    obtain ⟨i0, hi0, _, hsz, _⟩ := info_parts Sm.info2_
    by_cases cj : j < n
    · have cc0 : decide ((j : Int) < (n : Int)) = true := decide_eq_true (by omega)
      have cut1 := cut_from (P := Try.prog) 27 2 .i64 Try.underlying27 hi0 1 hsz (some ⟨g, 0, none⟩) n cap (j : Int) (by omega) (by omega)
      have cut2 := cut_to (P := Try.prog) 27 2 .i64 Try.underlying27 hi0 (some ⟨g, 0, none⟩) n cap (j : Int) (by omega) (by omega) hcap
      rw [Int.toNat_natCast, if_neg (by omega)] at cut1
      rw [Int.toNat_natCast] at cut2
      have e1 : ((some (⟨g, 0, none⟩ : Addr)).map fun x => x.add (j * 1)) = some ⟨g, j, none⟩ := by by_cases hj : j = 0 <;> simp [Addr.add, hj]
      rw [e1] at cut1
      clear e1 hi0 hsz
      go_wp2
      refine start_ (n := 10) (S := fun w' => True) (ds := []) #[false, false, false, false, false, false, false, false, false, false] (by kernel_rfl) rfl rfl trivial (fun hHeld => ?_)
      replace HB := Aside0.mk (below_drew1 HB.out)
      replace HO := Aside0.mk (Kd.R_drew HO.out)
      generalize wr.drew = w7 at HB HO hHeld ⊢
      refine pure_ (i := 0) (N := some 38) (v := ?_) (a' := ?_) #[true, false, false, false, false, false, false, false, false, false] rfl rfl (by kernel_rfl) (fun _ _ _ h => h) (Or.inl ⟨by rfl, ?_⟩) ?_ ?_
      rotate_left
      · intro w'
        go_simp
        with_reducible rfl
      rotate_left
      · simp only [Act.put, List.setIfInBounds_toArray, List.set_cons_zero, List.set_cons_succ, i64_w, i32_w]
        rfl
      refine pure_ (i := 1) (N := some 39) (v := ?_) (a' := ?_) #[true, true, false, false, false, false, false, false, false, false] rfl rfl (by kernel_rfl) (fun _ _ _ h => h) (Or.inl ⟨by rfl, ?_⟩) ?_ ?_
      rotate_left
      · intro w'
        go_simp
        with_reducible rfl
      rotate_left
      · simp only [Act.put, List.setIfInBounds_toArray, List.set_cons_zero, List.set_cons_succ, i64_w, i32_w]
        rfl
      refine pure_ (i := 2) (N := some 40) (v := ?_) (a' := ?_) #[true, true, true, false, false, false, false, false, false, false] rfl rfl (by kernel_rfl) (fun _ _ _ h => h) (Or.inl ⟨by rfl, ?_⟩) ?_ ?_
      rotate_left
      · intro w'
        go_simp
        with_reducible rfl
      rotate_left
      · simp only [Act.put, List.setIfInBounds_toArray, List.set_cons_zero, List.set_cons_succ, i64_w, i32_w]
        rfl
      refine pure_ (i := 3) (N := some 41) (v := ?_) (a' := ?_) #[true, true, true, true, false, false, false, false, false, false] rfl rfl (by kernel_rfl) (fun _ _ _ h => h) (Or.inl ⟨by rfl, ?_⟩) ?_ ?_
      rotate_left
      · intro w'
        go_simp
        with_reducible rfl
      rotate_left
      · simp only [Act.put, List.setIfInBounds_toArray, List.set_cons_zero, List.set_cons_succ, i64_w, i32_w]
        rfl
      refine pure_ (i := 4) (N := some 42) (v := ?_) (a' := ?_) #[true, true, true, true, true, false, false, false, false, false] rfl rfl (by kernel_rfl) (fun _ _ _ h => h) (Or.inl ⟨by rfl, ?_⟩) ?_ ?_
      rotate_left
      · intro w'
        go_simp
        with_reducible rfl
      rotate_left
      · simp only [Act.put, List.setIfInBounds_toArray, List.set_cons_zero, List.set_cons_succ, i64_w, i32_w]
        rfl
      refine pure_ (i := 5) (N := some 43) (v := ?_) (a' := ?_) #[true, true, true, true, true, true, false, false, false, false] rfl rfl (by kernel_rfl) (fun _ _ _ h => h) (Or.inl ⟨by rfl, ?_⟩) ?_ ?_
      rotate_left
      · intro w'
        go_simp
        with_reducible rfl
      rotate_left
      · simp only [Act.put, List.setIfInBounds_toArray, List.set_cons_zero, List.set_cons_succ, i64_w, i32_w]
        rfl
      refine pure_ (i := 6) (N := some 44) (v := ?_) (a' := ?_) #[true, true, true, true, true, true, true, false, false, false] rfl rfl (by kernel_rfl) (fun _ _ _ h => h) (Or.inl ⟨by rfl, ?_⟩) ?_ ?_
      rotate_left
      · intro w'
        go_simp
        with_reducible rfl
      rotate_left
      · simp only [Act.put, List.setIfInBounds_toArray, List.set_cons_zero, List.set_cons_succ, i64_w, i32_w]
        rfl
      refine one_ (i := 7) (N := some 45) #[true, true, true, true, true, true, true, true, false, false] rfl rfl (by kernel_rfl) (by decide) (fun K hK => ?_)
      refine R_copydbl_step (w0 := w) w.heap.size (by rfl) (.tmp 41) (.tmp 44) 27 2 rfl Try.underlying27 (by kernel_rfl) (g := g) (n := n) (cap := cap) (j := j) rfl rfl HO.out ⟨by have := HJ.out; omega, by omega⟩ HB.out HB.out.size ?_
      intro w8 ho hb hg
      replace HB := Aside0.mk hb
      have HO := Aside0.mk (show (Kd.int .i64).R 2 w8 w.heap.size (fun _ => True) (.slice (some ⟨g, 0, none⟩) n cap) (List.replicate (j + min (n - j) j) v ++ List.replicate (n - (j + min (n - j) j)) 0) from by rw [← dbl_rep v 0 j n (by have := HJ.out; omega) cj]; exact ho)
      clear ho hb hg
      refine hK.out _ _ trivial (fun hHeld => ?_)
      clear hK K
      refine norm_ (a' := ?_) ?_ ?_
      rotate_left
      · show Act.put _ (some 45) _ = _
        simp only [Act.put, List.setIfInBounds_toArray, List.set_cons_zero, List.set_cons_succ, i64_w, i32_w]
        rfl
      refine pure_ (i := 8) (N := some 46) (v := ?_) (a' := ?_) #[true, true, true, true, true, true, true, true, true, false] rfl rfl (by kernel_rfl) (fun _ _ _ h => h) (Or.inl ⟨by rfl, ?_⟩) ?_ ?_
      rotate_left
      · intro w'
        go_simp
        with_reducible rfl
      rotate_left
      · simp only [Act.put, List.setIfInBounds_toArray, List.set_cons_zero, List.set_cons_succ, i64_w, i32_w]
        rfl
      refine pure_ (i := 9) (N := some 8) (v := ?_) (a' := ?_) #[true, true, true, true, true, true, true, true, true, true] rfl rfl (by kernel_rfl) (fun _ _ _ h => h) (Or.inl ⟨by rfl, ?_⟩) ?_ ?_
      rotate_left
      · intro w'
        go_simp
        with_reducible rfl
      rotate_left
      · simp only [Act.put, List.setIfInBounds_toArray, List.set_cons_zero, List.set_cons_succ, i64_w, i32_w]
        rfl
      refine done_ (by kernel_rfl) ?_
      go_wp2
      go_roundg (n - (j + min (n - j) j))
      case measure => have := HK.out; have := HJ.out; omega
      case rel => exact ⟨j + min (n - j) j, by rw [show wrap64 ((j : Int) + ((min (n - j) j : Nat) : Int)) = ((j + min (n - j) j : Nat) : Int) from by unfold wrap64; omega], ⟨by have := HJ.out; omega⟩, ⟨rfl⟩, HO, HB⟩
    · have hj : j = n := by have := HJ.out; omega
      subst hj
      have cc0 : decide ((j : Int) < (j : Int)) = false := decide_eq_false (by omega)
      have ho := HO.out
      rw [Nat.sub_self, List.replicate_zero, List.append_nil] at ho
      replace HO := Aside0.mk ho
      clear ho
      go_wp2
      go_ret
      exact ⟨_, rfl, HO.out, HB.out⟩
end Go.Proofs.Ytgcggngleiggiaa.Rp
