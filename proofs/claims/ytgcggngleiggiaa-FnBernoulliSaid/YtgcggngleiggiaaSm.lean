/- What sums of products, kept beside a float, come to on the machine: add, value, values, product, times. -/
import Derived.Below
import Derived.BigQuiet
import Derived.Deep.LoopGhost
import Derived.Deep.QuietTactic
import Derived.KernelRfl
import Derived.Laws.FloatArith
import Derived.OwnWalk
import Derived.RowKit
import Derived.RowKit3
import Derived.Tactics
import Derived.Test.YtgcggngleiggiaaFs
import Derived.Test.YtgcggngleiggiaaProg
import Derived.Test.YtgcggngleiggiaaV0
import Derived.Test.YtgcggngleiggiaaV1
import Derived.WalkKit
import Derived.WideLaws
namespace Go.Proofs.Ytgcggngleiggiaa.Sm
open Go Go.RowKit Go.Proofs.YtgcggngleiggiaaW.PrintWords Go.Proofs.YtgcggngleiggiaaW.PrintLast Go.Proofs.YtgcggngleiggiaaW.PrintMore
open FloatSum (CC Fin)
theorem run_store_float_ {P : Program} {w : World} {a : Addr} {m : Mode} (k : FloatKind) (b : Nat) : (store a (.float k b) m).run P w = stored P w a (.float k b) m := run_store P w a _ m rfl
attribute [local go_sem] run_store_float_
/-- A sum (the true one, and of how many addends) beside its float. -/
def Near (x : Int × Nat) (b : Nat) : Prop := ∃ v : Int, Fin b v ∧ v - x.1 * (CC : Int) ≤ ((x.2 : Int) * (CC : Int)) * 134217728 ∧ x.1 * (CC : Int) - v ≤ ((x.2 : Int) * (CC : Int)) * 134217728
def sumK : Kd (Int × Nat) where
  sz := 2
  E := []
  K := fun _ x cs => ∃ b, cs = [.int .i64 (wrap64 x.1), .float .f64 b] ∧ Near x b
  M := fun _ _ _ x cs => ∃ b, cs = [.int .i64 (wrap64 x.1), .float .f64 b] ∧ Near x b
  K_len := by rintro w x cs ⟨b, rfl, _⟩; rfl
  K_one := by
    rintro w x cs ⟨b, rfl, _⟩ u hu
    simp only [List.mem_cons, List.not_mem_nil, or_false] at hu
    rcases hu with rfl | rfl <;> rfl
  K_below := fun _ h => h
  K_of_M := fun h => h
  M_mono := fun _ h => h
  M_bound := fun h => h
  M_move := fun _ h => h
  M_lower := fun _ h => h
set_option maxHeartbeats 8000000 in
set_option maxRecDepth 100000 in
theorem add_cells (g j : Nat) (a b low : Int) (bits p r : Nat) (W : World) (h1 : W.cell? ⟨g, j, none⟩ = some (.int .i64 low)) (h2 : W.cell? ⟨g, j + 1, none⟩ = some (.float .f64 bits)) (f1 : W.frozen? ⟨g, j, none⟩ = false) (f2 : W.frozen? ⟨g, j + 1, none⟩ = false)
  (hm : Ieee.double.mul (Ieee.double.write (.number (a < 0) a.natAbs 0)) (Ieee.double.write (.number (b < 0) b.natAbs 0)) = some p) (ha : Ieee.double.add bits p = some r) :
    Calls Try.prog 234 #[.pointer (some ⟨g, j, none⟩), .int .i64 a, .int .i64 b] W fun e w' => e = .returned (.tuple #[]) ∧ w' = ((W.setCell ⟨g, j, none⟩ (.int .i64 (wrap64 (low + wrap64 (a * b))))).setCell ⟨g, j + 1, none⟩ (.float .f64 r)) := by
  have cv : ∀ (n : Int) (w : World), (convert 2 207 (.int .i64 n)).run Try.prog w = .ok (.float .f64 (Ieee.double.write (.number (n < 0) n.natAbs 0))) w := fun n w => run_convert_int_float w 2 207 .i64 .f64 n (by kernel_rfl) (by kernel_rfl)
  have fm : ∀ w, (binOp .mul 207 (.float .f64 (Ieee.double.write (.number (a < 0) a.natAbs 0))) (.float .f64 (Ieee.double.write (.number (b < 0) b.natAbs 0)))).run Try.prog w = .ok (.float .f64 p) w := fun w => run_float_arith w .mul 207 .f64 _ _ _ hm
  have fa : ∀ w, (binOp .add 207 (.float .f64 bits) (.float .f64 p)).run Try.prog w = .ok (.float .f64 r) w := fun w => run_float_arith w .add 207 .f64 _ _ _ ha
  clear hm ha
  go_enter Try.func234, Try.ntmps234
  go_wp2
  exact bodyPost_end (results_none rfl _ _ _) rfl ⟨rfl, rfl⟩
set_option maxHeartbeats 8000000 in
set_option maxRecDepth 100000 in
theorem within_calls_ (n lo hi : Int) (w : World) : Calls Try.prog 159 #[.int .i64 n, .int .i64 lo, .int .i64 hi] w fun e w' => e = .returned (.bool (decide (lo ≤ n) && decide (n ≤ hi))) ∧ Drawn0 w w' := by
  by_cases c : lo ≤ n
  · have c0 : decide (lo ≤ n) = true := decide_eq_true c
    rw [c0]
    go_enter Try.func159, Try.ntmps159
    go_wp2
    go_ret
    exact ⟨by simp, by repeat (first | exact Drawn0.refl _ | apply Drawn0.step)⟩
  · have c0 : decide (lo ≤ n) = false := decide_eq_false c
    rw [c0]
    go_enter Try.func159, Try.ntmps159
    go_wp2
    go_ret
    exact ⟨by simp, by repeat (first | exact Drawn0.refl _ | apply Drawn0.step)⟩
set_option maxHeartbeats 8000000 in
set_option maxRecDepth 100000 in
theorem value_cells (g j : Nat) (low : Int) (bits : Nat) (W : World) (h1 : W.cell? ⟨g, j, none⟩ = some (.int .i64 low)) (h2 : W.cell? ⟨g, j + 1, none⟩ = some (.float .f64 bits)) (q1 q2 q3 : Bool) (e1 : q1 = (decide (-1000000000 ≤ low) && decide (low ≤ 1000000000))) (e2 : (Ieee.double.order bits 4876203697187506176 == some .lt) = q2) (e3 : (Ieee.double.order bits 14099575734042281984 == some .gt) = q3) :
    Calls Try.prog 271 #[.pointer (some ⟨g, j, none⟩)] W fun e w' => e = .returned (.tuple #[.int .i64 low, .bool (q1 && q2 && q3)]) ∧ Drawn0 W w' := by
  have e2' : (FloatKind.f64.format.order bits 4876203697187506176 == some .lt) = q2 := e2
  have e3' : (FloatKind.f64.format.order bits 14099575734042281984 == some .gt) = q3 := e3
  have hw : ∀ w, Calls Try.prog 159 #[.int .i64 low, .int .i64 (-1000000000), .int .i64 1000000000] w fun e w' => e = .returned (.bool q1) ∧ Drawn0 w w' := fun w => by rw [e1]; exact within_calls_ low (-1000000000) 1000000000 w
  have HW := Aside0.mk hw
  clear hw e1 e2 e3
  cases q1 <;> cases q2 <;> cases q3
  all_goals
    go_enter Try.func271, Try.ntmps271
    go_wp2
    repeat (go_quiet (first | (go_at_call 159; refine (HW.out _).mono ?_; rintro e w' ⟨rfl, ⟨nd, rfl⟩⟩; (try first | exact ⟨rfl, _, World.drewN_drewN _ _ _⟩ | exact ⟨rfl, _, Eq.trans (World.drewN_drewN _ _ _) (congrArg (World.drewN _) (Nat.add_assoc _ _ _))⟩))); try go_wp2_with (first | (go_at_call 159; refine (HW.out _).mono ?_; rintro e w' ⟨rfl, ⟨nd, rfl⟩⟩; (try first | exact ⟨rfl, _, World.drewN_drewN _ _ _⟩ | exact ⟨rfl, _, Eq.trans (World.drewN_drewN _ _ _) (congrArg (World.drewN _) (Nat.add_assoc _ _ _))⟩))))
    go_ret2
    exact ⟨rfl, by repeat (first | exact Drawn0.refl _ | apply Drawn0.step)⟩
/-- One more product, where all of it is within what is told of the floats. -/
def addS (x : Int × Nat) (a b : Int) : Option (Int × Nat) :=
  if (x.2 ≤ 16383 ∧ a.natAbs < 9007199254740992 ∧ b.natAbs < 9007199254740992) ∧ (x.1 ≤ 151115727451828646838272 ∧ -x.1 ≤ 151115727451828646838272) ∧ a * b ≤ 151115727451828646838272 ∧ -(a * b) ≤ 151115727451828646838272 then some (x.1 + a * b, x.2 + 1) else none
theorem wrap_add_mul (t a b : Int) : wrap64 (wrap64 t + wrap64 (a * b)) = wrap64 (t + a * b) := by
  unfold wrap64
  omega
theorem add_row {base g n cap : Nat} {ok : Nat → Prop} {W : World} {xs : List (Int × Nat)} (HO : sumK.R 209 W base ok (.slice (some ⟨g, 0, none⟩) n cap) xs) (i : Int) (h0 : 0 ≤ i) (h1 : i < n) {a b : Int} {s : Int × Nat} (hs : addS (xs.getD i.toNat (0, 0)) a b = some s) :
    Calls Try.prog 234 #[.pointer (some ⟨g, i.toNat * 2, none⟩), .int .i64 a, .int .i64 b] W fun e w' => e = .returned (.tuple #[]) ∧ sumK.R 209 w' base ok (.slice (some ⟨g, 0, none⟩) n cap) (xs.set i.toNat s) ∧ W.grownBy w' (some g) := by
  obtain ⟨c, hcl, ⟨bits, rfl, v, hf, e1, e2⟩, hcc, hfz⟩ := Kd.R_elem HO (0, 0) i h0 h1
  unfold addS at hs
  generalize hx : xs.getD i.toNat (0, 0) = x at *
  by_cases hc : (x.2 ≤ 16383 ∧ a.natAbs < 9007199254740992 ∧ b.natAbs < 9007199254740992) ∧ (x.1 ≤ 151115727451828646838272 ∧ -x.1 ≤ 151115727451828646838272) ∧ a * b ≤ 151115727451828646838272 ∧ -(a * b) ≤ 151115727451828646838272
  · rw [if_pos hc] at hs
    obtain rfl := Option.some.inj hs
    obtain ⟨⟨k1, k2, k3⟩, ⟨k4, k5⟩, k6, k7⟩ := hc
    obtain ⟨p, r, v', hm, ha, hr, e3, e4⟩ := FloatSum.acc_step bits v x.1 a b x.2 (by omega) (by simpa using k2) (by simpa using k3) hf e1 e2 k4 k5 k6 k7
    have HR := Kd.R_seg (d := sumK) (okp := fun k => ok k ∧ k ≠ g) HO i h0 h1 (c := [.int .i64 (wrap64 x.1), .float .f64 bits]) (seg := [.int .i64 (wrap64 (x.1 + a * b)), .float .f64 r]) (j := 0) hcl hcc (Nat.le_refl 2) (x' := (x.1 + a * b, x.2 + 1)) ⟨r, rfl, v', hr, e3, e4⟩ (fun _ h => h)
    refine (add_cells g (i.toNat * 2) a b (wrap64 x.1) bits p r W (hcc 0 _ rfl) (hcc 1 _ rfl) (hfz 0) (hfz 1) hm ha).mono ?_
    rintro e w' ⟨rfl, rfl⟩
    rw [wrap_add_mul]
    exact ⟨rfl, HR⟩
  · rw [if_neg hc] at hs
    cases hs
theorem value_row {base g n cap : Nat} {ok : Nat → Prop} {W : World} {xs : List (Int × Nat)} (HO : sumK.R 209 W base ok (.slice (some ⟨g, 0, none⟩) n cap) xs) (i : Int) (h0 : 0 ≤ i) (h1 : i < n) (hk : (xs.getD i.toNat (0, 0)).2 ≤ 16384) :
    Calls Try.prog 271 #[.pointer (some ⟨g, i.toNat * 2, none⟩)] W fun e w' => e = .returned (.tuple #[.int .i64 (wrap64 (xs.getD i.toNat (0, 0)).1), .bool (decide (-1000000000 ≤ (xs.getD i.toNat (0, 0)).1) && decide ((xs.getD i.toNat (0, 0)).1 ≤ 1000000000))]) ∧ Drawn0 W w' := by
  obtain ⟨c, hcl, ⟨bits, rfl, v, hf, e1, e2⟩, hcc, hfz⟩ := Kd.R_elem HO (0, 0) i h0 h1
  generalize hx : xs.getD i.toNat (0, 0) = x at *
  have law := FloatSum.value_law (wrap64 x.1) v x.1 x.2 hk e1 e2 (by unfold wrap64; omega) (by unfold wrap64; omega)
  have o1 := FloatSum.order_lt bits _ v _ hf FloatSum.fin_e18
  have o2 := FloatSum.order_gt bits _ v _ hf FloatSum.fin_e18n
  refine (value_cells g (i.toNat * 2) (wrap64 x.1) bits W (hcc 0 _ rfl) (hcc 1 _ rfl) _ _ _ rfl o1 o2).mono ?_
  rintro e w' ⟨rfl, hd⟩
  refine ⟨?_, hd⟩
  have : (decide (-1000000000 ≤ wrap64 x.1) && decide (wrap64 x.1 ≤ 1000000000) && decide (v < 1000000000000000000 * (CC : Int)) && decide (-(1000000000000000000 * (CC : Int)) < v)) = (decide (-1000000000 ≤ x.1) && decide (x.1 ≤ 1000000000)) := by
    rw [Bool.eq_iff_iff]
    simp only [Bool.and_eq_true, decide_eq_true_eq, and_assoc]
    exact law
  rw [this]
end Go.Proofs.Ytgcggngleiggiaa.Sm
namespace Go.Proofs.Ytgcggngleiggiaa.Sm
open Go Go.RowKit Go.Proofs.YtgcggngleiggiaaW.PrintWords Go.Proofs.YtgcggngleiggiaaW.PrintLast Go.Proofs.YtgcggngleiggiaaW.PrintMore
theorem info209 : (Try.prog.info? 209).map (fun i => (i.zero, i.size, i.bytes)) = some (some (.agg #[.int .i64 0, .float .f64 0]), 2, 16) := by kernel_rfl
def rdL (xs : List (List Int)) (i : Int) : (List Int) := xs.getD i.toNat ([] : List Int)
theorem atL {w : World} {A : Option Addr} {n : Nat} {xs : List (List Int)} (h : Kd.C (Kd.slice 2 (Kd.int .i64)) w A n xs) (i : Int) (h0 : 0 ≤ i) (h1 : i < n) : ∃ ad A0 c0, A = some ad ∧ w.cell? (ad.add i.toNat) = some (.slice A0 (rdL xs i).length c0) ∧ (rdL xs i).length ≤ c0 ∧ (Kd.int .i64).C w A0 (rdL xs i).length (rdL xs i) := by
  obtain ⟨ad, c, e, _, hK, hc0⟩ := Kd.C_get h ([] : List Int) i h0 h1
  have hc : ∀ j u, c[j]? = some u → w.cell? (ad.add (i.toNat * 1 + j)) = some u := hc0
  obtain ⟨A0, c0, rfl, l0, g0⟩ := hK
  exact ⟨ad, A0, c0, e, by have hq := hc 0 _ rfl; rwa [Nat.mul_one, Nat.add_zero] at hq, l0, g0⟩
/-- for m, n := range row { if n != 0 { out[m].add(n*x, y) } } -/
def sumRow (x y : Int) : List Int → Nat → List (Int × Nat) → Option (List (Int × Nat))
  | [], _, out => some out
  | n :: row, m, out => if n = 0 then sumRow x y row (m + 1) out else if m < out.length then (addS (out.getD m (0, 0)) (wrap64 (n * x)) y).bind fun s => sumRow x y row (m + 1) (out.set m s) else none
/-- for k, y := range b { .. } -/
def sumB (ord : Int) (pw : List (List Int)) (i : Nat) (x : Int) : List Int → Nat → List (Int × Nat) → Option (List (Int × Nat))
  | [], _, out => some out
  | y :: b, j, out => if x = 0 then sumB ord pw i x b (j + 1) out else if y = 0 then sumB ord pw i x b (j + 1) out else
      if ord = 0 then none else if 0 ≤ Int.tmod ((i + j : Nat) : Int) ord ∧ Int.tmod ((i + j : Nat) : Int) ord < (pw.length : Int) then (sumRow x y (rdL pw (Int.tmod ((i + j : Nat) : Int) ord)) 0 out).bind fun out' => sumB ord pw i x b (j + 1) out' else none
/-- for i, x := range a { .. } -/
def sumA (ord : Int) (pw : List (List Int)) (b : List Int) : List Int → Nat → List (Int × Nat) → Option (List (Int × Nat))
  | [], _, out => some out
  | x :: a, i, out => (sumB ord pw i x b 0 out).bind fun out' => sumA ord pw b a (i + 1) out'
theorem drop_cons {α : Type} (xs : List α) (i : Nat) (z : α) (h : i < xs.length) : xs.drop i = xs.getD i z :: xs.drop (i + 1) := by
  rw [List.drop_eq_getElem_cons h]
  simp [List.getD_eq_getElem?_getD, List.getElem?_eq_getElem h]
theorem sumRow_at {x y : Int} {row : List Int} {m : Nat} {out r : List (Int × Nat)} (hm : m < row.length) (h : sumRow x y (row.drop m) m out = some r) :
    (rd row (m : Int) = 0 ∧ sumRow x y (row.drop (m + 1)) (m + 1) out = some r) ∨ (rd row (m : Int) ≠ 0 ∧ m < out.length ∧ ∃ s, addS (out.getD m (0, 0)) (wrap64 (rd row (m : Int) * x)) y = some s ∧ sumRow x y (row.drop (m + 1)) (m + 1) (out.set m s) = some r) := by
  rw [drop_cons row m 0 hm] at h
  unfold sumRow at h
  unfold rd
  rw [Int.toNat_natCast]
  by_cases c : row.getD m 0 = 0
  · rw [if_pos c] at h
    exact .inl ⟨c, h⟩
  · rw [if_neg c] at h
    by_cases c2 : m < out.length
    · rw [if_pos c2] at h
      obtain ⟨s, h1, h2⟩ := Option.bind_eq_some_iff.mp h
      exact .inr ⟨c, c2, s, h1, h2⟩
    · rw [if_neg c2] at h
      cases h
theorem sumB_at {ord : Int} {pw : List (List Int)} {i : Nat} {x : Int} {b : List Int} {j : Nat} {out r : List (Int × Nat)} (hj : j < b.length) (h : sumB ord pw i x (b.drop j) j out = some r) :
    ((x = 0 ∨ x ≠ 0 ∧ rd b (j : Int) = 0) ∧ sumB ord pw i x (b.drop (j + 1)) (j + 1) out = some r) ∨ (x ≠ 0 ∧ rd b (j : Int) ≠ 0 ∧ ord ≠ 0 ∧ 0 ≤ Int.tmod ((i + j : Nat) : Int) ord ∧ Int.tmod ((i + j : Nat) : Int) ord < (pw.length : Int) ∧
      ∃ out', sumRow x (rd b (j : Int)) (rdL pw (Int.tmod ((i + j : Nat) : Int) ord)) 0 out = some out' ∧ sumB ord pw i x (b.drop (j + 1)) (j + 1) out' = some r) := by
  rw [drop_cons b j 0 hj] at h
  unfold sumB at h
  unfold rd
  rw [Int.toNat_natCast]
  by_cases c : x = 0
  · rw [if_pos c] at h
    exact .inl ⟨.inl c, h⟩
  rw [if_neg c] at h
  by_cases c1 : b.getD j 0 = 0
  · rw [if_pos c1] at h
    exact .inl ⟨.inr ⟨c, c1⟩, h⟩
  rw [if_neg c1] at h
  by_cases c2 : ord = 0
  · rw [if_pos c2] at h
    cases h
  rw [if_neg c2] at h
  by_cases c3 : 0 ≤ Int.tmod ((i + j : Nat) : Int) ord ∧ Int.tmod ((i + j : Nat) : Int) ord < (pw.length : Int)
  · rw [if_pos c3] at h
    obtain ⟨o', h1, h2⟩ := Option.bind_eq_some_iff.mp h
    exact .inr ⟨c, c1, c2, c3.1, c3.2, o', h1, h2⟩
  · rw [if_neg c3] at h
    cases h
theorem sumA_at {ord : Int} {pw : List (List Int)} {b a : List Int} {i : Nat} {out r : List (Int × Nat)} (hi : i < a.length) (h : sumA ord pw b (a.drop i) i out = some r) :
    ∃ out', sumB ord pw i (rd a (i : Int)) b 0 out = some out' ∧ sumA ord pw b (a.drop (i + 1)) (i + 1) out' = some r := by
  rw [drop_cons a i 0 hi] at h
  unfold sumA at h
  exact Option.bind_eq_some_iff.mp h
theorem sumRow_end {x y : Int} {row : List Int} {out r : List (Int × Nat)} (h : sumRow x y (row.drop row.length) row.length out = some r) : out = r := by
  rw [List.drop_length] at h
  exact Option.some.inj h
theorem sumB_end {ord : Int} {pw : List (List Int)} {i : Nat} {x : Int} {b : List Int} {out r : List (Int × Nat)} (h : sumB ord pw i x (b.drop b.length) b.length out = some r) : out = r := by
  rw [List.drop_length] at h
  exact Option.some.inj h
theorem sumA_end {ord : Int} {pw : List (List Int)} {b a : List Int} {out r : List (Int × Nat)} (h : sumA ord pw b (a.drop a.length) a.length out = some r) : out = r := by
  rw [List.drop_length] at h
  exact Option.some.inj h
end Go.Proofs.Ytgcggngleiggiaa.Sm
namespace Go.Proofs.Ytgcggngleiggiaa.Sm
open Go Go.RowKit Go.Proofs.YtgcggngleiggiaaW.PrintWords Go.Proofs.YtgcggngleiggiaaW.PrintLast Go.Proofs.YtgcggngleiggiaaW.PrintMore
set_option linter.unusedVariables false
theorem grown_drewN {W w : World} {row : Option Nat} (h : W.grownBy w row) (m : Nat) : W.grownBy (w.drewN m) row := by
  have hb := pw_below_drewN (Below.refl w.heap.size w) m
  exact ⟨hb.os.trans h.os, hb.tape.trans h.tape, hb.output.trans h.output, Nat.le_trans h.size hb.size, fun k hk hr => (hb.block k (Nat.lt_of_lt_of_le hk h.size)).trans (h.block k hk hr)⟩
theorem next_i (i : Nat) (h : i < 9223372036854775807) : Value.int .i64 (wrap64 ((i : Int) + 1)) = .int .i64 ((i + 1 : Nat) : Int) := by
  have : wrap64 ((i : Int) + 1) = ((i + 1 : Nat) : Int) := by unfold wrap64; omega
  rw [this]
theorem grown_trans {W w w1 : World} {row : Option Nat} (h : W.grownBy w row) (k : w.grownBy w1 row) : W.grownBy w1 row :=
  ⟨k.os.trans h.os, k.tape.trans h.tape, k.output.trans h.output, Nat.le_trans h.size k.size, fun i hi hr => (k.block i (Nat.lt_of_lt_of_le hi h.size) hr).trans (h.block i hi hr)⟩
set_option maxHeartbeats 8000000 in
set_option maxRecDepth 100000 in
theorem product_calls (w0 : World) (g0 : Nat) (ord many : Int) (A2 : Option Addr) (c2 : Nat) (pw : List (List Int)) (A1 : Option Addr) (c1 : Nat) (a : List Int) (A3 : Option Addr) (c3 : Nat) (b : List Int) (g n cap : Nat) (ok : Nat → Prop) (out r : List (Int × Nat)) (W0 : World)
    (hg0 : w0.heap[g0]? = some (.cells #[.int .i64 ord, .int .i64 many, .slice A2 pw.length c2] 117 (0, 0))) (hr2 : Kd.C (Kd.slice 2 (Kd.int .i64)) w0 A2 pw.length pw)
    (hra : Kd.C (Kd.int .i64) w0 A1 a.length a) (hrb : Kd.C (Kd.int .i64) w0 A3 b.length b) (HB : Below w0.heap.size w0 W0) (HO : sumK.R 209 W0 w0.heap.size ok (.slice (some ⟨g, 0, none⟩) n cap) out) (hla : a.length ≤ 1000000) (hlb : b.length ≤ 1000000) (h : sumA ord pw b a 0 out = some r) :
    Calls Try.prog 142 #[.pointer (some ⟨g0, 0, none⟩), .slice (some ⟨g, 0, none⟩) n cap, .slice A1 a.length c1, .slice A3 b.length c3] W0 fun e w' => e = .returned (.tuple #[]) ∧ sumK.R 209 w' w0.heap.size ok (.slice (some ⟨g, 0, none⟩) n cap) r ∧ Below w0.heap.size w0 w' ∧ W0.grownBy w' (some g) := by
  have hba : a.length ≤ 9223372036854775807 := hra.2.1
  have hbb : b.length ≤ 9223372036854775807 := hrb.2.1
  have HG0 := Aside0.mk hg0
  have HR2 := Aside0.mk hr2
  have HRA := Aside0.mk hra
  have HRB := Aside0.mk hrb
  replace HB := Aside0.mk HB
  replace HO := Aside0.mk HO
  have H := Aside0.mk h
  clear hg0 hr2 hra hrb h
  go_enter Try.func142, Try.ntmps142
  go_wp2
  go_loopg [16] a.length (fun kq v16 w' => ∃ (i : Nat) (o : List (Int × Nat)), v16 = .int .i64 (i : Int) ∧ Aside0 (i ≤ a.length) ∧ Aside0 (kq = a.length - i) ∧ Aside0 (sumA ord pw b (a.drop i) i o = some r) ∧ Aside0 (sumK.R 209 w' w0.heap.size ok (.slice (some ⟨g, 0, none⟩) n cap) o) ∧ Aside0 (Below w0.heap.size w0 w') ∧ Aside0 (W0.grownBy w' (some g)))
  case atStart => exact ⟨0, out, rfl, ⟨Nat.zero_le _⟩, ⟨rfl⟩, H, HO, HB, ⟨World.grownBy.refl _ _⟩⟩
  case round =>
    clear H HO HB
    obtain ⟨i, o, rfl, HI, HK, H, HO, HB, HG⟩ := hrel
    by_cases ci : i < a.length
    · obtain ⟨o1, H1, H2⟩ := sumA_at ci H.out
      replace H1 := Aside0.mk H1
      replace H2 := Aside0.mk H2
      clear H
      have cc0 : decide ((i : Int) < (a.length : Int)) = true := decide_eq_true (by omega)
      have p1 : 0 ≤ (i : Int) := by omega
      have q1 : (i : Int) < (a.length : Int) := by omega
      obtain ⟨ad1, e1, hx1⟩ := Kd.at_int HRA.out (i : Int) p1 q1
      cases e1
      replace hx1 := (HB.out.cell (World.block_lt_of_cell? _ _ hx1)).trans hx1
      rw [Int.toNat_natCast] at hx1
      replace p1 := eq_true p1
      replace q1 := eq_true q1
      go_wp2
      go_loopg [23] b.length (fun kq v23 w' => ∃ (j : Nat) (o : List (Int × Nat)), v23 = .int .i64 (j : Int) ∧ Aside0 (j ≤ b.length) ∧ Aside0 (kq = b.length - j) ∧ Aside0 (sumB ord pw i (rd a (i : Int)) (b.drop j) j o = some o1) ∧ Aside0 (sumK.R 209 w' w0.heap.size ok (.slice (some ⟨g, 0, none⟩) n cap) o) ∧ Aside0 (Below w0.heap.size w0 w') ∧ Aside0 (W0.grownBy w' (some g)))
      case atStart => exact ⟨0, o, rfl, ⟨Nat.zero_le _⟩, ⟨rfl⟩, H1, HO, HB, HG⟩
      case round =>
        clear H1 HO HB HG hx1
        obtain ⟨j, o, rfl, HJ, HK2, H1, HO, HB, HG⟩ := hrel
        by_cases cj : j < b.length
        · have cc1 : decide ((j : Int) < (b.length : Int)) = true := decide_eq_true (by omega)
          have p2 : 0 ≤ (j : Int) := by omega
          have q2 : (j : Int) < (b.length : Int) := by omega
          obtain ⟨ad2, e2, hx2⟩ := Kd.at_int HRB.out (j : Int) p2 q2
          cases e2
          replace hx2 := (HB.out.cell (World.block_lt_of_cell? _ _ hx2)).trans hx2
          rw [Int.toNat_natCast] at hx2
          replace p2 := eq_true p2
          replace q2 := eq_true q2
          rcases sumB_at cj H1.out with ⟨hz, H3⟩ | ⟨hx, hy, ho, ht0, ht1, o3, H3, H4⟩
          · replace H3 := Aside0.mk H3
            clear H1
            rcases hz with hz | ⟨hz, hz2⟩
            · have z1 : (rd a (i : Int) == 0) = true := beq_iff_eq.mpr hz
              go_wp2
              go_roundg (b.length - (j + 1))
              case measure => have := HK2.out; omega
              case rel => exact ⟨j + 1, o, rfl, ⟨by omega⟩, ⟨rfl⟩, H3, HO, HB, HG⟩
            · have z1 : (rd a (i : Int) == 0) = false := beq_eq_false_iff_ne.mpr hz
              have z2 : (rd b (j : Int) == 0) = true := beq_iff_eq.mpr hz2
              go_wp2
              go_roundg (b.length - (j + 1))
              case measure => have := HK2.out; omega
              case rel => exact ⟨j + 1, o, rfl, ⟨by omega⟩, ⟨rfl⟩, H3, HO, HB, HG⟩
          · replace H3 := Aside0.mk H3
            replace H4 := Aside0.mk H4
            clear H1
            have z1 : (rd a (i : Int) == 0) = false := beq_eq_false_iff_ne.mpr hx
            have z2 : (rd b (j : Int) == 0) = false := beq_eq_false_iff_ne.mpr hy
            have z3 : (ord == 0) = false := beq_eq_false_iff_ne.mpr ho
            have z4 : (ord != 0) = true := bne_iff_ne.mpr ho
            obtain ⟨t, et⟩ : ∃ t, t = Int.tmod ((i : Int) + (j : Int)) ord := ⟨_, rfl⟩
            have et' : Int.tmod ((i + j : Nat) : Int) ord = t := by rw [et, Int.natCast_add]
            rw [et'] at ht0 ht1
            rw [et'] at H3
            clear et'
            replace et := Aside0.mk et
            obtain ⟨ad4, A4, c4, e4, hx4, hl4, hr4⟩ := atL HR2.out t ht0 ht1
            cases e4
            replace hx4 := (HB.out.cell (World.block_lt_of_cell? _ _ hx4)).trans hx4
            have HR4 := Aside0.mk hr4
            clear hr4
            have BK := blk_below HG0.out HB.out
            have k0 : wr.cell? ⟨g0, 0, none⟩ = some (.int .i64 ord) := (blk_cell BK 0).trans rfl
            have k2 : wr.cell? ⟨g0, 2, none⟩ = some (.slice (some ad4) pw.length c2) := (blk_cell BK 2).trans rfl
            have f0 := blk_frozen BK 0
            have f2 := blk_frozen BK 2
            clear BK
            have w1 : wrap64 ((i : Int) + (j : Int)) = (i : Int) + (j : Int) := by unfold wrap64; omega
            have w2 : Int.tmod ((i : Int) + (j : Int)) ord = t := et.out.symm
            replace ht0 := eq_true ht0
            replace ht1 := eq_true ht1
            go_wp2
            go_quiet (fail)
            replace HB := Aside0.mk (pw_below_drewN HB.out nq)
            replace HO := Aside0.mk (Kd.R_drewN HO.out nq)
            replace HG := Aside0.mk (grown_drewN HG.out nq)
            clear hx2 hx4 k0 k2 f0 f2
            generalize wr.drewN nq = wq at HB HO HG ⊢
            go_wp2
            go_loopg [49] (rdL pw t).length (fun kq v49 w' => ∃ (m : Nat) (o : List (Int × Nat)), v49 = .int .i64 (m : Int) ∧ Aside0 (m ≤ (rdL pw t).length) ∧ Aside0 (kq = (rdL pw t).length - m) ∧ Aside0 (sumRow (rd a (i : Int)) (rd b (j : Int)) ((rdL pw t).drop m) m o = some o3) ∧ Aside0 (sumK.R 209 w' w0.heap.size ok (.slice (some ⟨g, 0, none⟩) n cap) o) ∧ Aside0 (Below w0.heap.size w0 w') ∧ Aside0 (W0.grownBy w' (some g)))
            case atStart => exact ⟨0, o, rfl, ⟨Nat.zero_le _⟩, ⟨rfl⟩, H3, HO, HB, HG⟩
            case round =>
              clear H3 HO HB HG
              obtain ⟨m, o, rfl, HM, HK3, H3, HO, HB, HG⟩ := hrel
              by_cases cm : m < (rdL pw t).length
              · have cc2 : decide ((m : Int) < ((rdL pw t).length : Int)) = true := decide_eq_true (by omega)
                have p5 : 0 ≤ (m : Int) := by omega
                have q5 : (m : Int) < ((rdL pw t).length : Int) := by omega
                obtain ⟨ad5, e5, hx5⟩ := Kd.at_int HR4.out (m : Int) p5 q5
                cases e5
                replace hx5 := (HB.out.cell (World.block_lt_of_cell? _ _ hx5)).trans hx5
                rw [Int.toNat_natCast] at hx5
                replace p5 := eq_true p5
                replace q5 := eq_true q5
                rcases sumRow_at cm H3.out with ⟨hz, H5⟩ | ⟨hz, hmo, s, hs, H5⟩
                · replace H5 := Aside0.mk H5
                  clear H3
                  have z5 : (rd (rdL pw t) (m : Int) != 0) = false := bne_eq_false_iff_eq.mpr hz
                  go_wp2
                  go_roundg ((rdL pw t).length - (m + 1))
                  case measure => have := HK3.out; omega
                  case rel => exact ⟨m + 1, o, next_i m (by have := HR4.out.2.1; omega), ⟨by omega⟩, ⟨rfl⟩, H5, HO, HB, HG⟩
                · replace H5 := Aside0.mk H5
                  clear H3
                  have z5 : (rd (rdL pw t) (m : Int) != 0) = true := bne_iff_ne.mpr hz
                  have hn : o.length = n := (Kd.R_reads' HO.out).1.symm
                  have q6 : (m : Int) < (n : Int) := by omega
                  have ar := add_row HO.out (m : Int) (by omega) q6 (by rw [Int.toNat_natCast]; exact hs)
                  rw [Int.toNat_natCast] at ar
                  have AR := Aside0.mk ar
                  replace q6 := eq_true q6
                  clear hs hmo hn ar
                  go_wp2_with (go_at_call 234; refine AR.out.mono ?_; rintro e w6 ⟨rfl, ho6, hg6⟩; replace HB := Aside0.mk (HB.out.grown hg6 HB.out.size (fun k hk => by injection hk with hk; subst hk; exact Kd.R_base HO.out _ (by simp [Value.ownBlock]))); replace HG := Aside0.mk (grown_trans HG.out hg6); replace HO := Aside0.mk ho6; clear ho6 hg6 AR)
                  go_roundg ((rdL pw t).length - (m + 1))
                  case measure => have := HK3.out; omega
                  case rel => exact ⟨m + 1, o.set m s, next_i m (by have := HR4.out.2.1; omega), ⟨by omega⟩, ⟨rfl⟩, H5, HO, HB, HG⟩
              · have hmr : m = (rdL pw t).length := by have := HM.out; omega
                subst hmr
                have hr := sumRow_end H3.out
                subst hr
                have cc2 : decide (((rdL pw t).length : Int) < ((rdL pw t).length : Int)) = false := decide_eq_false (by omega)
                go_wp2
                go_roundg (b.length - (j + 1))
                case measure => have := HK2.out; omega
                case rel => exact ⟨j + 1, o, rfl, ⟨by omega⟩, ⟨rfl⟩, H4, HO, HB, HG⟩
        · have hjb : j = b.length := by have := HJ.out; omega
          subst hjb
          have hr := sumB_end H1.out
          subst hr
          have cc1 : decide ((b.length : Int) < (b.length : Int)) = false := decide_eq_false (by omega)
          go_wp2
          go_roundg (a.length - (i + 1))
          case measure => have := HK.out; omega
          case rel => exact ⟨i + 1, o, rfl, ⟨by omega⟩, ⟨rfl⟩, H2, HO, HB, HG⟩
    · have hia : i = a.length := by have := HI.out; omega
      subst hia
      have hr := sumA_end H.out
      subst hr
      have cc0 : decide ((a.length : Int) < (a.length : Int)) = false := decide_eq_false (by omega)
      go_wp2
      exact bodyPost_end (results_none rfl _ _ _) rfl ⟨rfl, HO.out, HB.out, HG.out⟩
end Go.Proofs.Ytgcggngleiggiaa.Sm
namespace Go.Proofs.Ytgcggngleiggiaa.Sm
open Go Go.RowKit Go.Proofs.YtgcggngleiggiaaW.PrintWords Go.Proofs.YtgcggngleiggiaaW.PrintLast Go.Proofs.YtgcggngleiggiaaW.PrintMore
set_option linter.unusedVariables false
theorem info2_ : (Try.prog.info? 2).map (fun i => (i.zero, i.size, i.bytes)) = some (some (.int .i64 0), 1, 8) := by kernel_rfl
def small (x : Int × Nat) : Bool := decide (-1000000000 ≤ x.1) && decide (x.1 ≤ 1000000000)
def low (x : Int × Nat) : Int := wrap64 x.1
theorem take_map_low (xs : List (Int × Nat)) (i : Nat) (h : i < xs.length) : (xs.take (i + 1)).map low = (xs.take i).map low ++ [low (xs.getD i (0, 0))] := by
  rw [List.take_succ_eq_append_getElem h, List.map_append, List.getD_eq_getElem?_getD, List.getElem?_eq_getElem h]
  rfl
theorem take_all_small (xs : List (Int × Nat)) (i : Nat) (h : i < xs.length) : (xs.take (i + 1)).all small = ((xs.take i).all small && small (xs.getD i (0, 0))) := by
  rw [List.take_succ_eq_append_getElem h, List.all_append, List.getD_eq_getElem?_getD, List.getElem?_eq_getElem h]
  simp only [List.all_cons, List.all_nil, Bool.and_true, Option.getD_some]
set_option maxHeartbeats 8000000 in
set_option maxRecDepth 100000 in
theorem values_calls (w : World) (base g n cap : Nat) (ok : Nat → Prop) (xs : List (Int × Nat)) (HO : sumK.R 209 w base ok (.slice (some ⟨g, 0, none⟩) n cap) xs) (hl : xs.length ≤ 1000000) (hk : ∀ x ∈ xs, x.2 ≤ 16384) :
    Calls Try.prog 237 #[.slice (some ⟨g, 0, none⟩) n cap] w fun e w' => ∃ v0_ : Value, e = .returned (.tuple #[v0_, .bool (xs.all small)]) ∧ Kd.R (Kd.int .i64) 2 w' w.heap.size (fun _ => True) v0_ (xs.map low) ∧ Below w.heap.size w w' := by
  have hn : xs.length = n := (Kd.R_reads' HO).1.symm
  subst hn
  have HB := Aside0.mk (Below.refl w.heap.size w)
  replace HO := Aside0.mk (Kd.R_mono (ok' := fun k => k < w.heap.size) (Kd.R_bound HO) (fun k hk => hk.2.2.1))
  replace hk := Aside0.mk hk
  go_enter Try.func237, Try.ntmps237
  go_wp2_with (first | ((with_reducible refine gate_dst (N := 9) rfl ?_); refine Kd.R_lit (Kd.int .i64) _ 2 ?hg (N := 9) ?hd (xs := ([] : List Int)) (inner := []) (ok := fun _ => True) (okp := fun _ => True) ?hr ?hp (fun _ hk => hk) trivial (Below.refl _ _) (Nat.le_refl _) (by simp) ?_; (case hd => rfl); (case hg => rfl); (case hr => first | (go_simp; done) | (go_simp; rfl)); (case hp => exact (Reps.none _ _)); intro v550 w2 ho3 hb hg_ hnew_; have n0_ := Aside0.mk (Kd.R_lower ho3 (below_size HB.out)); replace HO := Aside0.mk (Kd.R_below HO.out hb); replace HB := Aside0.mk (below_step HB.out hb); clear hb ho3 hg_ hnew_))
  go_loopg [4, 5, 12] xs.length (fun kq v4 v5 v12 w' => ∃ (i : Nat) (b1 : Bool), v12 = .int .i64 (i : Int) ∧ v5 = .bool b1 ∧ Aside0 (b1 = (xs.take i).all small) ∧ Aside0 (i ≤ xs.length) ∧ Aside0 (kq = xs.length - i) ∧ Aside0 (Kd.R (Kd.int .i64) 2 w' w.heap.size (fun _ => True) v4 ((xs.take i).map low)) ∧ Aside0 (sumK.R 209 w' base (fun k => k < w.heap.size) (.slice (some ⟨g, 0, none⟩) xs.length cap) xs) ∧ Aside0 (Below w.heap.size w w'))
  case atStart => exact ⟨0, true, rfl, rfl, ⟨rfl⟩, ⟨Nat.zero_le _⟩, ⟨rfl⟩, n0_, HO, HB⟩
  case round =>
    clear n0_ HO HB
    obtain ⟨i, b1, rfl, rfl, HT, HI, HK, HV, HO, HB⟩ := hrel
    by_cases ci : i < xs.length
    · have cc0 : decide ((i : Int) < (xs.length : Int)) = true := decide_eq_true (by omega)
      have q1 : (i : Int) < (xs.length : Int) := by omega
      have ar := value_row HO.out (i : Int) (by omega) q1 (by
        rw [Int.toNat_natCast, List.getD_eq_getElem?_getD, List.getElem?_eq_getElem ci]
        exact hk.out _ (List.getElem_mem ci))
      rw [Int.toNat_natCast] at ar
      have HT' := Aside0.mk (take_all_small xs i ci)
      rw [← HT.out] at HT'
      have HM := Aside0.mk (take_map_low xs i ci)
      have hsm : (decide (-1000000000 ≤ (xs.getD i (0, 0)).1) && decide ((xs.getD i (0, 0)).1 ≤ 1000000000)) = small (xs.getD i (0, 0)) := rfl
      have hlo : wrap64 (xs.getD i (0, 0)).1 = low (xs.getD i (0, 0)) := rfl
      rw [hsm, hlo] at ar
      clear hsm hlo
      generalize small (xs.getD i (0, 0)) = b2 at ar HT'
      generalize low (xs.getD i (0, 0)) = lo at ar HM
      have AR := Aside0.mk ar
      clear ar HT
      replace q1 := eq_true q1
      have LM : Aside0 (((xs.take i).map low).length < 17592186044416) := ⟨by rw [List.length_map, List.length_take]; omega⟩
      generalize (xs.take i).map low = ys at HV HM LM
      cases b1
      all_goals
        go_wp2_with (first | (go_at_call 271; refine AR.out.mono ?_; rintro e w6 ⟨rfl, ⟨nd, rfl⟩⟩; replace HV := Aside0.mk (Kd.R_drewN HV.out nd); replace HO := Aside0.mk (Kd.R_drewN HO.out nd); replace HB := Aside0.mk (pw_below_drewN HB.out nd); clear AR; generalize World.drewN _ nd = w7 at HV HO HB ⊢) | ((with_reducible refine gate_builtin (b := .append) (xs := #[.tmp 22, .tmp 24]) rfl ?_); at_builtin; refine Kd.R_append (Kd.int .i64) (w0 := w) w.heap.size rfl (.tmp 22) (.tmp 24) 27 2 (.int .i64 0) 8 rfl Try.underlying27 info2_ rfl (by decide) (by omega) _ ys lo [.int .i64 lo] (fun _ => True) (fun _ => False) rfl rfl ?aP (fun _ hk => hk.elim) ?aF ?aO ?aB ?aS ?aL ?_; (case aP => exact rfl); (case aB => exact HB.out); (case aF => exact (fun _ _ => trivial)); (case aO => exact HV.out); (case aS => exact below_size HB.out); (case aL => have := LM.out; omega); intro v554 w9 ho hb hg hat; rw [← HM.out] at ho; replace HO := Aside0.mk (Kd.R_grown HO.out hg (fun k hk he => by have := Kd.R_base HV.out k he.symm; omega)); replace HB := Aside0.mk hb; replace HV := Aside0.mk ho; clear ho hb hat hg))
        go_roundg (xs.length - (i + 1))
        case measure => have := HK.out; omega
        case rel => exact ⟨i + 1, _, rfl, rfl, ⟨HT'.out.symm⟩, ⟨by omega⟩, ⟨rfl⟩, HV, HO, HB⟩
    · have hia : i = xs.length := by have := HI.out; omega
      subst hia
      rw [List.take_length] at HT HV
      have cc0 : decide ((xs.length : Int) < (xs.length : Int)) = false := decide_eq_false (by omega)
      go_wp2
      go_ret2
      exact ⟨_, by have e := HT.out; subst e; rfl, HV.out, HB.out⟩
end Go.Proofs.Ytgcggngleiggiaa.Sm
namespace Go.Proofs.Ytgcggngleiggiaa.Sm
open Go Go.RowKit Go.Proofs.YtgcggngleiggiaaW.PrintWords Go.Proofs.YtgcggngleiggiaaW.PrintLast Go.Proofs.YtgcggngleiggiaaW.PrintMore
set_option linter.unusedVariables false
theorem near_zero : Near (0, 0) 0 := ⟨0, FloatSum.fin_zero, by simp, by simp⟩
theorem zero_M (w : World) (b : Nat) (ok : Nat → Prop) : sumK.M w b ok (0, 0) (Value.agg #[.int .i64 0, .float .f64 0]).cells.toList := ⟨0, by
  have e : wrap64 0 = 0 := by decide +kernel
  show _ = [Value.int .i64 (wrap64 0), Value.float .f64 0]
  rw [e]
  rfl, near_zero⟩
def timesF (ord many : Int) (pw : List (List Int)) (a b : List Int) : Option (List Int × Bool) :=
  if (1 ≤ many ∧ many ≤ 1000000) ∧ a.length ≤ 1000000 ∧ b.length ≤ 1000000 then (sumA ord pw b a 0 (List.replicate many.toNat (0, 0))).bind fun xs => if (∀ x ∈ xs, x.2 ≤ 16384) then some (xs.map low, xs.all small) else none else none
set_option maxHeartbeats 8000000 in
set_option maxRecDepth 100000 in
theorem times_calls (g0 : Nat) (ord many : Int) (A2 : Option Addr) (c2 : Nat) (pw : List (List Int)) (A1 : Option Addr) (c1 : Nat) (a : List Int) (A3 : Option Addr) (c3 : Nat) (b : List Int) (r1 : List Int) (r2 : Bool) (w : World)
    (hg0 : w.heap[g0]? = some (.cells #[.int .i64 ord, .int .i64 many, .slice A2 pw.length c2] 117 (0, 0))) (hr2 : Kd.C (Kd.slice 2 (Kd.int .i64)) w A2 pw.length pw) (hra : Kd.C (Kd.int .i64) w A1 a.length a) (hrb : Kd.C (Kd.int .i64) w A3 b.length b) (h : timesF ord many pw a b = some (r1, r2)) :
    Calls Try.prog 148 #[.pointer (some ⟨g0, 0, none⟩), .slice A1 a.length c1, .slice A3 b.length c3] w fun e w' => ∃ v0_ : Value, e = .returned (.tuple #[v0_, .bool r2]) ∧ Kd.R (Kd.int .i64) 2 w' w.heap.size (fun _ => True) v0_ r1 ∧ Below w.heap.size w w' := by
  unfold timesF at h
  by_cases c : (1 ≤ many ∧ many ≤ 1000000) ∧ a.length ≤ 1000000 ∧ b.length ≤ 1000000
  · rw [if_pos c] at h
    obtain ⟨⟨m1, m2⟩, la, lb⟩ := c
    have ML := Aside0.mk (And.intro m1 m2)
    replace h := Option.bind_eq_some_iff.mp h
    obtain ⟨xs, H1, h⟩ := h
    by_cases ck : ∀ x ∈ xs, x.2 ≤ 16384
    · rw [if_pos ck] at h
      injection h with h
      injection h with e1 e2
      subst e1 e2
      clear m1 m2
      replace ck := Aside0.mk ck
      replace H1 := Aside0.mk H1
      have HG0 := Aside0.mk hg0
      have HR2 := Aside0.mk hr2
      have HRA := Aside0.mk hra
      have HRB := Aside0.mk hrb
      have k1 : w.cell? ⟨g0, 1, none⟩ = some (.int .i64 many) := (blk_cell hg0 1).trans rfl
      have f1 := blk_frozen hg0 1
      have HB := Aside0.mk (Below.refl w.heap.size w)
      have HO := Aside0.mk True.intro
      clear hg0 hr2 hra hrb
      go_enter Try.func148, Try.ntmps148
      go_wp2_with (first | ((with_reducible refine gate_dst (N := 13) rfl ?_); refine Kd.R_make sumK _ 209 rfl (N := 13) rfl 147 _ _ rfl many rfl rfl Try.underlying147 (.agg #[.int .i64 0, .float .f64 0]) 16 info209 rfl (by decide) (by omega) (0, 0) (ok := fun _ => True) (okp := fun _ => True) (zero_M _ _ _) (fun _ hk => hk) trivial (by have := ML.out; omega) (by have := ML.out; omega) (Below.refl _ _) (Nat.le_refl _) ?_; intro v1 w1 ho hb hg hnew; have hp : 0 < (List.replicate many.toNat ((0 : Int), (0 : Nat))).length := (by rw [List.length_replicate]; have := ML.out; omega); obtain ⟨g, cap, e1, hg1, hg2, hg3⟩ := Kd.R_form ho hp; subst e1; rw [List.length_replicate] at ho; replace HB := Aside0.mk hb; replace HO := Aside0.mk ho; clear hb ho hg hnew hp hg1 hg2 hg3) | (go_at_call 142; (refine (product_calls w g0 ord many A2 c2 pw A1 c1 a A3 c3 b g many.toNat cap (fun _ => True) _ xs w1 HG0.out HR2.out HRA.out HRB.out HB.out HO.out la lb H1.out).mono ?_; rintro e w6 ⟨rfl, ho, hb, hg⟩; replace HB := Aside0.mk hb; replace HO := Aside0.mk ho; clear ho hb hg)) | (go_at_call 237; (refine (values_calls w6 w.heap.size g many.toNat cap (fun _ => True) xs HO.out (by rw [← (Kd.R_reads' HO.out).1]; have := ML.out; omega) ck.out).mono ?_; rintro e w7 ⟨v7, rfl, hv, hb⟩; replace HO := Aside0.mk (Kd.R_lower hv HB.out.size); replace HB := Aside0.mk (below_step HB.out hb); clear hv hb)))
      go_ret2
      exact ⟨_, rfl, HO.out, HB.out⟩
    · rw [if_neg ck] at h
      cases h
  · rw [if_neg c] at h
    cases h
end Go.Proofs.Ytgcggngleiggiaa.Sm
