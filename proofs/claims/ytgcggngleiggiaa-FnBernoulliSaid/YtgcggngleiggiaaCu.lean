/-
'copy(x[1:], x[:h])' at a row of the call's own, of one-cell elements: what is in it afterwards; the others stay. Conditions: the row is owned, it has an element.
-/
import Derived.Test.YtgcggngleiggiaaV0
import Derived.Test.YtgcggngleiggiaaV1
import Derived.Laws.IdiomCopy
namespace Go.Proofs.Ytgcggngleiggiaa.Cu
open Go Go.RowKit Go.Proofs.YtgcggngleiggiaaW.PrintWords
open Go.Proofs.YtgcggngleiggiaaW.PrintWords.Kd
variable {α : Type} {enc : α → Value} {h1 : ∀ x, (enc x).oneCell' = true} {e base g n cap : Nat} {ok : Nat → Prop}

def shiftUp (xs : List α) (h : Nat) : List α := xs.take 1 ++ (xs.take (min h (xs.length - 1)) ++ xs.drop (1 + min h (xs.length - 1)))

theorem R_setCells : ∀ (ys : List α) (i : Nat) (W : World) (xs : List α), (scalar enc h1).R e W base ok (.slice (some ⟨g, 0, none⟩) n cap) xs → i + ys.length ≤ xs.length →
    (scalar enc h1).R e (W.setCells g i (ys.map enc)) base ok (.slice (some ⟨g, 0, none⟩) n cap) (xs.take i ++ (ys ++ xs.drop (i + ys.length))) ∧ W.grownBy (W.setCells g i (ys.map enc)) (some g)
  | [], i, W, xs, h, _ => by
    refine ⟨?_, World.grownBy.refl _ _⟩
    simpa [World.setCells] using h
  | y :: ys, i, W, xs, h, hl => by
    simp only [List.length_cons] at hl
    have hp := R_putg h (i : Int) y
    simp only [Int.toNat_natCast] at hp
    have ih := R_setCells ys (i + 1) _ _ hp.1 (by rw [List.length_set]; omega)
    simp only [List.map_cons, World.setCells]
    refine ⟨?_, World.grownBy.trans hp.2 ih.2⟩
    have e1 : (xs.set i y).take (i + 1) ++ (ys ++ (xs.set i y).drop (i + 1 + ys.length)) = xs.take i ++ (y :: ys ++ xs.drop (i + (y :: ys).length)) := by
      rw [List.drop_set_of_lt (by omega)]
      have hi : i < xs.length := by omega
      rw [List.take_add_one, List.getElem?_set_self hi]
      rw [List.take_set_of_le (by omega)]
      simp [List.append_assoc, Nat.add_comm, Nat.add_left_comm]
    rw [← e1]
    exact ih.1

theorem copyup_run {P : Program} {W : World} (t ty el : TypeId) (ht : P.underlying t = some (.slice el)) (hinfo : (P.info? el).map (·.size) = some 1) {xs : List α}
    (HO : (scalar enc h1).R e W base ok (.slice (some ⟨g, 0, none⟩) n cap) xs) (h c2 cd : Nat) (h0 : 1 ≤ n) (hn : h ≤ n) {A : Option Addr} (hA : A = if cap = 1 then some ⟨g, 0, none⟩ else (some (⟨g, 0, none⟩ : Addr)).map (·.add (1 * 1))) :
    ∃ w1, (Builtin.copy_ #[t, t] ty #[.slice A (n - 1) cd, .slice (some ⟨g, 0, none⟩) h c2]).run P W = .ok (goInt ((min h (n - 1) : Nat) : Int)) w1 ∧ (scalar enc h1).R e w1 base ok (.slice (some ⟨g, 0, none⟩) n cap) (shiftUp xs h) ∧ W.grownBy w1 (some g) := by
  obtain ⟨rfl, hnc, _⟩ := R_reads' HO
  unfold shiftUp
  generalize hm : min h (xs.length - 1) = m
  by_cases c : m = 0
  · refine ⟨W, ?_, ?_, World.grownBy.refl _ _⟩
    · rw [c]
      exact run_copy_none W t t ty el A (some ⟨g, 0, none⟩) (xs.length - 1) cd h c2 ht hinfo (by show min h (xs.length - 1) = 0; omega)
    · rw [c, List.take_zero, List.nil_append, Nat.add_zero, List.take_append_drop]
      exact HO
  · have hc1 : cap ≠ 1 := by omega
    rw [if_neg hc1] at hA
    have hA' : A = some ⟨g, 1, none⟩ := by rw [hA]; simp [Addr.add]
    subst hA'
    have hl : (xs.take m).length = m := by rw [List.length_take]; omega
    obtain ⟨r1, r2⟩ := R_setCells (xs.take m) 1 W xs HO (by rw [hl]; omega)
    refine ⟨_, ?_, ?_, r2⟩
    · have hrun := run_copy_cells (P := P) W t t ty el g 1 (xs.length - 1) cd ⟨g, 0, none⟩ h c2 ((xs.take m).map enc) ht hinfo (by rw [List.length_map, hl]; show m = min h (xs.length - 1); omega) ?_ ?_ ?_ ?_
      · rw [List.length_map, hl] at hrun
        exact hrun
      · intro j v hv
        rw [List.getElem?_map] at hv
        obtain ⟨x, hx, rfl⟩ := Option.map_eq_some_iff.1 hv
        have hj : j < m := by
          have := (List.getElem?_eq_some_iff.1 hx).1
          omega
        have hh := (R_celln (h1 := h1) x HO (j : Int) (by omega) (by omega)).1
        rw [Int.toNat_natCast] at hh
        rw [show (⟨g, 0, none⟩ : Addr).add j = ⟨g, j, none⟩ by simp [Addr.add]; omega, hh]
        rw [List.getElem?_take_of_lt hj] at hx
        congr 2
        unfold rdOf
        simp [hx]
      · intro j hj
        rw [List.length_map, hl] at hj
        have d0 : α := xs[0]'(by omega)
        have hh := (R_celln (h1 := h1) d0 HO ((1 + j : Nat) : Int) (by omega) (by omega)).1
        rw [Int.toNat_natCast] at hh
        rw [hh]; rfl
      · intro j hj
        rw [List.length_map, hl] at hj
        have d0 : α := xs[0]'(by omega)
        have hh := (R_celln (h1 := h1) d0 HO ((1 + j : Nat) : Int) (by omega) (by omega)).2
        rw [Int.toNat_natCast] at hh
        exact hh
      · intro v hv
        obtain ⟨x, _, rfl⟩ := List.mem_map.1 hv
        exact h1 x
    · rw [hl] at r1
      exact r1
section
variable {P : Program} {ops : Array Oper} {rest : List Oper} {o : Oper} {a : Act} {Q : Exit → Act → World → Prop} {Kc : Act → World → Prop}
theorem R_copyup {w0 W : World} (base : Nat) (hgd : o.guard = none) (s x : Operand) (t el : TypeId) (ho : o.op = .call { callee := .builtin .copy, args := #[s, x], argTypes := #[t, t] })
    (ht : P.underlying t = some (.slice el)) (hinfo : (P.info? el).map (·.size) = some 1) {h m cd c2 : Nat} {A : Option Addr} {xs : List α}
    (hs : a.eval s = .slice A m cd) (hx : a.eval x = .slice (some ⟨g, 0, none⟩) h c2) (hA : A = if cap = 1 then some ⟨g, 0, none⟩ else (some (⟨g, 0, none⟩ : Addr)).map (·.add (1 * 1))) (hm : m = n - 1)
    (HO : (scalar enc h1).R e W base ok (.slice (some ⟨g, 0, none⟩) n cap) xs) (hk : 1 ≤ n ∧ h ≤ n) (HB : Below base w0 W) (hbase : base ≤ W.heap.size)
    (hh : ∀ w1, (scalar enc h1).R e w1 base ok (.slice (some ⟨g, 0, none⟩) n cap) (shiftUp xs h) → Below base w0 w1 → W.grownBy w1 (some g) → wpList P ops Q rest (a.put o.dst (goInt ((min h (n - 1) : Nat) : Int))) w1) : wpList P ops Q (o :: rest) a W := by
  subst hm
  obtain ⟨w1, hr, r1, r2⟩ := copyup_run (P := P) t o.type el ht hinfo HO h c2 cd hk.1 hk.2 hA
  refine wpList_plain hgd fun K hK => ?_
  unfold Oper.wp execOp
  simp only [ho, resolve, invoke, builtin, Sem.run_bind, Sem.run_pure, Result.andThen_ok, List.map_toArray, List.map_cons, List.map_nil, hs, hx, hr]
  exact hK _ _ (hh w1 r1 (HB.grown r2 hbase (fun k hk => by injection hk with hk; subst hk; exact R_base HO _ (by simp [Value.ownBlock]))) r2)
theorem R_copyup_step {w0 W : World} (base : Nat) (hw : Region.wanted o (yielded ops a.tmps) = true) (s x : Operand) (t el : TypeId) (ho : o.op = .call { callee := .builtin .copy, args := #[s, x], argTypes := #[t, t] })
    (ht : P.underlying t = some (.slice el)) (hinfo : (P.info? el).map (·.size) = some 1) {h m cd c2 : Nat} {A : Option Addr} {xs : List α}
    (hs : a.eval s = .slice A m cd) (hx : a.eval x = .slice (some ⟨g, 0, none⟩) h c2) (hA : A = if cap = 1 then some ⟨g, 0, none⟩ else (some (⟨g, 0, none⟩ : Addr)).map (·.add (1 * 1))) (hm : m = n - 1)
    (HO : (scalar enc h1).R e W base ok (.slice (some ⟨g, 0, none⟩) n cap) xs) (hk : 1 ≤ n ∧ h ≤ n) (HB : Below base w0 W) (hbase : base ≤ W.heap.size)
    (hh : ∀ w1, (scalar enc h1).R e w1 base ok (.slice (some ⟨g, 0, none⟩) n cap) (shiftUp xs h) → Below base w0 w1 → W.grownBy w1 (some g) → Kc (a.put o.dst (goInt ((min h (n - 1) : Nat) : Int))) w1) :
    if Region.wanted o (yielded ops a.tmps) = true then Oper.wp P o a W Kc Q else Kc (a.put o.dst undef) W := by
  subst hm
  obtain ⟨w1, hr, r1, r2⟩ := copyup_run (P := P) t o.type el ht hinfo HO h c2 cd hk.1 hk.2 hA
  rw [if_pos hw]
  unfold Oper.wp execOp
  simp only [ho, resolve, invoke, builtin, Sem.run_bind, Sem.run_pure, Result.andThen_ok, List.map_toArray, List.map_cons, List.map_nil, hs, hx, hr]
  exact hh w1 r1 (HB.grown r2 hbase (fun k hk => by injection hk with hk; subst hk; exact R_base HO _ (by simp [Value.ownBlock]))) r2
end
theorem length_shiftUp (xs : List α) (h : Nat) : (shiftUp xs h).length = xs.length := by
  unfold shiftUp
  simp only [List.length_append, List.length_take, List.length_drop]
  omega
theorem FK_of_R {d : Kd α} {e e2 base n c : Nat} {ok : Nat → Prop} {W : World} {A : Option Addr} {xs : List α} (h : d.R e W base ok (.slice A n c) xs) : FK (Kd.slice e2 d) W ok xs [.slice A n c] := by
  obtain ⟨rfl, hc, _⟩ := R_reads' h
  exact FK_slice_mk hc (R_F h)
end Go.Proofs.Ytgcggngleiggiaa.Cu
