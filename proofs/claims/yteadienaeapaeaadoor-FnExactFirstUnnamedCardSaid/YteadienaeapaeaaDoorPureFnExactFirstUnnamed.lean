/- FirstUnnamed of the program returns what FirstUnnamed of the reference returns and leaves its argument alone, for every list of steps; lists that the statement passes over (more than 2^20 in all) are passed over here, too. -/
import Derived.Test.YteadienaeapaeaaDoorKindsFnExactFirstUnnamed
import Derived.Test.YteadienaeapaeaaDoorMarksW
namespace Go.Proofs.YteadienaeapaeaaDoor.Pure
open Go Go.RowKit Go.Proofs.YteadienaeapaeaaDoorW.PrintWords Go.Proofs.YteadienaeapaeaaDoorW.PrintLast Go.Proofs.YteadienaeapaeaaDoorW.PrintMore Go.Proofs.YteadienaeapaeaaDoor.Base Go.Proofs.YteadienaeapaeaaDoor.Loop Go.Proofs.YteadienaeapaeaaDoor.ProgW Go.Proofs.YteadienaeapaeaaDoor.MarksW Go.Proofs.YteadienaeapaeaaDoor.PW
def Knows (l : List S34) (nm : ByteArray) : Prop := ∃ y ∈ l, y.f0 = 4 ∧ y.f1 = nm
theorem mem_take_succ {α : Type} (l : List α) (j : Nat) (h : j < l.length) (y : α) : y ∈ l.take (j + 1) ↔ y ∈ l.take j ∨ y = l[j] := by
  rw [List.take_add_one, List.getElem?_eq_getElem h, List.mem_append, Option.toList_some, List.mem_singleton]
theorem knows_succ (l : List S34) (j : Nat) (h : j < l.length) (nm : ByteArray) : Knows (l.take (j + 1)) nm ↔ Knows (l.take j) nm ∨ (l[j].f0 = 4 ∧ l[j].f1 = nm) := by
  constructor
  · rintro ⟨y, hy, h1, h2⟩
    rcases (mem_take_succ l j h y).mp hy with h3 | rfl
    · exact Or.inl ⟨y, h3, h1, h2⟩
    · exact Or.inr ⟨h1, h2⟩
  · rintro (⟨y, hy, h1, h2⟩ | h1)
    · exact ⟨y, (mem_take_succ l j h y).mpr (Or.inl hy), h1, h2⟩
    · exact ⟨l[j], (mem_take_succ l j h _).mpr (Or.inr rfl), h1⟩
theorem known_loop (l : List S34) (hl : l.length ≤ 30) (i : Nat) (hi : i < l.length) (a0 : Int) (nm : ByteArray) (a2 a3 a4 a5 a6 a7 : Int) (a8 : Bool) (r : Int)
    (hT : Knows (l.take i) nm → Ev (fun k => spec_FirstUnnamed.l0 k l ((i + 1 : Nat) : Int)) r) (hF : ¬ Knows (l.take i) nm → r = (i : Int)) (d : Nat) :
    ∀ (j : Nat) (b : Bool), j + d = i → (b = true ↔ Knows (l.take j) nm) → Ev (fun k => spec_FirstUnnamed.l1 k l (i : Int) b (j : Int) a0 nm a2 a3 a4 a5 a6 a7 a8) r := by
  induction d with
  | zero =>
    intro j b hd hb
    obtain rfl : j = i := by omega
    cases b with
    | true =>
      refine ev_step (hT (hb.mp rfl)) fun k => ?_
      simp only [spec_FirstUnnamed.l1]
      rw [if_neg (by omega), if_pos trivial, w64s hi (by omega)]
    | false =>
      obtain rfl := hF (fun h => by have := hb.mpr h; cases this)
      refine ev_one fun k => ?_
      simp only [spec_FirstUnnamed.l1]
      rw [if_neg (by omega), if_neg (by simp)]
  | succ d ih =>
    intro j b hd hb
    have hj : j < l.length := by omega
    cases b with
    | true =>
      refine ev_step (ih (j + 1) true (by omega) ⟨fun _ => (knows_succ l j hj nm).mpr (Or.inl (hb.mp rfl)), fun _ => rfl⟩) fun k => ?_
      simp only [spec_FirstUnnamed.l1]
      rw [if_pos (by omega), if_pos trivial, w64s hj (by omega)]
    | false =>
      have hno : ¬ Knows (l.take j) nm := fun h => by have := hb.mpr h; cases this
      by_cases h4 : l[j].f0 = 4
      · refine ev_step (ih (j + 1) (l[j].f1.toList == nm.toList) (by omega) ?_) fun k => ?_
        · rw [knows_succ l j hj, beq_iff_eq, bytes_ext]
          exact ⟨fun e => Or.inr ⟨h4, e⟩, fun e => (e.resolve_left hno).2⟩
        · simp only [spec_FirstUnnamed.l1]
          rw [if_pos (by omega), if_neg (by simp), if_pos (by omega), if_pos (by omega), rd34 l j hj, if_pos h4, w64s hj (by omega)]
      · refine ev_step (ih (j + 1) false (by omega) ?_) fun k => ?_
        · rw [knows_succ l j hj]
          exact ⟨fun e => (by cases e), fun e => absurd (e.resolve_left hno).1 h4⟩
        · simp only [spec_FirstUnnamed.l1]
          rw [if_pos (by omega), if_neg (by simp), if_pos (by omega), if_pos (by omega), rd34 l j hj, if_neg h4, w64s hj (by omega)]
theorem namesEnd_short (xs : List ByteArray) : (namesEnd xs).length ≤ xs.length := by
  unfold namesEnd
  rw [List.length_map]
  refine Nat.le_trans (Go.Lib.compact_length_le _) ?_
  rw [List.length_mergeSort, List.length_map]
  exact Nat.le_refl _
theorem namesL_short (l : List S34) : (namesL l).length ≤ l.length := by
  unfold namesL
  rw [List.length_map]
  exact List.length_filter_le _ _
theorem first_loop (l : List S34) (hp : progB l = true) (hn : Names l) (d : Nat) : ∀ i : Nat, i + d = l.length →
    ∃ r, Ev (fun k => spec_FirstUnnamed.l0 k l (i : Int)) r ∧ Ev (fun k => impl_FirstUnnamed.l0 k l l (l.length : Int) (i : Int)) r := by
  have h30 := prog_len hp
  induction d with
  | zero =>
    intro i hd
    refine ⟨-1, ev_one fun k => ?_, ev_one fun k => ?_⟩
    · simp only [spec_FirstUnnamed.l0]
      rw [if_neg (by omega)]
    · simp only [impl_FirstUnnamed.l0]
      rw [if_neg (by omega)]
  | succ d ih =>
    intro i hd
    have hi : i < l.length := by omega
    obtain ⟨r, e1, e2⟩ := ih (i + 1) (by omega)
    have hw : wrap64 ((i : Int) + 1) = ((i + 1 : Nat) : Int) := w64s hi (by omega)
    have er := rd34 l i hi
    have hok := prog_ok hp _ (List.getElem_mem hi)
    have specNext : Ev (fun k => spec_FirstUnnamed.j1 k l (i : Int) true l[i].f0 l[i].f1 l[i].f2.f0 l[i].f2.f1.f0 l[i].f2.f1.f1 l[i].f2.f1.f2 l[i].f3 l[i].f4 l[i].f5) r := ev_step e1 fun k => by
      simp only [spec_FirstUnnamed.j1]
      rw [if_pos trivial, hw]
    have implNext : Ev (fun k => impl_FirstUnnamed.j1 k l (i : Int) l (l.length : Int) (i : Int) false) r := ev_step e2 fun k => by
      simp only [impl_FirstUnnamed.j1]
      rw [if_neg (by simp), hw]
    have unf : ∀ k, impl_FirstUnnamed.l0 (k + 1) l l (l.length : Int) (i : Int) = if (decide (l[i].f0 = 1) || decide (l[i].f0 = 2)) = true then (if l[i].f1.toList = ([] : List UInt8) then (impl_FirstUnnamed.j1 k l (i : Int) l (l.length : Int) (i : Int) false) else ((impl_NamesOf.f k (l.take i)).bind fun t243 => ((slices_Contains_string_string.f k t243 l[i].f1).bind fun t246 => (impl_FirstUnnamed.j1 k l (i : Int) l (l.length : Int) (i : Int) (!t246))))) else (impl_FirstUnnamed.j1 k l (i : Int) l (l.length : Int) (i : Int) false) := fun k => by
      simp only [impl_FirstUnnamed.l0]
      rw [if_pos (by omega), if_pos (by omega), if_pos (by omega), er, fold_eq, if_pos (show (i : Int) ≤ (l.length : Int) by omega)]
      rfl
    by_cases h0 : l[i].f1.toList = []
    · refine ⟨r, ev_step specNext fun k => ?_, ?_⟩
      · simp only [spec_FirstUnnamed.l0]
        rw [if_pos (by omega), if_pos (by omega), er, if_pos h0]
      · refine ev_step implNext fun k => ?_
        rw [unf]
        by_cases hf : (decide (l[i].f0 = 1) || decide (l[i].f0 = 2)) = true
        · rw [if_pos hf, if_pos h0]
        · rw [if_neg hf]
    · by_cases h4 : l[i].f0 = 4
      · refine ⟨r, ev_step specNext fun k => ?_, ev_step implNext fun k => ?_⟩
        · simp only [spec_FirstUnnamed.l0]
          rw [if_pos (by omega), if_pos (by omega), er, if_neg h0, show (l[i].f0 == 4) = true by simpa using h4]
        · rw [unf, if_neg (by simp [h4])]
      · have hf : (decide (l[i].f0 = 1) || decide (l[i].f0 = 2)) = true := by simpa using named hok h4 h0
        have hNames := names_impl (l.take i) (names_of_take hn i)
        rw [if_pos (prog_take hp i)] at hNames
        obtain ⟨t, c1, c2⟩ := contains_tells (namesEnd (namesL (l.take i))) (by have h1 := namesEnd_short (namesL (l.take i)); have h2 := namesL_short (l.take i); simp at h2; omega) l[i].f1
        rw [namesEnd_mem, namesL_mem] at c2
        have specTo : ∀ s : Int, (Knows (l.take i) l[i].f1 → Ev (fun k => spec_FirstUnnamed.l0 k l ((i + 1 : Nat) : Int)) s) → (¬ Knows (l.take i) l[i].f1 → s = (i : Int)) → Ev (fun k => spec_FirstUnnamed.l0 k l (i : Int)) s := fun s hT hF => by
          have hk := known_loop l h30 i hi l[i].f0 l[i].f1 l[i].f2.f0 l[i].f2.f1.f0 l[i].f2.f1.f1 l[i].f2.f1.f2 l[i].f3 l[i].f4 l[i].f5 s hT hF i 0 false (by omega) ⟨fun e => (by cases e), fun ⟨y, hy, _⟩ => (by simp at hy)⟩
          have hj : Ev (fun k => spec_FirstUnnamed.j1 k l (i : Int) false l[i].f0 l[i].f1 l[i].f2.f0 l[i].f2.f1.f0 l[i].f2.f1.f1 l[i].f2.f1.f2 l[i].f3 l[i].f4 l[i].f5) s := ev_step hk fun k => by
            simp only [spec_FirstUnnamed.j1]
            rw [if_neg (by simp)]
            rfl
          refine ev_step hj fun k => ?_
          simp only [spec_FirstUnnamed.l0]
          rw [if_pos (by omega), if_pos (by omega), er, if_neg h0, show (l[i].f0 == 4) = false by simpa using h4]
        cases t with
        | true =>
          have hk : Knows (l.take i) l[i].f1 := c2.mp rfl
          refine ⟨r, specTo r (fun _ => e1) (fun h => absurd hk h), ?_⟩
          refine ev_step (f := fun k => (impl_NamesOf.f k (l.take i)).bind fun t243 => ((slices_Contains_string_string.f k t243 l[i].f1).bind fun t246 => (impl_FirstUnnamed.j1 k l (i : Int) l (l.length : Int) (i : Int) (!t246)))) (ev_bind hNames (ev_bind c1 implNext)) fun k => ?_
          rw [unf, if_pos hf, if_neg h0]
        | false =>
          have hk : ¬ Knows (l.take i) l[i].f1 := fun h => by have := c2.mpr h; cases this
          refine ⟨i, specTo i (fun h => absurd h hk) (fun _ => rfl), ?_⟩
          have stop : Ev (fun k => impl_FirstUnnamed.j1 k l (i : Int) l (l.length : Int) (i : Int) true) (i : Int) := ev_one fun k => by
            simp only [impl_FirstUnnamed.j1]
            rw [if_pos trivial]
          refine ev_step (f := fun k => (impl_NamesOf.f k (l.take i)).bind fun t243 => ((slices_Contains_string_string.f k t243 l[i].f1).bind fun t246 => (impl_FirstUnnamed.j1 k l (i : Int) l (l.length : Int) (i : Int) (!t246)))) (ev_bind hNames (ev_bind c1 stop)) fun k => ?_
          rw [unf, if_pos hf, if_neg h0]
theorem FnExactFirstUnnamed : FnExactFirstUnnamed.Stat := by
  intro l hx
  have hlen : l.length ≤ 9223372036854775807 := by have := hx.1; unfold maxLen at this; omega
  have hs : ∀ y ∈ l, y.f1.size ≤ 9223372036854775807 := fun y hy => by
    have := (hx.2 y hy).2.1
    unfold maxLen at this
    omega
  refine Ev.rounds (g := fun k => laws_FnExactFirstUnnamed.f k l) (r := true) ?_
  unfold laws_FnExactFirstUnnamed.f
  obtain ⟨r1, e1, s1⟩ := sz_tells l hlen hs
  refine ev_bind e1 ?_
  by_cases h1 : r1 < 0
  · exact ev_pos h1 (ev_some _)
  · have la := s1 (by omega)
    have lc : (l.map conv).length ≤ 1048576 := by simpa using la
    have hn := names_conv l hs
    have hc : ∃ r, Ev (fun k => spec_FirstUnnamed.f k (l.map conv)) r ∧ Ev (fun k => impl_FirstUnnamed.f k (l.map conv)) r := by
      unfold spec_FirstUnnamed.f impl_FirstUnnamed.f
      have hp := prog_spec _ lc hn
      have hq := prog_impl (l.map conv) hn
      cases hb : progB (l.map conv) with
      | false =>
        rw [hb] at hp hq
        exact ⟨-1, ev_bind hp (ev_neg (by simp) (ev_some _)), ev_bind hq (ev_neg (by simp) (ev_some _))⟩
      | true =>
        rw [hb] at hp hq
        obtain ⟨r, p, q⟩ := first_loop (l.map conv) hb hn (l.map conv).length 0 (by omega)
        exact ⟨r, ev_bind hp (ev_pos rfl p), ev_bind hq (ev_pos rfl q)⟩
    obtain ⟨r, c1, c2⟩ := hc
    exact ev_neg h1 (ev_bind (to_conv l la) (ev_bind c1 (ev_bind (to_conv l la) (ev_bind c2 (ev_pos rfl (ev_bind (to_conv l la) (ev_bind (eq_self _ lc) (ev_pos rfl (ev_some _)))))))))
end Go.Proofs.YteadienaeapaeaaDoor.Pure
