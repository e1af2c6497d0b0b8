/- NamesOf of the program returns what NamesOf of the reference returns, in memory of its own, and leaves its argument alone, for every list of steps; lists that the statement passes over (more than 2^20 in all) are passed over here, too. -/
import Derived.Test.YteadienaeapaeaaDoorZnoKindsFnExactNamesOf
import Derived.Test.YteadienaeapaeaaDoorZnoPutY
import Derived.Test.YteadienaeapaeaaDoorZnoMarkY
namespace Go.Proofs.YteadienaeapaeaaDoor.Pure
open Go Go.RowKit Go.Proofs.YteadienaeapaeaaDoorW.PrintWords Go.Proofs.YteadienaeapaeaaDoorW.PrintLast Go.Proofs.YteadienaeapaeaaDoorW.PrintMore Go.Proofs.YteadienaeapaeaaDoor.Base Go.Proofs.YteadienaeapaeaaDoor.Loop Go.Proofs.YteadienaeapaeaaDoor.ProgY Go.Proofs.YteadienaeapaeaaDoor.MarksY Go.Proofs.YteadienaeapaeaaDoor.MarkY Go.Proofs.YteadienaeapaeaaDoor.PutY Go.Proofs.YteadienaeapaeaaDoor.PY
theorem namesEnd_short (xs : List ByteArray) : (namesEnd xs).length ≤ xs.length := by
  unfold namesEnd
  rw [List.length_map]
  refine Nat.le_trans (Go.Lib.compact_length_le _) ?_
  rw [List.length_mergeSort, List.length_map]
  exact Nat.le_refl _
theorem namesL_short (l : List S34) : (namesL l).length ≤ l.length := by
  unfold namesL
  rw [List.length_map]
  exact List.length_filter_le _ _
theorem eq_strings (l : List ByteArray) (hl : l.length ≤ 1048576) : Ev (fun k => laws_eqStringS.f k l l) true := by
  have h : Tells (fun k => laws_eqStringS.f k l l) (l = l) := by
    refine tells_eq (tells_lists l l fun _ => tells_rounds (fun k i => laws_eqStringS.l0 k l l i) l l rfl (fun i hi p q => ?_) fun k => ?_) fun _ => rfl
    · refine tells_step (tells_if (c := l[i].toList = l[i].toList) (fun _ => q.iff ⟨fun x => ⟨rfl, x⟩, And.right⟩) (fun _ => rfl)) fun k => ?_
      simp only [laws_eqStringS.l0]
      rw [if_pos (by omega), if_pos (by omega), if_pos (by omega), w64s hi (by omega)]
    · simp only [laws_eqStringS.l0]
      rw [if_neg (by omega)]
  exact h.yes rfl
theorem ex_shift {β : Type} {F : Nat → Option β} {P : β → Prop} (h : ∃ r, Ev (fun k => F (k + 1)) r ∧ P r) : ∃ r, Ev F r ∧ P r := by
  obtain ⟨r, e, p⟩ := h
  exact ⟨r, ev_step e fun _ => rfl, p⟩
theorem ex_bind {α β : Type} {v : α} {g : Nat → α → Option β} {P : β → Prop} (Q : α → Prop) (hv : Q v) (h : ∀ y, Q y → ∃ r, Ev (fun k => g k y) r ∧ P r) : ∃ r, Ev (fun k => (some v).bind (g k)) r ∧ P r := by
  obtain ⟨r, e, p⟩ := h v hv
  exact ⟨r, e, p⟩
theorem ex_use {α β : Type} {F : Nat → Option α} {a : α} {g : Nat → α → Option β} {P : β → Prop} (e : Ev F a) (h : ∃ r, Ev (fun k => g k a) r ∧ P r) : ∃ r, Ev (fun k => (F k).bind (g k)) r ∧ P r := by
  obtain ⟨r, e2, p⟩ := h
  exact ⟨r, ev_bind e e2, p⟩
theorem st (c : Int) (g0 : 0 ≤ c) (g1 : c ≤ 2000000000) : wrap64 (c + 1) = c + 1 := w64 (by omega) (by omega)
theorem nine (a : Int) (h0 : 0 ≤ a) (h1 : a ≤ 1000000000) : wrap64 (a + 1) = a + 1 ∧ wrap64 (a + 1 + 1) = a + 1 + 1 ∧ wrap64 (a + 1 + 1 + 1) = a + 1 + 1 + 1 ∧ wrap64 (a + 1 + 1 + 1 + 1) = a + 1 + 1 + 1 + 1 ∧ wrap64 (a + 1 + 1 + 1 + 1 + 1) = a + 1 + 1 + 1 + 1 + 1 ∧ wrap64 (a + 1 + 1 + 1 + 1 + 1 + 1) = a + 1 + 1 + 1 + 1 + 1 + 1 ∧ wrap64 (a + 1 + 1 + 1 + 1 + 1 + 1 + 1) = a + 1 + 1 + 1 + 1 + 1 + 1 + 1 ∧ wrap64 (a + 1 + 1 + 1 + 1 + 1 + 1 + 1 + 1) = a + 1 + 1 + 1 + 1 + 1 + 1 + 1 + 1 ∧ wrap64 (a + 1 + 1 + 1 + 1 + 1 + 1 + 1 + 1 + 1) = a + 1 + 1 + 1 + 1 + 1 + 1 + 1 + 1 + 1 :=
  ⟨st (a) (by omega) (by omega), st (a + 1) (by omega) (by omega), st (a + 1 + 1) (by omega) (by omega), st (a + 1 + 1 + 1) (by omega) (by omega), st (a + 1 + 1 + 1 + 1) (by omega) (by omega), st (a + 1 + 1 + 1 + 1 + 1) (by omega) (by omega), st (a + 1 + 1 + 1 + 1 + 1 + 1) (by omega) (by omega), st (a + 1 + 1 + 1 + 1 + 1 + 1 + 1) (by omega) (by omega), st (a + 1 + 1 + 1 + 1 + 1 + 1 + 1 + 1) (by omega) (by omega)⟩
theorem mark_steps (n : Nat) (hn : n ≤ 1048576) (d : Nat) : ∀ (i : Nat) (x : List S34) (a : Int), i + d = n → x.length = n → 0 ≤ a → a ≤ 1 + 9 * i → ∃ r, Ev (fun k => laws_markStepS.l0 k x a (i : Int)) r ∧ 0 ≤ r.1 := by
  induction d with
  | zero =>
    intro i x a hd hx h0 h1
    refine ⟨(a, x), ev_one fun k => ?_, h0⟩
    simp only [laws_markStepS.l0]
    rw [if_neg (by omega)]
  | succ d ih =>
    intro i x a hd hx h0 h1
    have hi : i < x.length := by omega
    obtain ⟨s, hs⟩ := text_ends (a + 1) (by omega)
    have hlt : (i : Int) < (x.length : Int) := by omega
    have hle : (0 : Int) ≤ (i : Int) := by omega
    have hI : i + 1 + d = n := by omega
    have hA0 : 0 ≤ a + 1 + 1 + 1 + 1 + 1 + 1 + 1 + 1 + 1 := by omega
    have hA1 : a + 1 + 1 + 1 + 1 + 1 + 1 + 1 + 1 + 1 ≤ 1 + 9 * ((i + 1 : Nat) : Int) := by omega
    have wi : wrap64 ((i : Int) + 1) = ((i + 1 : Nat) : Int) := w64s hi (by omega)
    have up : a ≤ 1000000000 := by omega
    obtain ⟨w1, w2, w3, w4, w5, w6, w7, w8, w9⟩ := nine a h0 up
    refine ex_shift ?_
    simp only [laws_markStepS.l0, if_pos hlt, if_pos hle]
    refine ex_bind (Q := fun y => y.length = n) (by rw [List.length_set]; exact hx) fun y1 g1 => ?_
    simp only [w1]
    refine ex_use hs ?_
    refine ex_bind (Q := fun y => y.length = n) (by rw [List.length_set]; exact g1) fun y2 g2 => ?_
    refine ex_bind (Q := fun y => y.length = n) (by rw [List.length_set]; exact g2) fun y3 g3 => ?_
    refine ex_bind (Q := fun y => y.length = n) (by rw [List.length_set]; exact g3) fun y4 g4 => ?_
    refine ex_bind (Q := fun y => y.length = n) (by rw [List.length_set]; exact g4) fun y5 g5 => ?_
    refine ex_bind (Q := fun y => y.length = n) (by rw [List.length_set]; exact g5) fun y6 g6 => ?_
    refine ex_bind (Q := fun y => y.length = n) (by rw [List.length_set]; exact g6) fun y7 g7 => ?_
    refine ex_bind (Q := fun y => y.length = n) (by rw [List.length_set]; exact g7) fun y8 g8 => ?_
    simp only [w2, w3, w4, w5, w6, w7, w8, w9, wi]
    exact ih (i + 1) _ (a + 1 + 1 + 1 + 1 + 1 + 1 + 1 + 1 + 1) hI (by rw [List.length_set]; exact g8) hA0 hA1
theorem FnExactNamesOf : FnExactNamesOf.Stat := by
  intro l hx
  have hlen : l.length ≤ 9223372036854775807 := by have := hx.1; unfold maxLen at this; omega
  have hs : ∀ y ∈ l, y.f1.size ≤ 9223372036854775807 := fun y hy => by
    have := (hx.2 y hy).2.1
    unfold maxLen at this
    omega
  refine Ev.rounds (g := fun k => laws_FnExactNamesOf.f k l) (r := true) ?_
  unfold laws_FnExactNamesOf.f
  obtain ⟨r1, e1, s1⟩ := sz_tells l hlen hs
  refine ev_bind e1 ?_
  by_cases h1 : r1 < 0
  · exact ev_pos h1 (ev_some _)
  · have la := s1 (by omega)
    have lc : (l.map conv).length ≤ 1048576 := by simpa using la
    have hn := names_conv l hs
    have c1 := names_spec (l.map conv) lc hn
    have c2 := names_impl (l.map conv) hn
    obtain ⟨N, hN⟩ : ∃ N, N = (if progB (l.map conv) = true then namesEnd (namesL (l.map conv)) else []) := ⟨_, rfl⟩
    rw [← hN] at c1 c2
    have lN : N.length ≤ 30 := by
      rw [hN]
      by_cases h : progB (l.map conv) = true
      · rw [if_pos h]
        have h2 := namesEnd_short (namesL (l.map conv))
        have h3 := namesL_short (l.map conv)
        have h4 := prog_len h
        omega
      · rw [if_neg h]; simp
    have eN := eq_strings N (by omega)
    have tc := to_conv l la
    obtain ⟨m, em, hm⟩ := mark_steps (l.map conv).length lc (l.map conv).length 0 (l.map conv) 1 (by omega) rfl (by omega) (by omega)
    have em' : Ev (fun k => laws_markStepS.f k (l.map conv) 1) m := em
    have g1 := mark_tells 1 N (by omega) (by omega)
    have g2 := held_tells 1 N.length (by omega) (by omega)
    have hj : Ev (fun k => laws_FnExactNamesOf.j0 k l N N false) true := by
      refine ev_step (f := fun k => (laws_markStringS.f k N 1).bind fun bt264 => ((laws_heldStringS.f k bt264.2 1).bind fun t266 => (if t266 < 0 then (some false) else (if t266 = bt264.1 then ((laws_toStepS.f k l).bind fun t267 => ((impl_NamesOf.f k t267).bind fun t270 => ((laws_eqStringS.f k t270 N).bind fun t273 => (if t273 = true then ((laws_heldStringS.f k bt264.2 1).bind fun t274 => (if t274 < 0 then (some false) else (if t274 = bt264.1 then (some true) else (some false)))) else (some false))))) else (some false))))) ?_ fun k => ?_
      · exact ev_bind g1 (ev_bind g2 (ev_neg (by omega) (ev_pos rfl (ev_bind tc (ev_bind c2 (ev_bind eN (ev_pos rfl (ev_bind g2 (ev_neg (by omega) (ev_pos rfl (ev_some _)))))))))))
      · simp only [laws_FnExactNamesOf.j0]
        rw [if_neg (by simp)]
    exact ev_neg h1 (ev_bind tc (ev_bind c1 (ev_bind tc (ev_bind c2 (ev_bind eN (ev_pos rfl (ev_bind tc (ev_bind (eq_self _ lc) (ev_pos rfl (ev_bind em' (ev_neg (by omega) (ev_bind eN hj))))))))))))
end Go.Proofs.YteadienaeapaeaaDoor.Pure
