/- The statements' own marks: markStringS writes the texts of the numbers that follow one another into a list, and heldStringS finds them there. -/
import Derived.Test.YteadienaeapaeaaDoorZnoBase
import Derived.Test.YteadienaeapaeaaDoorZnoPYx13
namespace Go.Proofs.YteadienaeapaeaaDoor.MarkY
open Go Go.RowKit Go.Proofs.YteadienaeapaeaaDoorW.PrintWords Go.Proofs.YteadienaeapaeaaDoorW.PrintLast Go.Proofs.YteadienaeapaeaaDoorW.PrintMore Go.Proofs.YteadienaeapaeaaDoor.Base Go.Proofs.YteadienaeapaeaaDoor.PY
theorem strOfNums_size (l : List Int) : (strOfNums l).size = l.length := by
  simp [strOfNums, ByteArray.size]
theorem app_size (a b : ByteArray) : (a ++ b).size = a.size + b.size := ByteArray.size_append
theorem text_loop (n : Nat) : ∀ (m : Nat) (x : ByteArray), m ≤ n → m + x.size + 1 ≤ 9223372036854775807 → ∃ s, Ev (fun k => laws_markText.l0 k (m : Int) x) s := by
  induction n with
  | zero =>
    intro m x hm hx
    refine ⟨(⟨#[109]⟩ : ByteArray) ++ x, ev_one fun k => ?_⟩
    simp only [laws_markText.l0]
    rw [if_neg (by omega), if_pos (by omega)]
  | succ n ih =>
    intro m x hm hx
    by_cases h0 : m = 0
    · refine ⟨(⟨#[109]⟩ : ByteArray) ++ x, ev_one fun k => ?_⟩
      simp only [laws_markText.l0]
      rw [if_neg (by omega), if_pos (by omega)]
    · have hd : Int.tdiv (m : Int) 10 = ((m / 10 : Nat) : Int) := by rw [Int.tdiv_eq_ediv_of_nonneg (by omega)]; omega
      obtain ⟨s, hs⟩ := ih (m / 10) ((strOfNums [(wrap64 (48 + (Int.tmod (m : Int) 10))) % 256]) ++ x) (by omega) (by rw [app_size, strOfNums_size]; simp; omega)
      refine ⟨s, ev_step hs fun k => ?_⟩
      simp only [laws_markText.l0]
      rw [if_pos (by omega)]
      simp only [Option.bind_some]
      rw [if_pos (by rw [strOfNums_size]; simp; omega), w64 (x := Int.tdiv (m : Int) 10) (by omega) (by omega), hd]
theorem text_ends (a : Int) (h : a ≤ 4611686018427387904) : ∃ s, Ev (fun k => laws_markText.f k a) s := by
  unfold laws_markText.f
  by_cases h0 : a ≤ 0
  · exact ⟨_, ev_pos h0 (ev_some _)⟩
  · obtain ⟨n, rfl⟩ : ∃ n : Nat, a = n := ⟨a.toNat, by omega⟩
    obtain ⟨s, hs⟩ := text_loop n n ⟨#[]⟩ (by omega) (by simp [ByteArray.size]; omega)
    exact ⟨s, ev_neg h0 hs⟩
/-- The text of a number. -/
noncomputable def mtext (a : Int) : ByteArray := @dite _ (∃ s, Ev (fun k => laws_markText.f k a) s) (Classical.propDecidable _) (fun h => Classical.choose h) (fun _ => ByteArray.empty)
theorem mtext_ev (a : Int) (h : a ≤ 4611686018427387904) : Ev (fun k => laws_markText.f k a) (mtext a) := by
  unfold mtext
  rw [dif_pos (text_ends a h)]
  exact Classical.choose_spec (text_ends a h)
noncomputable def marks (a : Int) (n : Nat) : List ByteArray := (List.range n).map fun j : Nat => mtext (a + (j : Int))
theorem marks_len (a : Int) (n : Nat) : (marks a n).length = n := by simp [marks]
theorem mark_loop (a : Int) (n : Nat) (h0 : 0 ≤ a) (h1 : a + n ≤ 4611686018427387904) (d : Nat) : ∀ (i : Nat) (x : List ByteArray), i + d = n → x.length = n → (∀ j, j < i → x[j]? = some (mtext (a + (j : Int)))) →
    Ev (fun k => laws_markStringS.l0 k x (a + (i : Int)) (i : Int)) (a + (n : Int), marks a n) := by
  induction d with
  | zero =>
    intro i x hd hx hj
    obtain rfl : i = n := by omega
    refine ev_one fun k => ?_
    simp only [laws_markStringS.l0]
    rw [if_neg (by omega)]
    congr 2
    apply List.ext_getElem?
    intro j
    by_cases h : j < i
    · rw [hj j h]; simp [marks, h]
    · rw [List.getElem?_eq_none (by omega), List.getElem?_eq_none (by rw [marks_len]; omega)]
  | succ d ih =>
    intro i x hd hx hj
    have hi : i < n := by omega
    have h2 := ih (i + 1) (x.set i (mtext (a + (i : Int)))) (by omega) (by simp [hx]) (fun j hj1 => by
      rw [List.getElem?_set]
      by_cases e : i = j
      · subst e
        rw [if_pos rfl, if_pos (by omega)]
      · rw [if_neg e]
        exact hj j (by omega))
    refine ev_step (f := fun k => (laws_markText.f k (a + (i : Int))).bind fun t => if 0 ≤ (i : Int) then laws_markStringS.l0 k (x.set (i : Int).toNat t) (wrap64 (a + (i : Int) + 1)) (wrap64 ((i : Int) + 1)) else none) ?_ (fun k => by
      simp only [laws_markStringS.l0]
      rw [if_pos (by omega)])
    refine ev_bind (mtext_ev _ (by omega)) (ev_pos (by omega) ?_)
    rw [w64s hi (by omega), w64 (x := a + (i : Int) + 1) (by omega) (by omega), show a + (i : Int) + 1 = a + ((i + 1 : Nat) : Int) by omega]
    exact h2
theorem mark_tells (a : Int) (l : List ByteArray) (h0 : 0 ≤ a) (h1 : a + l.length ≤ 4611686018427387904) : Ev (fun k => laws_markStringS.f k l a) (a + (l.length : Int), marks a l.length) := by
  have h := mark_loop a l.length h0 h1 l.length 0 l (by omega) rfl (fun j hj => by omega)
  unfold laws_markStringS.f
  simpa using h
theorem held_loop (a : Int) (n : Nat) (h0 : 0 ≤ a) (h1 : a + n ≤ 4611686018427387904) (d : Nat) : ∀ (i : Nat), i + d = n →
    Ev (fun k => laws_heldStringS.l0 k (marks a n) (a + (i : Int)) (i : Int)) (a + (n : Int)) := by
  induction d with
  | zero =>
    intro i hd
    obtain rfl : i = n := by omega
    refine ev_one fun k => ?_
    simp only [laws_heldStringS.l0]
    rw [if_neg (by rw [marks_len]; omega)]
  | succ d ih =>
    intro i hd
    have hi : i < n := by omega
    have h2 := ih (i + 1) (by omega)
    have hr : rdOf ByteArray.empty (marks a n) (i : Int) = mtext (a + (i : Int)) := by
      rw [rdOf_at _ _ i (by rw [marks_len]; exact hi)]
      simp [marks]
    refine ev_step (f := fun k => (laws_markText.f k (a + (i : Int))).bind fun t => if (mtext (a + (i : Int))).toList = t.toList then laws_heldStringS.l0 k (marks a n) (wrap64 (a + (i : Int) + 1)) (wrap64 ((i : Int) + 1)) else some (-1)) ?_ (fun k => by
      simp only [laws_heldStringS.l0]
      rw [if_pos (by rw [marks_len]; omega), if_pos (by omega), hr])
    refine ev_bind (mtext_ev _ (by omega)) (ev_pos rfl ?_)
    rw [w64s hi (by omega), w64 (x := a + (i : Int) + 1) (by omega) (by omega), show a + (i : Int) + 1 = a + ((i + 1 : Nat) : Int) by omega]
    exact h2
theorem held_tells (a : Int) (n : Nat) (h0 : 0 ≤ a) (h1 : a + n ≤ 4611686018427387904) : Ev (fun k => laws_heldStringS.f k (marks a n) a) (a + (n : Int)) := by
  have h := held_loop a n h0 h1 n 0 (by omega)
  unfold laws_heldStringS.f
  simpa using h
end Go.Proofs.YteadienaeapaeaaDoor.MarkY
