/- The statements' own helpers on lists of strings: copying gives the list itself, a list equals itself, and what is not too great is short. -/
import Derived.Test.YtfmkbcmoibhffaaBase
import Derived.Test.YtfmkbcmoibhffaaPRx1
import Derived.Test.YtfmkbcmoibhffaaPRx1
import Derived.Test.YtfmkbcmoibhffaaPRx1
namespace Go.Proofs.Ytfmkbcmoibhffaa.StrR
open Go Go.RowKit Go.Proofs.YtfmkbcmoibhffaaW.PrintWords Go.Proofs.YtfmkbcmoibhffaaW.PrintLast Go.Proofs.YtfmkbcmoibhffaaW.PrintMore Go.Proofs.Ytfmkbcmoibhffaa.Base Go.Proofs.Ytfmkbcmoibhffaa.PR
theorem to_loop (l : List ByteArray) (hl : l.length ≤ 9223372036854775807) (d : Nat) : ∀ (i : Nat) (x : List ByteArray), i + d = l.length → x = l.take i ++ List.replicate (l.length - i) (⟨#[]⟩ : ByteArray) → Ev (fun k => laws_toStringS.l0 k l x (i : Int)) l := by
  induction d with
  | zero =>
    intro i x hd hx
    refine ev_one fun k => ?_
    simp only [laws_toStringS.l0]
    rw [if_neg (by omega), hx, show l.length - i = 0 by omega, List.take_of_length_le (by omega)]
    simp
  | succ d ih =>
    intro i x hd hx
    have hi : i < l.length := by omega
    have hxl : x.length = l.length := by rw [hx]; simp; omega
    refine ev_step (ih (i + 1) (x.set i (rdOf ByteArray.empty l i)) (by omega) (set_at l i _ _ x hi hx (rdOf_at _ l i hi).symm)) fun k => ?_
    simp only [laws_toStringS.l0]
    rw [if_pos (by omega), if_pos (by omega), if_pos (by omega), w64s hi hl]
    rfl
theorem to_self (l : List ByteArray) (hl : l.length ≤ 1048576) : Ev (fun k => laws_toStringS.f k l) l := by
  unfold laws_toStringS.f
  refine ev_pos (by omega) (ev_pos (by omega) ?_)
  exact to_loop l (by omega) l.length 0 _ (by omega) (by simp)
theorem eq_loop (l : List ByteArray) (hl : l.length ≤ 9223372036854775807) (d : Nat) : ∀ (i : Nat), i + d = l.length → Ev (fun k => laws_eqStringS.l0 k l l (i : Int)) true := by
  induction d with
  | zero =>
    intro i hd
    refine ev_one fun k => ?_
    simp only [laws_eqStringS.l0]
    rw [if_neg (by omega)]
  | succ d ih =>
    intro i hd
    have hi : i < l.length := by omega
    refine ev_step (ih (i + 1) (by omega)) fun k => ?_
    simp only [laws_eqStringS.l0]
    rw [if_pos (by omega), if_pos (by omega), if_pos (by omega), if_pos trivial, w64s hi hl]
theorem eq_self (l : List ByteArray) (hl : l.length ≤ 1048576) : Ev (fun k => laws_eqStringS.f k l l) true := by
  unfold laws_eqStringS.f
  exact ev_pos rfl (eq_loop l (by omega) l.length 0 (by omega))
theorem sz_loop (l : List ByteArray) (hl : l.length ≤ 9223372036854775807) (hs : ∀ y ∈ l, y.size ≤ 9223372036854775807) (d : Nat) : ∀ (i : Nat) (a : Int), i + d = l.length → 0 ≤ a → a ≤ 1048576 →
    ∃ r, Ev (fun k => laws_szStringS.l0 k l a (i : Int)) r ∧ r ≤ a := by
  induction d with
  | zero =>
    intro i a hd h0 h1
    refine ⟨a, ev_one fun k => ?_, Int.le_refl _⟩
    simp only [laws_szStringS.l0]
    rw [if_neg (by omega)]
  | succ d ih =>
    intro i a hd h0 h1
    have hi : i < l.length := by omega
    have hsz := hs _ (List.getElem_mem hi)
    have hw : wrap64 (a - ((rdOf ByteArray.empty l (i : Int)).size : Int)) = a - (l[i].size : Int) := by rw [rdOf_at _ l i hi]; exact w64 (by omega) (by omega)
    by_cases hn : a - (l[i].size : Int) < 0
    · refine ⟨-1, ev_one fun k => ?_, by omega⟩
      simp only [laws_szStringS.l0]
      rw [if_pos (by omega), if_pos (by omega), hw, if_pos hn]
    · obtain ⟨r, hr, hle⟩ := ih (i + 1) (a - (l[i].size : Int)) (by omega) (by omega) (by omega)
      refine ⟨r, ev_step hr fun k => ?_, by omega⟩
      simp only [laws_szStringS.l0]
      rw [if_pos (by omega), if_pos (by omega), hw, if_neg hn, w64s hi hl]
/-- What the size test leaves: too great, or a short list. -/
theorem sz_tells (l : List ByteArray) (hl : l.length ≤ 9223372036854775807) (hs : ∀ y ∈ l, y.size ≤ 9223372036854775807) (a : Int) (h0 : 0 ≤ a) (h1 : a ≤ 1048576) :
    ∃ r, Ev (fun k => laws_szStringS.f k l a) r ∧ r ≤ a ∧ (0 ≤ r → l.length ≤ 1048576) := by
  unfold laws_szStringS.f
  have hw : wrap64 (a - (l.length : Int)) = a - (l.length : Int) := w64 (by omega) (by omega)
  rw [hw]
  by_cases hn : a - (l.length : Int) < 0
  · exact ⟨-1, ev_pos hn (ev_some _), by omega, by omega⟩
  · obtain ⟨r, hr, hle⟩ := sz_loop l hl hs l.length 0 (a - (l.length : Int)) (by omega) (by omega) (by omega)
    exact ⟨r, ev_neg hn hr, by omega, by omega⟩
end Go.Proofs.Ytfmkbcmoibhffaa.StrR
