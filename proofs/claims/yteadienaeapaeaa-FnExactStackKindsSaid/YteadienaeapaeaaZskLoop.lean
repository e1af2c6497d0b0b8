/- Loops that copy, compare and measure lists, told once for all kinds of elements. -/
import Derived.Test.YteadienaeapaeaaZskBase
import Derived.Lib.Strings
namespace Go.Proofs.Yteadienaeapaeaa.Loop
open Go Go.RowKit Go.Proofs.YteadienaeapaeaaW.PrintWords Go.Proofs.YteadienaeapaeaaW.PrintLast Go.Proofs.YteadienaeapaeaaW.PrintMore Go.Proofs.Yteadienaeapaeaa.Base
/-- What is told comes out, and it is true exactly if p holds. -/
def Tells (F : Nat → Option Bool) (p : Prop) : Prop := ∃ t, Ev F t ∧ (t = true ↔ p)
theorem Tells.iff {F : Nat → Option Bool} {p q : Prop} (h : Tells F p) (e : p ↔ q) : Tells F q := h.imp fun _ x => ⟨x.1, x.2.trans e⟩
theorem tells_eq {F G : Nat → Option Bool} {p : Prop} (h : Tells F p) (e : ∀ k, G k = F k) : Tells G p := h.imp fun _ x => ⟨ev_eq x.1 e, x.2⟩
theorem tells_step {F G : Nat → Option Bool} {p : Prop} (h : Tells F p) (e : ∀ k, G (k + 1) = F k) : Tells G p := h.imp fun _ x => ⟨ev_step x.1 e, x.2⟩
theorem tells_if {G : Nat → Option Bool} {c p : Prop} [Decidable c] (h : c → Tells G p) (hc : p → c) : Tells (fun k => if c then G k else some false) p := by
  by_cases hx : c
  · exact tells_eq (h hx) fun k => if_pos hx
  · exact ⟨false, ev_neg hx (ev_some _), ⟨fun x => (by cases x), fun x => absurd (hc x) hx⟩⟩
theorem tells_rounds {α : Type} (L : Nat → Int → Option Bool) (a b : List α) (hl : a.length = b.length)
    (hs : ∀ (i : Nat) (h : i < a.length) (p : Prop), Tells (fun k => L k ((i + 1 : Nat) : Int)) p → Tells (fun k => L k (i : Int)) (a[i] = b[i]'(hl ▸ h) ∧ p))
    (he : ∀ k, L (k + 1) (a.length : Int) = some true) : Tells (fun k => L k 0) (a = b) := by
  have go : ∀ (d i : Nat), i + d = a.length → Tells (fun k => L k (i : Int)) (a.drop i = b.drop i) := by
    intro d
    induction d with
    | zero =>
      intro i hd
      obtain rfl : i = a.length := by omega
      refine ⟨true, ev_one he, ⟨fun _ => ?_, fun _ => rfl⟩⟩
      rw [List.drop_of_length_le (Nat.le_refl _), List.drop_of_length_le (by omega)]
    | succ d ih =>
      intro i hd
      have hi : i < a.length := by omega
      refine (hs i hi _ (ih (i + 1) (by omega))).iff ?_
      rw [List.drop_eq_getElem_cons hi, List.drop_eq_getElem_cons (show i < b.length by omega), List.cons.injEq]
  have h := go a.length 0 (by omega)
  rw [List.drop_zero, List.drop_zero] at h
  exact h
/-- Two lists of one length or not. -/
theorem tells_lists {α : Type} {G : Nat → Option Bool} (a b : List α) (h : a.length = b.length → Tells G (a = b)) : Tells (fun k => if (a.length : Int) = (b.length : Int) then G k else some false) (a = b) :=
  tells_if (fun hc => h (by omega)) (fun e => by rw [e])
theorem to_loop {α β γ : Type} (L : Nat → List β → Int → Option (List β)) (T : Nat → Nat → Option γ) (mk : γ → β) (a : List α) (f : α → β)
    (hT : ∀ (i : Nat) (h : i < a.length), ∃ g, Ev (fun k => T k i) g ∧ mk g = f a[i])
    (hs : ∀ (k i : Nat) (x : List β), i < a.length → x.length = a.length → L (k + 1) x (i : Int) = (T k i).bind fun g => L k (x.set i (mk g)) ((i + 1 : Nat) : Int))
    (he : ∀ (k : Nat) (x : List β), L (k + 1) x (a.length : Int) = some x) (x : List β) (hx : x.length = a.length) : Ev (fun k => L k x 0) (a.map f) := by
  have go : ∀ (d i : Nat) (x : List β), i + d = a.length → x.length = a.length → x.take i = (a.map f).take i → Ev (fun k => L k x (i : Int)) (a.map f) := by
    intro d
    induction d with
    | zero =>
      intro i x hd hx hq
      obtain rfl : i = a.length := by omega
      refine ev_one fun k => ?_
      rw [he]
      rw [List.take_of_length_le (by omega), List.take_of_length_le (by simp)] at hq
      rw [hq]
    | succ d ih =>
      intro i x hd hx hq
      have hi : i < a.length := by omega
      obtain ⟨g, hg, hm⟩ := hT i hi
      have hp : Ev (fun k => L k (x.set i (mk g)) ((i + 1 : Nat) : Int)) (a.map f) := by
        refine ih (i + 1) (x.set i (mk g)) (by omega) (by simpa using hx) ?_
        rw [hm]
        apply List.ext_getElem?
        intro j
        by_cases hj : j < i + 1
        · rw [List.getElem?_take_of_lt hj, List.getElem?_take_of_lt hj]
          by_cases hji : j = i
          · subst hji
            rw [List.getElem?_set_self (by omega), List.getElem?_map, List.getElem?_eq_getElem hi]
            rfl
          · rw [List.getElem?_set_ne (by omega)]
            have h2 : (x.take i)[j]? = ((a.map f).take i)[j]? := by rw [hq]
            rw [List.getElem?_take_of_lt (by omega), List.getElem?_take_of_lt (by omega)] at h2
            exact h2
        · rw [List.getElem?_take_eq_none (by omega), List.getElem?_take_eq_none (by omega)]
      exact ev_step (ev_bind hg hp) fun k => hs k i x hi hx
  exact go a.length 0 x (by omega) hx (by simp)
end Go.Proofs.Yteadienaeapaeaa.Loop
