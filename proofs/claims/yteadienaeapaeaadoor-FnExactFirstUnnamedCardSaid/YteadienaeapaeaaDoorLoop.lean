/- Loops that copy, compare and measure lists, told once for all kinds of elements. -/
import Derived.Test.YteadienaeapaeaaDoorBase
import Derived.Lib.Strings
namespace Go.Proofs.YteadienaeapaeaaDoor.Loop
open Go Go.RowKit Go.Proofs.YteadienaeapaeaaDoorW.PrintWords Go.Proofs.YteadienaeapaeaaDoorW.PrintLast Go.Proofs.YteadienaeapaeaaDoorW.PrintMore Go.Proofs.YteadienaeapaeaaDoor.Base
/-- What is told comes out, and it is true exactly if p holds. -/
def Tells (F : Nat → Option Bool) (p : Prop) : Prop := ∃ t, Ev F t ∧ (t = true ↔ p)
theorem Tells.iff {F : Nat → Option Bool} {p q : Prop} (h : Tells F p) (e : p ↔ q) : Tells F q := h.imp fun _ x => ⟨x.1, x.2.trans e⟩
theorem Tells.same {F G : Nat → Option Bool} {p : Prop} (h : Tells F p) (g : Tells G p) : ∃ t, Ev F t ∧ Ev G t := by
  obtain ⟨t, h1, h2⟩ := h
  obtain ⟨u, g1, g2⟩ := g
  obtain rfl : t = u := Bool.eq_iff_iff.mpr (h2.trans g2.symm)
  exact ⟨t, h1, g1⟩
theorem Tells.yes {F : Nat → Option Bool} {p : Prop} (h : Tells F p) (hp : p) : Ev F true := by
  obtain ⟨t, h1, h2⟩ := h
  obtain rfl : t = true := h2.mpr hp
  exact h1
theorem tells_now {b : Bool} {p : Prop} (h : b = true ↔ p) : Tells (fun _ => some b) p := ⟨b, ev_some b, h⟩
theorem tells_eq {F G : Nat → Option Bool} {p : Prop} (h : Tells F p) (e : ∀ k, G k = F k) : Tells G p := h.imp fun _ x => ⟨ev_eq x.1 e, x.2⟩
theorem tells_step {F G : Nat → Option Bool} {p : Prop} (h : Tells F p) (e : ∀ k, G (k + 1) = F k) : Tells G p := h.imp fun _ x => ⟨ev_step x.1 e, x.2⟩
theorem tells_and {F G : Nat → Option Bool} {p q : Prop} (h : Tells F p) (g : Tells G q) : Tells (fun k => (F k).bind fun t => if t = true then G k else some false) (p ∧ q) := by
  obtain ⟨t, h1, h2⟩ := h
  cases t with
  | true =>
    obtain ⟨u, g1, g2⟩ := g
    exact ⟨u, ev_bind h1 (ev_pos rfl g1), ⟨fun x => ⟨h2.mp rfl, g2.mp x⟩, fun x => g2.mpr x.2⟩⟩
  | false => exact ⟨false, ev_bind h1 (ev_neg (by simp) (ev_some _)), ⟨fun x => (by cases x), fun x => by have := h2.mpr x.1; cases this⟩⟩
theorem tells_or {F G H : Nat → Option Bool} {p q : Prop} (h : Tells F p) (g : Tells G q) (e : Ev H false) : Tells (fun k => (F k).bind fun t => if t = true then G k else H k) (p ∧ q) := by
  obtain ⟨t, h1, h2⟩ := h
  cases t with
  | true =>
    obtain ⟨u, g1, g2⟩ := g
    exact ⟨u, ev_bind h1 (ev_pos rfl g1), ⟨fun x => ⟨h2.mp rfl, g2.mp x⟩, fun x => g2.mpr x.2⟩⟩
  | false => exact ⟨false, ev_bind h1 (ev_neg (by simp) e), ⟨fun x => (by cases x), fun x => (by have := h2.mpr x.1; cases this)⟩⟩
theorem tells_ret {F : Nat → Option Bool} {p : Prop} (h : Tells F p) : Tells (fun k => (F k).bind fun t => some t) p := tells_eq h fun k => by cases F k <;> rfl
theorem tells_if {G : Nat → Option Bool} {c p : Prop} [Decidable c] (h : c → Tells G p) (hc : p → c) : Tells (fun k => if c then G k else some false) p := by
  by_cases hx : c
  · exact tells_eq (h hx) fun k => if_pos hx
  · exact ⟨false, ev_neg hx (ev_some _), ⟨fun x => (by cases x), fun x => absurd (hc x) hx⟩⟩
theorem tells_rounds {α : Type} (L : Nat → Int → Option Bool) (a b : List α) (hl : a.length = b.length)
    (hs : ∀ (i : Nat) (h : i < a.length) (p : Prop), Tells (fun k => L k ((i + 1 : Nat) : Int)) p → Tells (fun k => L k (i : Int)) (a[i] = b[i]'(hl ▸ h) ∧ p))
    (he : ∀ k, L (k + 1) (a.length : Int) = some true) : Tells (fun k => L k 0) (a = b) := by
  have go : ∀ (d i : Nat), i + d = a.length → Tells (fun k => L k (i : Int)) (a.drop i = b.drop i) := by
    intro d
    induction d with
    | zero =>
      intro i hd
      obtain rfl : i = a.length := by omega
      refine ⟨true, ev_one he, ⟨fun _ => ?_, fun _ => rfl⟩⟩
      rw [List.drop_of_length_le (Nat.le_refl _), List.drop_of_length_le (by omega)]
    | succ d ih =>
      intro i hd
      have hi : i < a.length := by omega
      refine (hs i hi _ (ih (i + 1) (by omega))).iff ?_
      rw [List.drop_eq_getElem_cons hi, List.drop_eq_getElem_cons (show i < b.length by omega), List.cons.injEq]
  have h := go a.length 0 (by omega)
  rw [List.drop_zero, List.drop_zero] at h
  exact h
theorem tells_loop {α : Type} (L : Nat → Int → Option Bool) (E : Nat → Nat → Option Bool) (a b : List α) (hl : a.length = b.length)
    (hE : ∀ (i : Nat) (h : i < a.length), Tells (fun k => E k i) (a[i] = b[i]'(hl ▸ h)))
    (hs : ∀ (k i : Nat), i < a.length → L (k + 1) (i : Int) = (E k i).bind fun t => if t = true then L k ((i + 1 : Nat) : Int) else some false)
    (he : ∀ k, L (k + 1) (a.length : Int) = some true) : Tells (fun k => L k 0) (a = b) :=
  tells_rounds L a b hl (fun i h _ q => tells_step (tells_and (hE i h) q) fun k => hs k i h) he
theorem tells_not {G : Nat → Option Bool} {c : Bool} {p q : Prop} (hc : (!c) = true ↔ p) (g : Tells G q) : Tells (fun k => if c = true then some false else G k) (p ∧ q) := by
  cases c with
  | true => exact ⟨false, ev_pos rfl (ev_some _), ⟨fun x => (by cases x), fun x => (by have := hc.mpr x.1; cases this)⟩⟩
  | false =>
    obtain ⟨u, g1, g2⟩ := g
    exact ⟨u, ev_neg (by simp) g1, ⟨fun x => ⟨hc.mp rfl, g2.mp x⟩, fun x => g2.mpr x.2⟩⟩
theorem tells_fail {F : Nat → Option Bool} {p : Prop} (h : Ev F false) (hp : ¬ p) : Tells F p := ⟨false, h, ⟨fun x => (by cases x), fun x => absurd x hp⟩⟩
theorem rd_get {α : Type} (d : α) (l : List α) (i : Nat) (h : i < l.length) : l.getD ((i : Int)).toNat d = l[i] := by
  simp [List.getD_eq_getElem?_getD, List.getElem?_eq_getElem h]
theorem all_of {α : Type} {P : α → Prop} (d : α) (l : List α) (h : ∀ i : Nat, i < l.length → P (l.getD ((i : Int)).toNat d)) : ∀ y ∈ l, P y := by
  intro y hy
  obtain ⟨i, hi, rfl⟩ := List.mem_iff_getElem.1 hy
  have := h i hi
  rw [rd_get d l i hi] at this
  exact this
theorem bytes_ext {a b : ByteArray} : a.toList = b.toList ↔ a = b := by
  rw [Lib.toList_data, Lib.toList_data]
  constructor
  · intro h
    obtain ⟨⟨a⟩⟩ := a
    obtain ⟨⟨b⟩⟩ := b
    obtain rfl : a = b := h
    rfl
  · rintro rfl
    rfl
/-- Two lists of one length or not. -/
theorem tells_lists {α : Type} {G : Nat → Option Bool} (a b : List α) (h : a.length = b.length → Tells G (a = b)) : Tells (fun k => if (a.length : Int) = (b.length : Int) then G k else some false) (a = b) :=
  tells_if (fun hc => h (by omega)) (fun e => by rw [e])
theorem to_loop {α β γ : Type} (L : Nat → List β → Int → Option (List β)) (T : Nat → Nat → Option γ) (mk : γ → β) (a : List α) (f : α → β)
    (hT : ∀ (i : Nat) (h : i < a.length), ∃ g, Ev (fun k => T k i) g ∧ mk g = f a[i])
    (hs : ∀ (k i : Nat) (x : List β), i < a.length → x.length = a.length → L (k + 1) x (i : Int) = (T k i).bind fun g => L k (x.set i (mk g)) ((i + 1 : Nat) : Int))
    (he : ∀ (k : Nat) (x : List β), L (k + 1) x (a.length : Int) = some x) (x : List β) (hx : x.length = a.length) : Ev (fun k => L k x 0) (a.map f) := by
  have go : ∀ (d i : Nat) (x : List β), i + d = a.length → x.length = a.length → x.take i = (a.map f).take i → Ev (fun k => L k x (i : Int)) (a.map f) := by
    intro d
    induction d with
    | zero =>
      intro i x hd hx hq
      obtain rfl : i = a.length := by omega
      refine ev_one fun k => ?_
      rw [he]
      rw [List.take_of_length_le (by omega), List.take_of_length_le (by simp)] at hq
      rw [hq]
    | succ d ih =>
      intro i x hd hx hq
      have hi : i < a.length := by omega
      obtain ⟨g, hg, hm⟩ := hT i hi
      have hp : Ev (fun k => L k (x.set i (mk g)) ((i + 1 : Nat) : Int)) (a.map f) := by
        refine ih (i + 1) (x.set i (mk g)) (by omega) (by simpa using hx) ?_
        rw [hm]
        apply List.ext_getElem?
        intro j
        by_cases hj : j < i + 1
        · rw [List.getElem?_take_of_lt hj, List.getElem?_take_of_lt hj]
          by_cases hji : j = i
          · subst hji
            rw [List.getElem?_set_self (by omega), List.getElem?_map, List.getElem?_eq_getElem hi]
            rfl
          · rw [List.getElem?_set_ne (by omega)]
            have h2 : (x.take i)[j]? = ((a.map f).take i)[j]? := by rw [hq]
            rw [List.getElem?_take_of_lt (by omega), List.getElem?_take_of_lt (by omega)] at h2
            exact h2
        · rw [List.getElem?_take_eq_none (by omega), List.getElem?_take_eq_none (by omega)]
      exact ev_step (ev_bind hg hp) fun k => hs k i x hi hx
  exact go a.length 0 x (by omega) hx (by simp)
/-- A measuring loop: what is left of the measure, and what is known of the elements if something is left. -/
def Sizes (F : Nat → Int → Option Int) (p : Prop) : Prop := ∀ a : Int, 0 ≤ a → a ≤ 1048576 → ∃ r, Ev (fun k => F k a) r ∧ (¬ r < 0 → r ≤ a ∧ p)
theorem sizes_loop (L : Nat → Int → Int → Option Int) (S : Nat → Nat → Int → Option Int) (n : Nat) (P : Nat → Prop) (hS : ∀ i, i < n → Sizes (fun k => S k i) (P i))
    (hs : ∀ (k i : Nat) (a : Int), i < n → L (k + 1) a (i : Int) = (S k i a).bind fun t => if t < 0 then some (-1) else L k t ((i + 1 : Nat) : Int))
    (he : ∀ (k : Nat) (a : Int), L (k + 1) a (n : Int) = some a) : Sizes (fun k a => L k a 0) (∀ i, i < n → P i) := by
  have go : ∀ (d i : Nat), i + d = n → Sizes (fun k a => L k a (i : Int)) (∀ j, i ≤ j → j < n → P j) := by
    intro d
    induction d with
    | zero =>
      intro i hd a h0 h1
      obtain rfl : i = n := by omega
      exact ⟨a, ev_one fun k => he k a, fun _ => ⟨Int.le_refl _, fun j h2 h3 => by omega⟩⟩
    | succ d ih =>
      intro i hd a h0 h1
      obtain ⟨r, hr, hq⟩ := hS i (by omega) a h0 h1
      by_cases hn : r < 0
      · exact ⟨-1, ev_step (ev_bind hr (ev_pos hn (ev_some _))) fun k => hs k i a (by omega), fun h => absurd (by decide) h⟩
      · obtain ⟨hle, hp⟩ := hq hn
        obtain ⟨r2, hr2, hq2⟩ := ih (i + 1) (by omega) r (by omega) (by omega)
        refine ⟨r2, ev_step (ev_bind hr (ev_neg hn hr2)) fun k => hs k i a (by omega), fun h => ?_⟩
        obtain ⟨hle2, hp2⟩ := hq2 h
        exact ⟨by omega, fun j h2 h3 => by
          by_cases e : j = i
          · subst e; exact hp
          · exact hp2 j (by omega) h3⟩
  intro a h0 h1
  obtain ⟨r, hr, hq⟩ := go n 0 (by omega) a h0 h1
  exact ⟨r, hr, fun h => ⟨(hq h).1, fun i hi => (hq h).2 i (by omega) hi⟩⟩
/-- First the number of elements, then the elements. -/
theorem sizes_list {F : Nat → Int → Option Int} {p : Prop} (n : Nat) (hn : n ≤ 9223372036854775807) (h : Sizes F p) : Sizes (fun k a => if wrap64 (a - (n : Int)) < 0 then some (-1) else F k (wrap64 (a - (n : Int)))) (n ≤ 1048576 ∧ p) := by
  intro a h0 h1
  have hw : wrap64 (a - (n : Int)) = a - (n : Int) := w64 (by omega) (by omega)
  show ∃ r, Ev (fun k => if wrap64 (a - (n : Int)) < 0 then some (-1) else F k (wrap64 (a - (n : Int)))) r ∧ (¬ r < 0 → r ≤ a ∧ n ≤ 1048576 ∧ p)
  rw [hw]
  by_cases hc : a - (n : Int) < 0
  · exact ⟨-1, ev_pos hc (ev_some _), fun h => absurd (by decide) h⟩
  · obtain ⟨r, hr, hq⟩ := h (a - n) (by omega) (by omega)
    exact ⟨r, ev_neg hc hr, fun h => ⟨by have := (hq h).1; omega, by omega, (hq h).2⟩⟩
theorem sizes_id : Sizes (fun _ a => some a) True := fun a _ _ => ⟨a, ev_some a, fun _ => ⟨Int.le_refl _, trivial⟩⟩
theorem sizes_eq {F G : Nat → Int → Option Int} {p q : Prop} (h : Sizes F p) (e : ∀ k a, G k a = F k a) (pq : p → q) : Sizes G q := fun a h0 h1 => by
  obtain ⟨r, hr, hq⟩ := h a h0 h1
  exact ⟨r, ev_eq hr fun k => e k a, fun x => ⟨(hq x).1, pq (hq x).2⟩⟩
theorem sizes_then {F G : Nat → Int → Option Int} {p q : Prop} (h : Sizes F p) (g : Sizes G q) : Sizes (fun k a => (F k a).bind fun t => if t < 0 then some (-1) else G k t) (p ∧ q) := by
  intro a h0 h1
  obtain ⟨r, hr, hq⟩ := h a h0 h1
  by_cases hn : r < 0
  · exact ⟨-1, ev_bind hr (ev_pos hn (ev_some _)), fun h => absurd (by decide) h⟩
  · obtain ⟨hle, hp⟩ := hq hn
    obtain ⟨r2, hr2, hq2⟩ := g r (by omega) (by omega)
    exact ⟨r2, ev_bind hr (ev_neg hn hr2), fun h => ⟨by have := (hq2 h).1; omega, hp, (hq2 h).2⟩⟩
end Go.Proofs.YteadienaeapaeaaDoor.Loop
