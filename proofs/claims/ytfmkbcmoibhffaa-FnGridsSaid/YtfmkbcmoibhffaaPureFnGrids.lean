/- FnGrids: ChangedCells of the program answers the same whichever list comes first, counts no cell exactly when the lists are equal, and says of which lists it counts as the reference does; RimOf keeps the shape and each byte that it does not blank. For every text of draws. -/
import Derived.Test.YtfmkbcmoibhffaaPRx11
import Derived.Test.YtfmkbcmoibhffaaGridR
import Derived.Test.YtfmkbcmoibhffaaRimR
import Derived.Test.YtfmkbcmoibhffaaDrawR
import Derived.Lib.Bytes
namespace Go.Proofs.Ytfmkbcmoibhffaa.Pure
open Go Go.RowKit Go.Proofs.YtfmkbcmoibhffaaW.PrintWords Go.Proofs.YtfmkbcmoibhffaaW.PrintLast Go.Proofs.YtfmkbcmoibhffaaW.PrintMore Go.Proofs.Ytfmkbcmoibhffaa.Base Go.Proofs.Ytfmkbcmoibhffaa.GridR Go.Proofs.Ytfmkbcmoibhffaa.RimR Go.Proofs.Ytfmkbcmoibhffaa.DrawR Go.Proofs.Ytfmkbcmoibhffaa.PR
/-! ### The draws end -/
/-- What a drawn list keeps to. -/
def Small (l : List ByteArray) : Prop := l.length ≤ 50 ∧ ∀ y ∈ l, y.size ≤ 40
theorem app_size (a b : ByteArray) : (a ++ b).size = a.size + b.size := ByteArray.size_append
theorem one_each : ∀ y ∈ ([(⟨#[65]⟩ : ByteArray), (⟨#[98]⟩ : ByteArray), (⟨#[46]⟩ : ByteArray), (⟨#[65]⟩ : ByteArray), (⟨#[65]⟩ : ByteArray)] : List ByteArray), y.size = 1 := by
  intro y hy
  simp at hy
  rcases hy with rfl | rfl | rfl | rfl <;> rfl
theorem odd_each : ∀ y ∈ ([(⟨#[]⟩ : ByteArray), (⟨#[65]⟩ : ByteArray), (⟨#[65, 65, 65, 65, 65, 65, 65, 65, 65, 65, 65, 65, 65, 65, 65, 65, 65, 65, 65, 65, 65, 65, 65, 65, 65, 65, 65, 65, 65, 65, 65, 65, 65]⟩ : ByteArray)] : List ByteArray), y.size ≤ 40 := by
  intro y hy
  simp at hy
  rcases hy with rfl | rfl | rfl <;> decide
theorem Small.snoc {l : List ByteArray} {n : Nat} (h : l.length ≤ n ∧ ∀ y ∈ l, y.size ≤ 40) (x : ByteArray) (hx : x.size ≤ 40) : (l ++ [x]).length ≤ n + 1 ∧ ∀ y ∈ l ++ [x], y.size ≤ 40 :=
  ⟨by simp; exact h.1, fun y hy => by
    rw [List.mem_append, List.mem_singleton] at hy
    rcases hy with hy | rfl
    · exact h.2 y hy
    · exact hx⟩
theorem rows_end {s : List Int} (hs : Bytes s) (B : Int) (hB : B ≤ 1000000000) (m : Int) (hm : m ≤ 10) (d : Nat) : ∀ (x : List ByteArray) (p q : Int), d ≤ 10 → x.length + d ≤ 30 → (x.length ≤ 30 ∧ ∀ y ∈ x, y.size ≤ 40) → 1 ≤ x.length + d → 0 ≤ p → p ≤ B - 100 * (d : Int) →
    ∃ r p' q', Ev (fun k => spec_l29DrawGrid.l0 k x m (d : Int) s p q) (r, p', q') ∧ 1 ≤ r.length ∧ Small r ∧ 0 ≤ p' ∧ p' ≤ B + 100 := by
  induction d with
  | zero =>
    intro x p q hd hx hsm h1 h0 hp
    obtain ⟨b, p1, q1, e1, i1, i2⟩ := one_tells hs p q 9 h0 (by omega)
    obtain ⟨t, p2, q2, e2, ht, i3, i4⟩ := text_tells hs p1 q1 ([(⟨#[]⟩ : ByteArray), (⟨#[65]⟩ : ByteArray), (⟨#[65, 65, 65, 65, 65, 65, 65, 65, 65, 65, 65, 65, 65, 65, 65, 65, 65, 65, 65, 65, 65, 65, 65, 65, 65, 65, 65, 65, 65, 65, 65, 65, 65]⟩ : ByteArray)] : List ByteArray) (by decide) (by decide) (by omega) (by omega)
    cases b with
    | true =>
      have hn := Small.snoc hsm t (odd_each t ht)
      refine ⟨x ++ [t], p2, q2, ev_step (f := fun k => (spec_l00Src_one.f k s p q 9).bind fun bt235 => (if bt235.1 = true then ((spec_l00Src_text.f k s bt235.2.1 bt235.2.2 (([(⟨#[]⟩ : ByteArray), (⟨#[65]⟩ : ByteArray), (⟨#[65, 65, 65, 65, 65, 65, 65, 65, 65, 65, 65, 65, 65, 65, 65, 65, 65, 65, 65, 65, 65, 65, 65, 65, 65, 65, 65, 65, 65, 65, 65, 65, 65]⟩ : ByteArray)] : List ByteArray))).bind fun bt241 => (if x.length < 8796093022208 then (some ((x ++ [bt241.1]), bt241.2.1, bt241.2.2)) else (none))) else (some (x, bt235.2.1, bt235.2.2)))) (ev_bind e1 (ev_pos rfl (ev_bind e2 (ev_pos (by omega) (ev_some _))))) (fun k => ?_), by simp, ⟨by omega, hn.2⟩, by omega, by omega⟩
      simp only [spec_l29DrawGrid.l0]
      rw [if_neg (by omega)]
    | false =>
      refine ⟨x, p1, q1, ev_step (f := fun k => (spec_l00Src_one.f k s p q 9).bind fun bt235 => (if bt235.1 = true then ((spec_l00Src_text.f k s bt235.2.1 bt235.2.2 (([(⟨#[]⟩ : ByteArray), (⟨#[65]⟩ : ByteArray), (⟨#[65, 65, 65, 65, 65, 65, 65, 65, 65, 65, 65, 65, 65, 65, 65, 65, 65, 65, 65, 65, 65, 65, 65, 65, 65, 65, 65, 65, 65, 65, 65, 65, 65]⟩ : ByteArray)] : List ByteArray))).bind fun bt241 => (if x.length < 8796093022208 then (some ((x ++ [bt241.1]), bt241.2.1, bt241.2.2)) else (none))) else (some (x, bt235.2.1, bt235.2.2)))) (ev_bind e1 (ev_neg (by simp) (ev_some _))) (fun k => ?_), by omega, ⟨by omega, hsm.2⟩, by omega, by omega⟩
      simp only [spec_l29DrawGrid.l0]
      rw [if_neg (by omega)]
  | succ d ih =>
    intro x p q hd hx hsm h1 h0 hp
    have row : ∀ (e : Nat) (t : ByteArray) (p q : Int), (m - t.size).toNat ≤ e → t.size ≤ 40 → 0 ≤ p → p ≤ B - 100 * ((d : Int) + 1) + 60 - 2 * e → e ≤ 30 →
        ∃ r p' q', Ev (fun k => spec_l29DrawGrid.l1 k x m ((d + 1 : Nat) : Int) t s p q) (r, p', q') ∧ 1 ≤ r.length ∧ Small r ∧ 0 ≤ p' ∧ p' ≤ B + 100 := by
      intro e
      induction e with
      | zero =>
        intro t p q he ht h0 hp hel
        have hn := Small.snoc hsm t ht
        obtain ⟨r, p', q', h, hr⟩ := ih (x ++ [t]) p q (by omega) (by simp; omega) ⟨by simp; omega, hn.2⟩ (by simp; omega) h0 (by omega)
        refine ⟨r, p', q', ev_step h fun k => ?_, hr⟩
        simp only [spec_l29DrawGrid.l1]
        rw [if_neg (by omega), if_pos (by omega), w64 (by omega) (by omega), show ((d + 1 : Nat) : Int) - 1 = d by omega]
      | succ e ihe =>
        intro t p q he ht h0 hp hel
        by_cases hc : (t.size : Int) < m
        · obtain ⟨v, p1, q1, e1, hv, i1, i2⟩ := text_tells hs p q ([(⟨#[65]⟩ : ByteArray), (⟨#[98]⟩ : ByteArray), (⟨#[46]⟩ : ByteArray), (⟨#[65]⟩ : ByteArray), (⟨#[65]⟩ : ByteArray)] : List ByteArray) (by decide) (by decide) h0 (by omega)
          have hv1 := one_each v hv
          have hsz := app_size t v
          obtain ⟨r, p', q', h, hr⟩ := ihe (t ++ v) p1 q1 (by omega) (by omega) (by omega) (by omega) (by omega)
          refine ⟨r, p', q', ev_step (f := fun k => (spec_l00Src_text.f k s p q (([(⟨#[65]⟩ : ByteArray), (⟨#[98]⟩ : ByteArray), (⟨#[46]⟩ : ByteArray), (⟨#[65]⟩ : ByteArray), (⟨#[65]⟩ : ByteArray)] : List ByteArray))).bind fun bt229 => (if t.size + bt229.1.size ≤ 9223372036854775807 then (spec_l29DrawGrid.l1 k x m ((d + 1 : Nat) : Int) (t ++ bt229.1) s bt229.2.1 bt229.2.2) else (none))) (ev_bind e1 (ev_pos (by show t.size + v.size ≤ _; omega) h)) (fun k => ?_), hr⟩
          simp only [spec_l29DrawGrid.l1]
          rw [if_pos hc]
        · have hn := Small.snoc hsm t ht
          obtain ⟨r, p', q', h, hr⟩ := ih (x ++ [t]) p q (by omega) (by simp; omega) ⟨by simp; omega, hn.2⟩ (by simp; omega) h0 (by omega)
          refine ⟨r, p', q', ev_step h fun k => ?_, hr⟩
          simp only [spec_l29DrawGrid.l1]
          rw [if_neg hc, if_pos (by omega), w64 (by omega) (by omega), show ((d + 1 : Nat) : Int) - 1 = d by omega]
    have hz : (⟨#[]⟩ : ByteArray).size = 0 := rfl
    obtain ⟨r, p', q', h, hr⟩ := row 20 ⟨#[]⟩ p q (by omega) (by omega) h0 (by omega) (by omega)
    refine ⟨r, p', q', ev_step h fun k => ?_, hr⟩
    simp only [spec_l29DrawGrid.l0]
    rw [if_pos (by omega)]
theorem grid_end {s : List Int} (hs : Bytes s) (p q : Int) (h0 : 0 ≤ p) (B : Int) (hB : B ≤ 900000000) (h1 : p ≤ B) : ∃ r p' q', Ev (fun k => spec_l29DrawGrid.f k s p q) (r, p', q') ∧ 1 ≤ r.length ∧ Small r ∧ 0 ≤ p' ∧ p' ≤ B + 1200 := by
  obtain ⟨v, p1, q1, e1, a0, a1, i1, i2⟩ := pick_tells hs p q 6 h0 (by omega)
  obtain ⟨u, p2, q2, e2, b0, b1, i3, i4⟩ := pick_tells hs p1 q1 5 (by omega) (by omega)
  have a2 := a1 (by omega)
  have b2 := b1 (by omega)
  obtain ⟨n, hn⟩ : ∃ n : Nat, (n : Int) = 1 + u := ⟨(1 + u).toNat, by omega⟩
  obtain ⟨r, p', q', h, hr⟩ := rows_end hs (B + 1100) (by omega) (1 + v) (by omega) n [] p2 q2 (by omega) (by simp; omega) ⟨by simp, by simp⟩ (by simp; omega) (by omega) (by omega)
  refine ⟨r, p', q', ?_, hr.1, hr.2.1, hr.2.2.1, by omega⟩
  unfold spec_l29DrawGrid.f
  refine ev_bind e1 (ev_bind e2 ?_)
  simp only
  rw [w64 (x := 1 + v) (by omega) (by omega), w64 (x := 1 + u) (by omega) (by omega), ← hn]
  exact h
theorem x_size (y : ByteArray) (h : 1 ≤ y.size) : ((⟨#[120]⟩ : ByteArray) ++ y.extract 1 y.size).size = y.size := by
  rw [app_size, ByteArray.size_extract]
  show 1 + _ = _
  omega
theorem spots_end {s : List Int} (hs : Bytes s) (a : List ByteArray) (d : Nat) : ∀ (x : List ByteArray) (p q : Int), d ≤ 10 → 1 ≤ x.length → Small x → 0 ≤ p → p ≤ 5000000 - 2 * (d : Int) →
    ∃ r, Ev (fun k => spec_DrawChangedCells.l0 k a x (d : Int) s p q) (a, r) ∧ r.length ≤ 50 := by
  induction d with
  | zero =>
    intro x p q hd hx hsm h0 hp
    refine ⟨x, ev_one fun k => ?_, hsm.1⟩
    simp only [spec_DrawChangedCells.l0]
    rw [if_neg (by omega)]
  | succ d ih =>
    intro x p q hd hx hsm h0 hp
    have hsml := hsm.1
    obtain ⟨v, p1, q1, e1, a0, a1, i1, i2⟩ := pick_tells hs p q x.length h0 (by omega)
    have a2 := a1 (by omega)
    obtain ⟨n, rfl⟩ : ∃ n : Nat, v = n := ⟨v.toNat, by omega⟩
    have hn : n < x.length := by omega
    have hr : rdOf ByteArray.empty x (n : Int) = x[n] := rdOf_at _ x n hn
    have hz := hsm.2 _ (List.getElem_mem hn)
    have hw : wrap64 (((d + 1 : Nat) : Int) - 1) = d := by rw [w64 (by omega) (by omega)]; omega
    by_cases hc : 1 ≤ x[n].size
    · have hx2 := x_size x[n] hc
      obtain ⟨r, h, hr50⟩ := ih (x.set n ((⟨#[120]⟩ : ByteArray) ++ x[n].extract 1 x[n].size)) p1 q1 (by omega) (by simp; omega) ⟨by simp; exact hsm.1, fun y hy => by
        rcases List.mem_or_eq_of_mem_set hy with h | rfl
        · exact hsm.2 y h
        · omega⟩ (by omega) (by omega)
      refine ⟨r, ev_step (f := fun k => (spec_l00Src_pick.f k s p q (x.length : Int)).bind fun bt273 => (if 0 ≤ bt273.1 then (if bt273.1 < (x.length : Int) then (if ((rdOf ByteArray.empty x bt273.1).size : Int) > 0 then (if 1 ≤ ((rdOf ByteArray.empty x bt273.1).size : Int) then (if 1 + ((rdOf ByteArray.empty x bt273.1).extract 1 (rdOf ByteArray.empty x bt273.1).size).size ≤ 9223372036854775807 then (spec_DrawChangedCells.l0 k a (x.set (bt273.1 : Int).toNat ((⟨#[120]⟩ : ByteArray) ++ ((rdOf ByteArray.empty x bt273.1).extract 1 (rdOf ByteArray.empty x bt273.1).size))) (wrap64 (((d + 1 : Nat) : Int) - 1)) s bt273.2.1 bt273.2.2) else (none)) else (none)) else (spec_DrawChangedCells.l0 k a x (wrap64 (((d + 1 : Nat) : Int) - 1)) s bt273.2.1 bt273.2.2)) else (none)) else (none))) (ev_bind e1 (ev_pos (by omega) (ev_pos (by omega) ?_))) (fun k => ?_), hr50⟩
      · simp only [hr, hw]
        exact ev_pos (by omega) (ev_pos (by omega) (ev_pos (by rw [ByteArray.size_extract]; omega) h))
      · simp only [spec_DrawChangedCells.l0]
        rw [if_pos (by omega)]
    · obtain ⟨r, h, hr50⟩ := ih x p1 q1 (by omega) hx hsm (by omega) (by omega)
      refine ⟨r, ev_step (f := fun k => (spec_l00Src_pick.f k s p q (x.length : Int)).bind fun bt273 => (if 0 ≤ bt273.1 then (if bt273.1 < (x.length : Int) then (if ((rdOf ByteArray.empty x bt273.1).size : Int) > 0 then (if 1 ≤ ((rdOf ByteArray.empty x bt273.1).size : Int) then (if 1 + ((rdOf ByteArray.empty x bt273.1).extract 1 (rdOf ByteArray.empty x bt273.1).size).size ≤ 9223372036854775807 then (spec_DrawChangedCells.l0 k a (x.set (bt273.1 : Int).toNat ((⟨#[120]⟩ : ByteArray) ++ ((rdOf ByteArray.empty x bt273.1).extract 1 (rdOf ByteArray.empty x bt273.1).size))) (wrap64 (((d + 1 : Nat) : Int) - 1)) s bt273.2.1 bt273.2.2) else (none)) else (none)) else (spec_DrawChangedCells.l0 k a x (wrap64 (((d + 1 : Nat) : Int) - 1)) s bt273.2.1 bt273.2.2)) else (none)) else (none))) (ev_bind e1 (ev_pos (by omega) (ev_pos (by omega) ?_))) (fun k => ?_), hr50⟩
      · simp only [hr, hw]
        exact ev_neg (by omega) h
      · simp only [spec_DrawChangedCells.l0]
        rw [if_pos (by omega)]
theorem draw_two {s : List Int} (hs : Bytes s) : ∃ a b, Ev (fun k => spec_DrawChangedCells.f k s) (a, b) ∧ a.length ≤ 1000 ∧ b.length ≤ 1000 := by
  unfold spec_DrawChangedCells.f spec_l00From.f
  obtain ⟨a, p1, q1, e1, l1, s1, i1, i2⟩ := grid_end hs 0 0 (by omega) 0 (by omega) (by omega)
  have s1l := s1.1
  obtain ⟨b, p2, q2, e2, i3, i4⟩ := one_tells hs p1 q1 4 (by omega) (by omega)
  cases b with
  | true =>
    obtain ⟨b2, p3, q3, e3, _, s2, _⟩ := grid_end hs p2 q2 (by omega) 10000 (by omega) (by omega)
    exact ⟨a, b2, ev_use rfl (ev_bind e1 (ev_use rfl (ev_pos (by simp; omega) (ev_bind e2 (ev_pos rfl (ev_bind e3 (ev_some _))))))), by omega, by have := s2.1; omega⟩
  | false =>
    obtain ⟨v, p3, q3, e3, a0, a1, i5, i6⟩ := pick_tells hs p2 q2 4 (by omega) (by omega)
    have a2 := a1 (by omega)
    obtain ⟨n, rfl⟩ : ∃ n : Nat, v = n := ⟨v.toNat, by omega⟩
    obtain ⟨r, h, lr⟩ := spots_end hs a n a p3 q3 (by omega) l1 s1 (by omega) (by omega)
    refine ⟨a, r, ev_use rfl (ev_bind e1 (ev_use rfl (ev_pos (by simp; omega) (ev_bind e2 (ev_neg (by simp) (ev_bind e3 ?_)))))), by omega, by omega⟩
    simpa only [List.nil_append] using h
theorem draw_one {s : List Int} (hs : Bytes s) : ∃ a, Ev (fun k => spec_DrawRimOf.f k s) a := by
  unfold spec_DrawRimOf.f spec_l00From.f
  obtain ⟨a, p1, q1, e1, _⟩ := grid_end hs 0 0 (by omega) 0 (by omega) (by omega)
  exact ⟨a, ev_use rfl (ev_bind e1 (ev_some _))⟩
/-! ### What ChangedCells counts -/
def rowD (x y : ByteArray) : Nat → Nat → Nat
  | _, 0 => 0
  | c, e + 1 => (if bt x (c : Int) = bt y (c : Int) then 0 else 1) + rowD x y (c + 1) e
def totD (a b : List ByteArray) (n : Nat) : Nat → Nat → Nat
  | _, 0 => 0
  | i, d + 1 => rowD (rdOf ByteArray.empty a (i : Int)) (rdOf ByteArray.empty b (i : Int)) 0 n + totD a b n (i + 1) d
theorem rowD_comm (x y : ByteArray) (e : Nat) : ∀ c, rowD x y c e = rowD y x c e := by
  induction e with
  | zero => intro c; rfl
  | succ e ih =>
    intro c
    simp only [rowD]
    rw [ih (c + 1)]
    by_cases h : bt x (c : Int) = bt y (c : Int)
    · rw [if_pos h, if_pos h.symm]
    · rw [if_neg h, if_neg (Ne.symm h)]
theorem totD_comm (a b : List ByteArray) (n d : Nat) : ∀ i, totD a b n i d = totD b a n i d := by
  induction d with
  | zero => intro i; rfl
  | succ d ih => intro i; simp only [totD]; rw [ih (i + 1), rowD_comm]
theorem rowD_le (x y : ByteArray) (e : Nat) : ∀ c, rowD x y c e ≤ e := by
  induction e with
  | zero => intro c; exact Nat.le_refl _
  | succ e ih =>
    intro c
    have := ih (c + 1)
    simp only [rowD]
    split <;> omega
theorem rowD_zero (x y : ByteArray) (e : Nat) : ∀ c, rowD x y c e = 0 ↔ ∀ j, c ≤ j → j < c + e → bt x (j : Int) = bt y (j : Int) := by
  induction e with
  | zero => intro c; exact ⟨fun _ j h1 h2 => by omega, fun _ => rfl⟩
  | succ e ih =>
    intro c
    have := ih (c + 1)
    simp only [rowD]
    by_cases h : bt x (c : Int) = bt y (c : Int)
    · rw [if_pos h, Nat.zero_add, this]
      constructor
      · intro g j h1 h2
        by_cases e1 : j = c
        · rw [e1]; exact h
        · exact g j (by omega) (by omega)
      · exact fun g j h1 h2 => g j (by omega) (by omega)
    · rw [if_neg h]
      exact ⟨fun g => by omega, fun g => absurd (g c (by omega) (by omega)) h⟩
theorem totD_zero (a b : List ByteArray) (n d : Nat) : ∀ i, totD a b n i d = 0 ↔ ∀ j, i ≤ j → j < i + d → ∀ c, c < n → bt (rdOf ByteArray.empty a (j : Int)) (c : Int) = bt (rdOf ByteArray.empty b (j : Int)) (c : Int) := by
  induction d with
  | zero => intro i; exact ⟨fun _ j h1 h2 => by omega, fun _ => rfl⟩
  | succ d ih =>
    intro i
    have h1 := ih (i + 1)
    have h2 := rowD_zero (rdOf ByteArray.empty a (i : Int)) (rdOf ByteArray.empty b (i : Int)) n 0
    simp only [totD]
    constructor
    · intro g j g1 g2 c hc
      by_cases e1 : j = i
      · rw [e1]; exact h2.1 (by omega) c (by omega) (by omega)
      · exact h1.1 (by omega) j (by omega) (by omega) c hc
    · intro g
      have e1 := h2.2 (fun c _ hc => g i (by omega) (by omega) c (by omega))
      have e2 := h1.2 (fun j g1 g2 => g j (by omega) (by omega))
      omega
section
variable (a b : List ByteArray) (n : Nat) (hn : n ≤ 32) (ha : a.length ≤ 32) (hab : a.length = b.length)
  (hsa : ∀ j : Nat, j < a.length → (rdOf ByteArray.empty a (j : Int)).size = n) (hsb : ∀ j : Nat, j < a.length → (rdOf ByteArray.empty b (j : Int)).size = n)
include hn ha hab hsa hsb
theorem spec_count (d : Nat) : ∀ (i : Nat) (m : Int), i + d = a.length → 0 ≤ m → m ≤ 100000 - 32 * (d : Int) → Ev (fun k => spec_ChangedCells.l0 k a b m (i : Int)) (m + (totD a b n i d : Int), true) := by
  induction d with
  | zero =>
    intro i m hd h0 h1
    refine ev_one fun k => ?_
    simp only [spec_ChangedCells.l0]
    rw [if_neg (by omega)]
    simp [totD]
  | succ d ih =>
    intro i m hd h0 h1
    have hi : i < a.length := by omega
    have za := hsa i hi
    have zb := hsb i hi
    have row : ∀ (e c : Nat) (m : Int), c + e = n → 0 ≤ m → m + e ≤ 100000 - 32 * (d : Int) → Ev (fun k => spec_ChangedCells.l1 k a b m (i : Int) (c : Int)) (m + (rowD (rdOf ByteArray.empty a (i : Int)) (rdOf ByteArray.empty b (i : Int)) c e : Int) + (totD a b n (i + 1) d : Int), true) := by
      intro e
      induction e with
      | zero =>
        intro c m hc h0 h1
        have h := ih (i + 1) m (by omega) h0 (by omega)
        rw [show m + ((rowD (rdOf ByteArray.empty a (i : Int)) (rdOf ByteArray.empty b (i : Int)) c 0 : Nat) : Int) = m by rw [show rowD (rdOf ByteArray.empty a (i : Int)) (rdOf ByteArray.empty b (i : Int)) c 0 = 0 from rfl]; omega]
        refine ev_step h fun k => ?_
        simp only [spec_ChangedCells.l1]
        rw [if_pos (by omega), if_pos (by omega), if_neg (by omega), w64s hi (by omega)]
      | succ e ihe =>
        intro c m hc h0 h1
        by_cases hbt : bt (rdOf ByteArray.empty a (i : Int)) (c : Int) = bt (rdOf ByteArray.empty b (i : Int)) (c : Int)
        · have h := ihe (c + 1) m (by omega) h0 (by omega)
          simp only [rowD]
          rw [if_pos hbt, Nat.zero_add]
          refine ev_step h fun k => ?_
          simp only [spec_ChangedCells.l1]
          rw [if_pos (by omega), if_pos (by omega), if_pos (by omega), if_pos (by omega), if_pos (by omega), if_pos (by omega), if_pos hbt, w64s (show c < n by omega) (by omega)]
        · have h := ihe (c + 1) (m + 1) (by omega) (by omega) (by omega)
          simp only [rowD]
          rw [if_neg hbt, show m + ((1 + rowD (rdOf ByteArray.empty a (i : Int)) (rdOf ByteArray.empty b (i : Int)) (c + 1) e : Nat) : Int) = m + 1 + (rowD (rdOf ByteArray.empty a (i : Int)) (rdOf ByteArray.empty b (i : Int)) (c + 1) e : Nat) by omega]
          refine ev_step h fun k => ?_
          simp only [spec_ChangedCells.l1]
          rw [if_pos (by omega), if_pos (by omega), if_pos (by omega), if_pos (by omega), if_pos (by omega), if_pos (by omega), if_neg hbt, w64s (show c < n by omega) (by omega), w64 (x := m + 1) (by omega) (by omega)]
    have h := row n 0 m (by omega) h0 (by omega)
    simp only [totD]
    rw [Int.natCast_add, ← Int.add_assoc]
    refine ev_step h fun k => ?_
    simp only [spec_ChangedCells.l0]
    rw [if_pos (by omega)]
    rfl
theorem impl_count (d : Nat) : ∀ (i : Nat) (m : Int), i + d = a.length → 0 ≤ m → m ≤ 100000 - 32 * (d : Int) → Ev (fun k => impl_ChangedCells.l0 k b m a (a.length : Int) (i : Int)) (m + (totD a b n i d : Int), true) := by
  induction d with
  | zero =>
    intro i m hd h0 h1
    refine ev_one fun k => ?_
    simp only [impl_ChangedCells.l0]
    rw [if_neg (by omega)]
    simp [totD]
  | succ d ih =>
    intro i m hd h0 h1
    have hi : i < a.length := by omega
    have za := hsa i hi
    have zb := hsb i hi
    have row : ∀ (e c : Nat) (m : Int), c + e = n → 0 ≤ m → m + e ≤ 100000 - 32 * (d : Int) → Ev (fun k => impl_ChangedCells.l1 k b m (i : Int) (rdOf ByteArray.empty a (i : Int)) a (a.length : Int) (i : Int) ((rdOf ByteArray.empty a (i : Int)).size : Int) (c : Int)) (m + (rowD (rdOf ByteArray.empty a (i : Int)) (rdOf ByteArray.empty b (i : Int)) c e : Int) + (totD a b n (i + 1) d : Int), true) := by
      intro e
      induction e with
      | zero =>
        intro c m hc h0 h1
        have h := ih (i + 1) m (by omega) h0 (by omega)
        rw [show m + ((rowD (rdOf ByteArray.empty a (i : Int)) (rdOf ByteArray.empty b (i : Int)) c 0 : Nat) : Int) = m by rw [show rowD (rdOf ByteArray.empty a (i : Int)) (rdOf ByteArray.empty b (i : Int)) c 0 = 0 from rfl]; omega]
        refine ev_step h fun k => ?_
        simp only [impl_ChangedCells.l1]
        rw [if_neg (by omega), w64s hi (by omega)]
      | succ e ihe =>
        intro c m hc h0 h1
        by_cases hbt : bt (rdOf ByteArray.empty a (i : Int)) (c : Int) = bt (rdOf ByteArray.empty b (i : Int)) (c : Int)
        · have h := ihe (c + 1) m (by omega) h0 (by omega)
          simp only [rowD]
          rw [if_pos hbt, Nat.zero_add]
          refine ev_step h fun k => ?_
          simp only [impl_ChangedCells.l1]
          rw [if_pos (by omega), if_pos (by omega), if_pos (by omega), if_pos (by omega), if_pos (by omega), if_pos (by omega), if_pos hbt, w64s (show c < n by omega) (by omega)]
        · have h := ihe (c + 1) (m + 1) (by omega) (by omega) (by omega)
          simp only [rowD]
          rw [if_neg hbt, show m + ((1 + rowD (rdOf ByteArray.empty a (i : Int)) (rdOf ByteArray.empty b (i : Int)) (c + 1) e : Nat) : Int) = m + 1 + (rowD (rdOf ByteArray.empty a (i : Int)) (rdOf ByteArray.empty b (i : Int)) (c + 1) e : Nat) by omega]
          refine ev_step h fun k => ?_
          simp only [impl_ChangedCells.l1]
          rw [if_pos (by omega), if_pos (by omega), if_pos (by omega), if_pos (by omega), if_pos (by omega), if_pos (by omega), if_neg hbt, w64s (show c < n by omega) (by omega), w64 (x := m + 1) (by omega) (by omega)]
    have h := row n 0 m (by omega) h0 (by omega)
    simp only [totD]
    rw [Int.natCast_add, ← Int.add_assoc]
    refine ev_step h fun k => ?_
    simp only [impl_ChangedCells.l0]
    rw [if_pos (by omega), if_pos (by omega), if_pos (by omega)]
    rfl
end
/-- Do both lists have the shape that ChangedCells counts. -/
def Fit (a b : List ByteArray) : Prop := Grid a ∧ Grid b ∧ a.length = b.length ∧ (rdOf ByteArray.empty a 0).size = (rdOf ByteArray.empty b 0).size
noncomputable def chg (a b : List ByteArray) : Int × Bool := @ite _ (Fit a b) (Classical.propDecidable _) ((totD a b (rdOf ByteArray.empty a 0).size 0 a.length : Nat), true) (0, false)
theorem Fit.comm {a b : List ByteArray} (h : Fit a b) : Fit b a := ⟨h.2.1, h.1, h.2.2.1.symm, h.2.2.2.symm⟩
theorem chg_comm (a b : List ByteArray) : chg a b = chg b a := by
  unfold chg
  by_cases h : Fit a b
  · rw [if_pos h, if_pos h.comm, totD_comm, h.2.2.1, h.2.2.2]
  · rw [if_neg h, if_neg (fun g => h g.comm)]
theorem Fit.sizes {a b : List ByteArray} (h : Fit a b) : (rdOf ByteArray.empty a 0).size ≤ 32 ∧ (∀ j : Nat, j < a.length → (rdOf ByteArray.empty a (j : Int)).size = (rdOf ByteArray.empty a 0).size) ∧ (∀ j : Nat, j < a.length → (rdOf ByteArray.empty b (j : Int)).size = (rdOf ByteArray.empty a 0).size) := by
  obtain ⟨gA, gB, hl, hz⟩ := h
  have h1 := gA.1
  have h2 := gB.1
  have hA := gA.2.2 (by omega)
  have hB := gB.2.2 (by omega)
  have ea : rdOf ByteArray.empty a 0 = a[0] := rdOf_at _ a 0 (by omega)
  have eb : rdOf ByteArray.empty b 0 = b[0] := rdOf_at _ b 0 (by omega)
  refine ⟨by rw [ea]; exact hA.2.1, fun j hj => by rw [rdOf_at _ a j hj, ea]; exact hA.2.2 _ (List.getElem_mem _), fun j hj => by rw [hz, rdOf_at _ b j (by omega), eb]; exact hB.2.2 _ (List.getElem_mem _)⟩
theorem both_chg (a b : List ByteArray) : Ev (fun k => spec_ChangedCells.f k a b) (chg a b) ∧ Ev (fun k => impl_ChangedCells.f k a b) (chg a b) := by
  have bad1 : Ev (fun k => spec_ChangedCells.j0 k a b true) (0, false) := ev_one fun k => by simp [spec_ChangedCells.j0]
  have bad2 : Ev (fun k => impl_ChangedCells.j0 k a b true) (0, false) := ev_one fun k => by simp [impl_ChangedCells.j0]
  by_cases ga : gridB a = true
  · by_cases gb : gridB b = true
    · have gA := gridB_yes.1 ga
      have gB := gridB_yes.1 gb
      have l1 := gA.1
      have l2 := gB.1
      by_cases hl : a.length = b.length
      · by_cases hz : (rdOf ByteArray.empty a 0).size = (rdOf ByteArray.empty b 0).size
        · have hf : Fit a b := ⟨gA, gB, hl, hz⟩
          obtain ⟨s1, s2, s3⟩ := hf.sizes
          have hb : (((rdOf ByteArray.empty a 0).size : Int) != ((rdOf ByteArray.empty b 0).size : Int)) = false := by rw [hz]; simp
          have h1 := spec_count a b _ s1 gA.2.1 hl s2 s3 a.length 0 0 (by omega) (by omega) (by have := gA.2.1; omega)
          have h2 := impl_count a b _ s1 gA.2.1 hl s2 s3 a.length 0 0 (by omega) (by omega) (by have := gA.2.1; omega)
          rw [Int.zero_add] at h1 h2
          unfold chg
          rw [if_pos hf]
          constructor
          · unfold spec_ChangedCells.f
            refine ev_bind (spec_grid a) (ev_pos ga (ev_bind (spec_grid b) (ev_pos gb (ev_pos (by omega) (ev_pos (by omega) (ev_pos (by omega) ?_))))))
            rw [hb]
            refine ev_step h1 fun k => ?_
            simp [spec_ChangedCells.j0]
          · unfold impl_ChangedCells.f
            refine ev_bind (impl_grid a) (ev_pos ga (ev_bind (impl_grid b) (ev_pos gb (ev_pos (by omega) (ev_pos (by omega) (ev_pos (by omega) ?_))))))
            rw [hb]
            refine ev_step h2 fun k => ?_
            simp [impl_ChangedCells.j0]
        · have hb : (((rdOf ByteArray.empty a 0).size : Int) != ((rdOf ByteArray.empty b 0).size : Int)) = true := by simp; omega
          unfold chg
          rw [if_neg (fun g => hz g.2.2.2)]
          constructor
          · unfold spec_ChangedCells.f
            refine ev_bind (spec_grid a) (ev_pos ga (ev_bind (spec_grid b) (ev_pos gb (ev_pos (by omega) (ev_pos (by omega) (ev_pos (by omega) ?_))))))
            rw [hb]
            exact bad1
          · unfold impl_ChangedCells.f
            refine ev_bind (impl_grid a) (ev_pos ga (ev_bind (impl_grid b) (ev_pos gb (ev_pos (by omega) (ev_pos (by omega) (ev_pos (by omega) ?_))))))
            rw [hb]
            exact bad2
      · unfold chg
        rw [if_neg (fun g => hl g.2.2.1)]
        constructor
        · unfold spec_ChangedCells.f
          exact ev_bind (spec_grid a) (ev_pos ga (ev_bind (spec_grid b) (ev_pos gb (ev_neg (by omega) bad1))))
        · unfold impl_ChangedCells.f
          exact ev_bind (impl_grid a) (ev_pos ga (ev_bind (impl_grid b) (ev_pos gb (ev_neg (by omega) bad2))))
    · unfold chg
      rw [if_neg (fun g => gb (gridB_yes.2 g.2.1))]
      constructor
      · unfold spec_ChangedCells.f
        exact ev_bind (spec_grid a) (ev_pos ga (ev_bind (spec_grid b) (ev_neg gb bad1)))
      · unfold impl_ChangedCells.f
        exact ev_bind (impl_grid a) (ev_pos ga (ev_bind (impl_grid b) (ev_neg gb bad2)))
  · unfold chg
    rw [if_neg (fun g => ga (gridB_yes.2 g.1))]
    constructor
    · unfold spec_ChangedCells.f
      exact ev_bind (spec_grid a) (ev_neg ga bad1)
    · unfold impl_ChangedCells.f
      exact ev_bind (impl_grid a) (ev_neg ga bad2)
theorem bytes_ext {x y : ByteArray} (h : x.size = y.size) (hb : ∀ c, c < x.size → bt x (c : Int) = bt y (c : Int)) : x = y := by
  apply ByteArray.ext
  apply Array.ext
  · exact h
  · intro i h1 h2
    have h3 : i < x.size := h1
    have h4 : i < y.size := h2
    have h5 := hb i h3
    unfold bt at h5
    rw [dif_pos (by simpa using h3), dif_pos (by simpa using h4)] at h5
    have h7 : ((x[i]'h3).toNat : Int) = ((y[i]'h4).toNat : Int) := by simpa using h5
    have h6 : (x[i]'h3).toNat = (y[i]'h4).toNat := by omega
    exact UInt8.toNat_inj.1 h6
theorem chg_zero {a b : List ByteArray} (h : Fit a b) : (chg a b).1 = 0 ↔ a = b := by
  unfold chg
  rw [if_pos h]
  obtain ⟨s1, s2, s3⟩ := h.sizes
  have hl := h.2.2.1
  have hz := totD_zero a b (rdOf ByteArray.empty a 0).size a.length 0
  simp only [Int.natCast_eq_zero]
  rw [hz]
  constructor
  · intro g
    apply List.ext_getElem hl
    intro j h1 h2
    have e1 := rdOf_at ByteArray.empty a j h1
    have e2 := rdOf_at ByteArray.empty b j h2
    have z1 := s2 j h1
    have z2 := s3 j h1
    rw [← e1, ← e2]
    exact bytes_ext (by omega) (fun c hc => g j (by omega) (by omega) c (by omega))
  · rintro rfl j _ _ c _
    rfl
/-! ### The rim keeps the shape -/
theorem bt_str (xs : List Int) (c : Nat) (hc : c < xs.length) (h0 : 0 ≤ xs[c]) (h1 : xs[c] ≤ 255) : bt (strOfNums xs) (c : Int) = xs[c] := by
  have hz : (strOfNums xs).size = xs.length := by simp [strOfNums, ByteArray.size]
  unfold bt
  rw [dif_pos (by simpa [hz] using hc)]
  have : ((strOfNums xs)[((c : Int)).toNat]'(by simpa [hz] using hc)) = UInt8.ofNat xs[c].toNat := by
    show ((xs.map fun n => UInt8.ofNat n.toNat).toArray)[((c : Int)).toNat]'_ = _
    simp
  rw [this, UInt8.toNat_ofNat']
  omega
theorem rimV_range (l : List ByteArray) (n i : Int) (k : Nat) : 0 ≤ rimV l n i k ∧ rimV l n i k ≤ 255 := by
  unfold rimV
  split
  · omega
  · exact bt_range _ _
theorem rimRow_size (l : List ByteArray) (n : Nat) (i : Int) : (rimRow l n i).size = n := by
  simp [rimRow, strOfNums, ByteArray.size]
theorem rimRow_bt (l : List ByteArray) (n : Nat) (i : Int) (c : Nat) (hc : c < n) : bt (rimRow l n i) (c : Int) = rimV l n i c := by
  have h := rimV_range l n i c
  unfold rimRow
  rw [bt_str _ c (by simpa using hc) (by simp [h.1]) (by simp [h.2])]
  simp
theorem rim_cell (l : List ByteArray) (n : Nat) (i : Int) (c : Nat) (hc : c < n) : bt (rimRow l n i) (c : Int) = 32 ∨ bt (rimRow l n i) (c : Int) = bt (rdOf ByteArray.empty l i) (c : Int) := by
  rw [rimRow_bt l n i c hc]
  unfold rimV
  split
  · exact Or.inl rfl
  · exact Or.inr rfl
section
variable (g r : List ByteArray) (n : Nat) (hn : n ≤ 32) (hg : g.length ≤ 32) (hl : r.length = g.length)
  (hsg : ∀ j : Nat, j < g.length → (rdOf ByteArray.empty g (j : Int)).size = n) (hsr : ∀ j : Nat, j < g.length → (rdOf ByteArray.empty r (j : Int)).size = n)
  (hc : ∀ j c : Nat, j < g.length → c < n → bt (rdOf ByteArray.empty r (j : Int)) (c : Int) = 32 ∨ bt (rdOf ByteArray.empty r (j : Int)) (c : Int) = bt (rdOf ByteArray.empty g (j : Int)) (c : Int))
include hn hg hl hsg hsr hc
theorem keeps (d : Nat) : ∀ (i : Nat), i + d = g.length → Ev (fun k => laws_FnGrids.l1 k g r (i : Int)) true := by
  induction d with
  | zero =>
    intro i hd
    refine ev_one fun k => ?_
    simp only [laws_FnGrids.l1]
    rw [if_neg (by omega)]
  | succ d ih =>
    intro i hd
    have hi : i < g.length := by omega
    have zg := hsg i hi
    have zr := hsr i hi
    have row : ∀ (e c : Nat), c + e = n → Ev (fun k => laws_FnGrids.l2 k g r (i : Int) (c : Int)) true := by
      intro e
      induction e with
      | zero =>
        intro c hce
        refine ev_step (ih (i + 1) (by omega)) fun k => ?_
        simp only [laws_FnGrids.l2]
        rw [if_pos (by omega), if_pos (by omega), if_neg (by omega), w64s hi (by omega)]
      | succ e ihe =>
        intro c hce
        have h5 : Ev (fun k => laws_FnGrids.j5 k g r (i : Int) (c : Int) false) true := by
          refine ev_step (ihe (c + 1) (by omega)) fun k => ?_
          simp only [laws_FnGrids.j5]
          rw [if_neg (by simp), w64s (show c < n by omega) (by omega)]
        by_cases hb : bt (rdOf ByteArray.empty r (i : Int)) (c : Int) = 32
        · refine ev_step h5 fun k => ?_
          simp only [laws_FnGrids.l2]
          rw [if_pos (by omega), if_pos (by omega), if_pos (by omega), if_pos (by omega), if_pos (by omega), if_pos (by omega), if_pos hb]
        · have hb2 : bt (rdOf ByteArray.empty r (i : Int)) (c : Int) = bt (rdOf ByteArray.empty g (i : Int)) (c : Int) := (hc i c hi (by omega)).resolve_left hb
          refine ev_step h5 fun k => ?_
          simp only [laws_FnGrids.l2]
          rw [if_pos (by omega), if_pos (by omega), if_pos (by omega), if_pos (by omega), if_pos (by omega), if_pos (by omega), if_neg hb, show (bt (rdOf ByteArray.empty r (i : Int)) (c : Int) != bt (rdOf ByteArray.empty g (i : Int)) (c : Int)) = false by rw [hb2]; simp]
    refine ev_step (row n 0 (by omega)) fun k => ?_
    simp only [laws_FnGrids.l1]
    rw [if_pos (by omega), if_pos (by omega), if_pos (by omega), if_pos (by omega)]
    rfl
end
theorem rest_holds {s : List Int} (hs : Bytes s) : Ev (fun k => laws_FnGrids.j2 k s false) true := by
  obtain ⟨g, e1⟩ := draw_one hs
  refine ev_step (f := fun k => (spec_DrawRimOf.f k s).bind fun t303 => ((impl_RimOf.f k t303).bind fun t306 => (if (t306.length : Int) = 0 then (some true) else (if (t306.length : Int) = (t303.length : Int) then (laws_FnGrids.l1 k t303 t306 0) else (some false))))) ?_ (fun k => by simp only [laws_FnGrids.j2]; rw [if_neg (by simp)])
  refine ev_bind e1 (ev_bind (impl_rim g) ?_)
  by_cases hg : gridB g = true
  · have gG := gridB_yes.1 hg
    have l1 := gG.1
    have gA := gG.2.2 (by omega)
    have e0 : rdOf ByteArray.empty g 0 = g[0] := rdOf_at _ g 0 (by omega)
    have hr : rimB g = rimUpto g (rdOf ByteArray.empty g 0).size g.length := by unfold rimB; rw [if_pos hg]
    have hl : (rimB g).length = g.length := by rw [hr]; simp [rimUpto]
    have hrow : ∀ j : Nat, j < g.length → rdOf ByteArray.empty (rimB g) (j : Int) = rimRow g (rdOf ByteArray.empty g 0).size (j : Int) := fun j hj => by
      rw [rdOf_at _ _ j (by omega)]
      simp [hr, rimUpto]
    refine ev_neg (by omega) (ev_pos (by omega) ?_)
    exact keeps g (rimB g) (rdOf ByteArray.empty g 0).size (by rw [e0]; exact gA.2.1) gG.2.1 hl (fun j hj => by rw [rdOf_at _ g j hj, e0]; exact gA.2.2 _ (List.getElem_mem _)) (fun j hj => by rw [hrow j hj, rimRow_size]) (fun j c hj hc => by rw [hrow j hj]; exact rim_cell g _ _ c hc) g.length 0 (by omega)
  · have hr : rimB g = [] := by unfold rimB; rw [if_neg hg]
    rw [hr]
    exact ev_pos (by simp) (ev_some _)
/-! ### The law -/
theorem toList_iff (x y : ByteArray) : x.toList = y.toList ↔ x = y := by
  rw [Lib.toList_data, Lib.toList_data]
  constructor
  · intro h
    apply ByteArray.ext
    exact Array.toList_inj.1 h
  · rintro rfl; rfl
section
variable (s : List Int) (a b : List ByteArray) (la : a.length ≤ 9223372036854775807) (lb : b.length ≤ 9223372036854775807) (x5 : Int) (x6 : Bool) (x7 : Int) (x8 : Bool)
  (hres : ∀ v : Bool, (v = true ↔ a = b) → ∀ i, Ev (fun k => laws_FnGrids.j1 k s a b x5 x6 x7 x8 v i false) true)
include la lb hres
theorem same_loop (d : Nat) : ∀ (i : Nat) (v : Bool), i + d = min a.length b.length → (v = true ↔ a.length = b.length ∧ ∀ j, j < i → a[j]? = b[j]?) → Ev (fun k => laws_FnGrids.l0 k s a b x5 x6 x7 x8 v (i : Int)) true := by
  induction d with
  | zero =>
    intro i v hd hv
    have hv2 : v = true ↔ a = b := by
      rw [hv]
      constructor
      · rintro ⟨h1, h2⟩
        apply List.ext_getElem?
        intro j
        by_cases hj : j < i
        · exact h2 j hj
        · rw [List.getElem?_eq_none (by omega), List.getElem?_eq_none (by omega)]
      · rintro rfl
        exact ⟨rfl, fun _ _ => rfl⟩
    refine ev_step (hres v hv2 i) fun k => ?_
    simp only [laws_FnGrids.l0]
    by_cases h1 : (i : Int) < (a.length : Int)
    · rw [if_pos h1, show decide ((i : Int) < (b.length : Int)) = false from decide_eq_false (by omega)]
    · rw [if_neg h1]
  | succ d ih =>
    intro i v hd hv
    have hia : i < a.length := by omega
    have hib : i < b.length := by omega
    have ea := rdOf_at ByteArray.empty a i hia
    have eb := rdOf_at ByteArray.empty b i hib
    have h1 : Ev (fun k => laws_FnGrids.j1 k s a b x5 x6 x7 x8 v (i : Int) true) true := by
      cases v with
      | true =>
        refine ev_step (ih (i + 1) ((rdOf ByteArray.empty a (i : Int)).toList == (rdOf ByteArray.empty b (i : Int)).toList) (by omega) ?_) fun k => ?_
        · rw [beq_iff_eq, toList_iff, ea, eb]
          have hv2 := hv.1 rfl
          constructor
          · intro h
            refine ⟨hv2.1, fun j hj => ?_⟩
            by_cases e : j = i
            · subst e
              rw [List.getElem?_eq_getElem hia, List.getElem?_eq_getElem hib, h]
            · exact hv2.2 j (by omega)
          · rintro ⟨_, h2⟩
            have h3 := h2 i (by omega)
            rw [List.getElem?_eq_getElem hia, List.getElem?_eq_getElem hib] at h3
            exact Option.some.inj h3
        · simp only [laws_FnGrids.j1]
          rw [if_pos trivial, if_pos trivial, if_pos (by omega), if_pos (by omega), if_pos (by omega), w64s hia la]
      | false =>
        refine ev_step (ih (i + 1) false (by omega) ?_) fun k => ?_
        · constructor
          · intro h; cases h
          · rintro ⟨h1, h2⟩
            exact hv.2 ⟨h1, fun j hj => h2 j (by omega)⟩
        · simp only [laws_FnGrids.j1]
          rw [if_pos trivial, if_neg (by simp), w64s hia la]
    refine ev_step h1 fun k => ?_
    simp only [laws_FnGrids.l0]
    rw [if_pos (by omega), show decide ((i : Int) < (b.length : Int)) = true from decide_eq_true (by omega)]
end
theorem FnGrids : laws_FnGrids.Pure := by
  intro s hl hl2 hwf
  refine Ev.rounds (g := fun k => laws_FnGrids.f k s) (r := true) ?_
  have hs : Bytes s := ⟨by unfold maxLen at hl; omega, fun x hx => by
    have h := hwf x hx
    simp only [Lit.wf, Bool.and_eq_true, decide_eq_true_eq] at h
    exact h⟩
  unfold laws_FnGrids.f laws_b10Long.f
  refine ev_use rfl ?_
  by_cases hb : (s.length : Int) > 1048576
  · exact ev_pos (decide_eq_true hb) (ev_some _)
  · refine ev_neg (by simp; omega) ?_
    obtain ⟨a, b, e1, la, lb⟩ := draw_two hs
    refine ev_bind e1 (ev_bind (both_chg a b).2 (ev_bind (both_chg b a).2 ?_))
    simp only
    rw [chg_comm b a]
    refine same_loop s a b (by omega) (by omega) _ _ _ _ (fun v hv i => ?_) (min a.length b.length) 0 _ (by omega) (by simp; omega)
    refine ev_step (f := fun k => (spec_ChangedCells.f k a b).bind fun bt301 => (if ((chg a b).2 != bt301.2) = true then (laws_FnGrids.j2 k s true) else (if ((chg a b).2 != (chg a b).2) = true then (laws_FnGrids.j2 k s true) else (if (chg a b).1 = (chg a b).1 then (if (chg a b).2 = true then (laws_FnGrids.j2 k s (((chg a b).1 == 0) != v)) else (laws_FnGrids.j2 k s false)) else (laws_FnGrids.j2 k s true))))) ?_ (fun k => by simp only [laws_FnGrids.j1]; rw [if_neg (by simp)])
    refine ev_bind (both_chg a b).1 (ev_neg (by simp) (ev_neg (by simp) (ev_pos rfl ?_)))
    by_cases hf : Fit a b
    · have hz := chg_zero hf
      have h2 : (chg a b).2 = true := by unfold chg; rw [if_pos hf]
      have h3 : (((chg a b).1 == 0) != v) = false := by
        have : ((chg a b).1 == 0) = v := by
          rw [Bool.eq_iff_iff, beq_iff_eq, hz, hv]
        rw [this]; simp
      rw [h3]
      exact ev_pos h2 (rest_holds hs)
    · have h2 : (chg a b).2 = false := by unfold chg; rw [if_neg hf]
      exact ev_neg (by rw [h2]; simp) (rest_holds hs)
end Go.Proofs.Ytfmkbcmoibhffaa.Pure
