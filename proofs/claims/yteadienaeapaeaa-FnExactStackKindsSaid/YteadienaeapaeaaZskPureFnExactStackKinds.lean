/- StackKinds of the program returns what StackKinds of the reference returns, in memory of its own, and leaves its argument alone, for all numbers of rows and columns and every list of numbers; lists that the statement passes over (more than 2^20) are passed over here, too. -/
import Derived.Test.YteadienaeapaeaaZskMapK
import Derived.Test.YteadienaeapaeaaZskLoop
namespace Go.Proofs.Yteadienaeapaeaa.Pure
open Go Go.RowKit Go.Proofs.YteadienaeapaeaaW.PrintWords Go.Proofs.YteadienaeapaeaaW.PrintLast Go.Proofs.YteadienaeapaeaaW.PrintMore Go.Proofs.Yteadienaeapaeaa.Base Go.Proofs.Yteadienaeapaeaa.MapK Go.Proofs.Yteadienaeapaeaa.PK
open Go.Proofs.Yteadienaeapaeaa.Loop (Tells tells_if tells_step tells_rounds tells_lists tells_eq)
/-- Which kind a crease has: by the order of its two squares and the side of the first. -/
def kindI (lv : List Int) (a b s : Int) : Int := if (decide (rd lv a < rd lv b) == (Int.tmod s 2 == 0)) = true then 3 else 2
theorem kind_impl (k : Nat) (lv x : List Int) (a b s : Int) (ha : 0 ≤ a) (ha2 : a < lv.length) (hb : 0 ≤ b) (hb2 : b < lv.length) (hs : 0 ≤ s) (hne : rd lv a ≠ rd lv b) (hA : 0 ≤ rd lv a ∧ rd lv a ≤ 1000) (hB : 0 ≤ rd lv b ∧ rd lv b ≤ 1000) (hx : x.length ≤ 1000) :
    impl_StackKinds_1.f (k + 1) a b s x lv = some (x ++ [kindI lv a b s]) := by
  unfold impl_StackKinds_1.f impl_signOf.f impl_KindBetween.f
  rw [if_pos ha, if_pos ha2, if_pos hb, if_pos hb2, w64 (x := rd lv a - rd lv b) (by omega) (by omega)]
  simp only [Option.bind_some]
  have hm : Int.tmod s 2 = 0 ∨ Int.tmod s 2 = 1 := by
    have h1 := Int.tmod_nonneg 2 hs
    have h2 := Int.tmod_lt_of_pos s (show (0 : Int) < 2 by omega)
    omega
  by_cases hlt : rd lv a < rd lv b
  · have hsg : mx (-1) (mn 1 (rd lv a - rd lv b)) = -1 := by
      unfold mx mn
      rw [if_pos (show rd lv a - rd lv b < 1 by omega), if_neg (by omega)]
    rw [hsg, if_neg (by omega)]
    simp only [impl_KindBetween.j0]
    rw [if_neg (by simp)]
    unfold kindI
    rcases hm with h | h
    · rw [h, if_pos (by decide), if_pos (by simp [hlt])]
      simp only [Option.bind_some]
      rw [if_pos (by omega)]
    · rw [h, if_neg (by decide), if_neg (by simp [hlt])]
      simp only [Option.bind_some]
      rw [if_pos (by omega)]
  · have hsg : mx (-1) (mn 1 (rd lv a - rd lv b)) = 1 := by
      unfold mx mn
      rw [if_neg (show ¬ rd lv a - rd lv b < 1 by omega), if_pos (by omega)]
    rw [hsg, if_pos rfl]
    simp only [impl_KindBetween.j0]
    rw [if_neg (by simp)]
    unfold kindI
    rcases hm with h | h
    · rw [h, if_neg (by decide), if_neg (by simp [hlt])]
      simp only [Option.bind_some]
      rw [if_pos (by omega)]
    · rw [h, if_pos (by decide), if_pos (by simp [hlt])]
      simp only [Option.bind_some]
      rw [if_pos (by omega)]
/-- The heights of a map's squares: as many as squares, all different. -/
structure Lv (R C : Nat) (lv : List Int) : Prop where
  r1 : 1 ≤ R
  c1 : 1 ≤ C
  r12 : R ≤ 12
  c12 : C ≤ 12
  n12 : R * C ≤ 12
  len : lv.length = R * C
  small : ∀ a : Int, 0 ≤ a → a < lv.length → 0 ≤ rd lv a ∧ rd lv a ≤ 1000
  apart : ∀ a b : Int, 0 ≤ a → a < lv.length → 0 ≤ b → b < lv.length → a ≠ b → rd lv a ≠ rd lv b
theorem at_lt {R C r c : Nat} (hr : r < R) (hc : c < C) : r * C + c < R * C := by
  have := Nat.mul_le_mul_right C (show r + 1 ≤ R by omega)
  rw [Nat.add_mul] at this
  omega
theorem at_down {R C r c : Nat} (hr : r + 1 < R) (hc : c < C) : r * C + c + C < R * C := by
  have := at_lt hr hc
  rw [Nat.add_mul] at this
  omega
section
variable {R C : Nat} {lv : List Int} (h : Lv R C lv)
include h
def rightL (lv : List Int) (C r c : Nat) : List Int := if c + 1 < C then [kindI lv ((r * C + c : Nat) : Int) ((r * C + c + 1 : Nat) : Int) ((r + c : Nat) : Int)] else []
def downL (lv : List Int) (R C r c : Nat) : List Int := if r + 1 < R then [kindI lv ((r * C + c : Nat) : Int) ((r * C + c + C : Nat) : Int) ((r + c : Nat) : Int)] else []
omit h in
theorem right_len (r c : Nat) : (rightL lv C r c).length ≤ 1 := by unfold rightL; split <;> simp
omit h in
theorem down_len (r c : Nat) : (downL lv R C r c).length ≤ 1 := by unfold downL; split <;> simp
structure Wr (R C r c : Nat) : Prop where
  w1 : wrap64 ((r : Int) * (C : Int)) = ((r * C : Nat) : Int)
  w2 : wrap64 (((r * C : Nat) : Int) + (c : Int)) = ((r * C + c : Nat) : Int)
  w3 : wrap64 ((c : Int) + 1) = ((c + 1 : Nat) : Int)
  w4 : wrap64 (((r * C + c : Nat) : Int) + 1) = ((r * C + c + 1 : Nat) : Int)
  w5 : wrap64 ((r : Int) + (c : Int)) = ((r + c : Nat) : Int)
  w6 : wrap64 ((r : Int) + 1) = ((r + 1 : Nat) : Int)
  w7 : wrap64 (((r * C + c : Nat) : Int) + (C : Int)) = ((r * C + c + C : Nat) : Int)
  w8 : wrap64 ((r : Int)) = (r : Int)
  w0 : wrap64 ((R : Int) * (C : Int)) = ((R * C : Nat) : Int)
  tm : Int.tmod ((r * C + c : Nat) : Int) (C : Int) = (c : Int)
  td : Int.tdiv ((r * C + c : Nat) : Int) (C : Int) = (r : Int)
omit h in
theorem nw (n : Nat) (hn : n ≤ 1000) : wrap64 (n : Int) = (n : Int) := w64 (by omega) (by omega)
theorem wr_of {r c : Nat} (hr : r < R) (hc : c < C) : Wr R C r c := by
  have hi := at_lt hr hc
  have n12 := h.n12
  have c12 := h.c12
  have r12 := h.r12
  have hrC : r * C ≤ R * C := Nat.mul_le_mul_right C (by omega)
  refine ⟨?_, ?_, ?_, ?_, ?_, ?_, ?_, nw r (by omega), ?_, ?_, ?_⟩
  · rw [← Int.natCast_mul]; exact nw _ (by omega)
  · rw [← Int.natCast_add]; exact nw _ (by omega)
  · exact nw (c + 1) (by omega)
  · exact nw (r * C + c + 1) (by omega)
  · rw [← Int.natCast_add]; exact nw _ (by omega)
  · exact nw (r + 1) (by omega)
  · rw [← Int.natCast_add]; exact nw _ (by omega)
  · rw [← Int.natCast_mul]; exact nw _ (by omega)
  · rw [← Int.ofNat_tmod, show (r * C + c) % C = c by rw [Nat.add_comm, Nat.add_mul_mod_self_right]; exact Nat.mod_eq_of_lt hc]
  · rw [← Int.ofNat_tdiv, show (r * C + c) / C = r by rw [Nat.add_comm, Nat.add_mul_div_right _ _ (by omega)]; rw [Nat.div_eq_of_lt hc]; omega]
theorem cell_impl {r c : Nat} (hr : r < R) (hc : c < C) (x : List Int) (hx : x.length ≤ 100) (res : List Int × Int)
    (e : Ev (fun k => impl_StackKinds.l1 k (R : Int) (C : Int) lv (x ++ rightL lv C r c ++ downL lv R C r c) (r : Int) (R : Int) (r : Int) (C : Int) ((c + 1 : Nat) : Int)) res) :
    Ev (fun k => impl_StackKinds.l1 k (R : Int) (C : Int) lv x (r : Int) (R : Int) (r : Int) (C : Int) (c : Int)) res := by
  have hi := at_lt hr hc
  have n12 := h.n12
  have hl := h.len
  have hw := wr_of h hr hc
  have hrl := right_len (lv := lv) (C := C) r c
  have step2 : ∀ y : List Int, y.length ≤ 200 → Ev (fun k => impl_StackKinds.l1 k (R : Int) (C : Int) lv (y ++ downL lv R C r c) (r : Int) (R : Int) (r : Int) (C : Int) ((c + 1 : Nat) : Int)) res → Ev (fun k => impl_StackKinds.j2 k (R : Int) (C : Int) lv y (r : Int) (c : Int) ((r * C + c : Nat) : Int) (R : Int) (r : Int) (C : Int) (c : Int)) res := by
    intro y hy e
    unfold downL at e
    by_cases hd : r + 1 < R
    · rw [if_pos hd] at e
      have hdn := at_down hd hc
      have hk := fun k => kind_impl k lv y ((r * C + c : Nat) : Int) ((r * C + c + C : Nat) : Int) ((r + c : Nat) : Int) (by omega) (by omega) (by omega) (by omega) (by omega) (h.apart _ _ (by omega) (by omega) (by omega) (by omega) (by have := h.c1; omega)) (h.small _ (by omega) (by omega)) (h.small _ (by omega) (by omega)) (by omega)
      refine ev_step (f := fun k => (impl_StackKinds_1.f k ((r * C + c : Nat) : Int) ((r * C + c + C : Nat) : Int) ((r + c : Nat) : Int) y lv).bind fun t251 => (impl_StackKinds.l1 k (R : Int) (C : Int) lv t251 (r : Int) (R : Int) (r : Int) (C : Int) ((c + 1 : Nat) : Int))) (ev_bind (ev_one hk) e) fun k => ?_
      simp only [impl_StackKinds.j2]
      rw [hw.w6, if_pos (by omega), hw.w7, hw.w5, hw.w3]
    · rw [if_neg hd, List.append_nil] at e
      refine ev_step e fun k => ?_
      simp only [impl_StackKinds.j2]
      rw [hw.w6, if_neg (by omega), hw.w3]
  by_cases hcc : c + 1 < C
  · have hk := fun k => kind_impl k lv x ((r * C + c : Nat) : Int) ((r * C + c + 1 : Nat) : Int) ((r + c : Nat) : Int) (by omega) (by omega) (by omega) (by have := at_lt hr hcc; omega) (by omega) (h.apart _ _ (by omega) (by omega) (by omega) (by have := at_lt hr hcc; omega) (by omega)) (h.small _ (by omega) (by omega)) (h.small _ (by omega) (by have := at_lt hr hcc; omega)) (by omega)
    have hR : rightL lv C r c = [kindI lv ((r * C + c : Nat) : Int) ((r * C + c + 1 : Nat) : Int) ((r + c : Nat) : Int)] := by unfold rightL; rw [if_pos hcc]
    rw [hR] at e
    refine ev_step (f := fun k => (impl_StackKinds_1.f k ((r * C + c : Nat) : Int) ((r * C + c + 1 : Nat) : Int) ((r + c : Nat) : Int) x lv).bind fun t248 => (impl_StackKinds.j2 k (R : Int) (C : Int) lv t248 (r : Int) (c : Int) ((r * C + c : Nat) : Int) (R : Int) (r : Int) (C : Int) (c : Int))) (ev_bind (ev_one hk) (step2 _ (by simp; omega) e)) fun k => ?_
    simp only [impl_StackKinds.l1]
    rw [if_pos (by omega), hw.w3, if_pos (by omega), hw.w1, hw.w2, hw.w4, hw.w5]
  · have hR : rightL lv C r c = [] := by unfold rightL; rw [if_neg hcc]
    rw [hR, List.append_nil] at e
    refine ev_step (step2 x (by omega) e) fun k => ?_
    simp only [impl_StackKinds.l1]
    rw [if_pos (by omega), hw.w3, if_neg (by omega), hw.w1, hw.w2]
omit h in
theorem qw (q : Int) (hq : q = 0 ∨ q = 1) : wrap64 (q + 1) = q + 1 := w64 (by omega) (by omega)
theorem cell_spec {r c : Nat} (hr : r < R) (hc : c < C) (x : List Int) (hx : x.length ≤ 100) (res : List Int × Int)
    (e : Ev (fun k => spec_StackKinds.l0 k (R : Int) (C : Int) lv (x ++ rightL lv C r c ++ downL lv R C r c) ((r * C + c + 1 : Nat) : Int)) res) :
    Ev (fun k => spec_StackKinds.l0 k (R : Int) (C : Int) lv x ((r * C + c : Nat) : Int)) res := by
  have hi := at_lt hr hc
  have n12 := h.n12
  have hl := h.len
  have c1 := h.c1
  have hw := wr_of h hr hc
  have hfront : spec_l26Front.f (C : Int) ((r * C + c : Nat) : Int) = some (Int.tmod ((r + c : Nat) : Int) 2 == 0) := by
    unfold spec_l26Front.f
    rw [if_neg (by omega), hw.td, hw.tm, hw.w8, hw.w5]
  have last : ∀ y : List Int, Ev (fun k => spec_StackKinds.l0 k (R : Int) (C : Int) lv y ((r * C + c + 1 : Nat) : Int)) res → Ev (fun k => spec_StackKinds.l1 k (R : Int) (C : Int) lv y ((r * C + c : Nat) : Int) 2) res := fun y e => ev_step e fun k => by
    simp only [spec_StackKinds.l1]
    rw [if_neg (by omega), hw.w4]
  have kstep : ∀ (y : List Int) (q : Int) (b : Nat), y.length ≤ 200 → (q = 0 ∨ q = 1) → b < R * C → Ev (fun k => spec_StackKinds.l1 k (R : Int) (C : Int) lv (y ++ [kindI lv ((r * C + c : Nat) : Int) (b : Int) ((r + c : Nat) : Int)]) ((r * C + c : Nat) : Int) (q + 1)) res →
      Ev (fun k => spec_StackKinds.j3 k (R : Int) (C : Int) lv y ((r * C + c : Nat) : Int) q (b : Int) false) res := by
    intro y q b hy hq hb e
    refine ev_step e fun k => ?_
    simp only [spec_StackKinds.j3]
    rw [if_neg (by simp), if_pos (by omega), if_pos (by omega), if_pos (by omega), if_pos (by omega), hfront]
    simp only [Option.bind_some]
    unfold kindI
    by_cases hk : (decide (rd lv ((r * C + c : Nat) : Int) < rd lv (b : Int)) == (Int.tmod ((r + c : Nat) : Int) 2 == 0)) = true
    · rw [if_pos hk, if_pos hk, if_pos (by omega), qw q hq]
    · rw [if_neg hk, if_neg hk, if_pos (by omega), qw q hq]
  have kskip : ∀ (y : List Int) (q b : Int), (q = 0 ∨ q = 1) → Ev (fun k => spec_StackKinds.l1 k (R : Int) (C : Int) lv y ((r * C + c : Nat) : Int) (q + 1)) res → Ev (fun k => spec_StackKinds.j3 k (R : Int) (C : Int) lv y ((r * C + c : Nat) : Int) q b true) res := by
    intro y q b hq e
    refine ev_step e fun k => ?_
    simp only [spec_StackKinds.j3]
    rw [if_pos trivial, qw q hq]
  -- the square below
  have down : ∀ y : List Int, y.length ≤ 200 → Ev (fun k => spec_StackKinds.l0 k (R : Int) (C : Int) lv (y ++ downL lv R C r c) ((r * C + c + 1 : Nat) : Int)) res → Ev (fun k => spec_StackKinds.l1 k (R : Int) (C : Int) lv y ((r * C + c : Nat) : Int) 1) res := by
    intro y hy e
    have e' := last _ e
    unfold downL at e'
    have j2of : ∀ b : Bool, ((((r + 1 : Nat) : Int)) == (R : Int)) = b → Ev (fun k => spec_StackKinds.j3 k (R : Int) (C : Int) lv y ((r * C + c : Nat) : Int) 1 ((r * C + c + C : Nat) : Int) b) res → Ev (fun k => spec_StackKinds.l1 k (R : Int) (C : Int) lv y ((r * C + c : Nat) : Int) 1) res := by
      intro b hb e
      have e2 : Ev (fun k => spec_StackKinds.j2 k (R : Int) (C : Int) lv y ((r * C + c : Nat) : Int) 1 ((r * C + c + C : Nat) : Int)) res := ev_step e fun k => by
        simp only [spec_StackKinds.j2]
        rw [if_neg (by omega), if_pos trivial, if_neg (by omega), hw.td, hw.w8, hw.w6, hb]
      refine ev_step e2 fun k => ?_
      simp only [spec_StackKinds.l1]
      rw [if_pos (by omega), if_pos trivial, hw.w7]
    by_cases hd : r + 1 < R
    · rw [if_pos hd] at e'
      exact j2of false (by simp; omega) (kstep y 1 (r * C + c + C) hy (Or.inr rfl) (at_down hd hc) e')
    · rw [if_neg hd, List.append_nil] at e'
      exact j2of true (by simp; omega) (kskip y 1 _ (Or.inr rfl) e')
  have e1 := down (x ++ rightL lv C r c) (by have := right_len (lv := lv) (C := C) r c; simp; omega) e
  unfold rightL at e1
  have j2of : ∀ b : Bool, ((((c + 1 : Nat) : Int)) = (C : Int) ↔ b = true) → Ev (fun k => spec_StackKinds.j3 k (R : Int) (C : Int) lv x ((r * C + c : Nat) : Int) 0 ((r * C + c + 1 : Nat) : Int) b) res → Ev (fun k => spec_StackKinds.l0 k (R : Int) (C : Int) lv x ((r * C + c : Nat) : Int)) res := by
    intro b hb e
    have e2 : Ev (fun k => spec_StackKinds.j2 k (R : Int) (C : Int) lv x ((r * C + c : Nat) : Int) 0 ((r * C + c + 1 : Nat) : Int)) res := ev_step e fun k => by
      simp only [spec_StackKinds.j2]
      rw [if_pos trivial, if_neg (by omega), hw.tm, hw.w3]
      cases b with
      | true => rw [if_pos (hb.mpr rfl)]
      | false => rw [if_neg (fun e => by have := hb.mp e; cases this), if_neg (by omega)]
    have e3 : Ev (fun k => spec_StackKinds.l1 k (R : Int) (C : Int) lv x ((r * C + c : Nat) : Int) 0) res := ev_step e2 fun k => by
      simp only [spec_StackKinds.l1]
      rw [if_pos (by omega), if_neg (by omega), hw.w4]
    refine ev_step e3 fun k => ?_
    simp only [spec_StackKinds.l0]
    rw [hw.w0, if_pos (by omega)]
  by_cases hcc : c + 1 < C
  · rw [if_pos hcc] at e1
    exact j2of false ⟨fun e => absurd e (by omega), fun e => (by cases e)⟩ (kstep x 0 (r * C + c + 1) (by omega) (Or.inl rfl) (at_lt hr hcc) e1)
  · rw [if_neg hcc, List.append_nil] at e1
    exact j2of true ⟨fun _ => rfl, fun _ => by omega⟩ (kskip x 0 _ (Or.inl rfl) e1)
def Both (R C : Nat) (lv x : List Int) (r c : Nat) : Prop := ∃ res : List Int × Int, (Ev (fun k => impl_StackKinds.l1 k (R : Int) (C : Int) lv x (r : Int) (R : Int) (r : Int) (C : Int) (c : Int)) res ∧ Ev (fun k => spec_StackKinds.l0 k (R : Int) (C : Int) lv x ((r * C + c : Nat) : Int)) res) ∧ res.1.length ≤ 1000
theorem row_both {r : Nat} (hr : r < R) (hnext : ∀ x : List Int, x.length ≤ 2 * ((r + 1) * C) → ∃ res : List Int × Int, (Ev (fun k => impl_StackKinds.l0 k (R : Int) (C : Int) lv x (R : Int) ((r + 1 : Nat) : Int)) res ∧ Ev (fun k => spec_StackKinds.l0 k (R : Int) (C : Int) lv x (((r + 1) * C : Nat) : Int)) res) ∧ res.1.length ≤ 1000) (d : Nat) :
    ∀ (c : Nat) (x : List Int), c + d = C → x.length ≤ 2 * (r * C + c) → Both R C lv x r c := by
  induction d with
  | zero =>
    intro c x hd hx
    obtain rfl : c = C := by omega
    obtain ⟨res, ⟨e1, e2⟩, hl⟩ := hnext x (by rw [Nat.add_mul]; omega)
    refine ⟨res, ⟨ev_step e1 fun k => ?_, ?_⟩, hl⟩
    · simp only [impl_StackKinds.l1]
      rw [if_neg (by omega), show wrap64 ((r : Int) + 1) = ((r + 1 : Nat) : Int) from nw (r + 1) (by have := h.r12; omega)]
    · rw [show r * c + c = (r + 1) * c by rw [Nat.add_mul]; omega]
      exact e2
  | succ d ih =>
    intro c x hd hx
    have hc : c < C := by omega
    have hi := at_lt hr hc
    have n12 := h.n12
    have h1 := right_len (lv := lv) (C := C) r c
    have h2 := down_len (lv := lv) (R := R) (C := C) r c
    obtain ⟨res, ⟨e1, e2⟩, hl⟩ := ih (c + 1) (x ++ rightL lv C r c ++ downL lv R C r c) (by omega) (by simp only [List.length_append]; omega)
    exact ⟨res, ⟨cell_impl h hr hc x (by omega) res e1, cell_spec h hr hc x (by omega) res e2⟩, hl⟩
theorem rows_both (d : Nat) : ∀ (r : Nat) (x : List Int), r + d = R → x.length ≤ 2 * (r * C) → ∃ res : List Int × Int, (Ev (fun k => impl_StackKinds.l0 k (R : Int) (C : Int) lv x (R : Int) (r : Int)) res ∧ Ev (fun k => spec_StackKinds.l0 k (R : Int) (C : Int) lv x ((r * C : Nat) : Int)) res) ∧ res.1.length ≤ 1000 := by
  have n12 := h.n12
  induction d with
  | zero =>
    intro r x hd hx
    obtain rfl : r = R := by omega
    refine ⟨(x, 0), ⟨ev_one fun k => ?_, ev_one fun k => ?_⟩, by show x.length ≤ 1000; omega⟩
    · simp only [impl_StackKinds.l0]
      rw [if_neg (by omega)]
    · simp only [spec_StackKinds.l0]
      rw [← Int.natCast_mul, nw (r * C) (by omega), if_neg (by omega)]
  | succ d ih =>
    intro r x hd hx
    have hr : r < R := by omega
    obtain ⟨res, ⟨e1, e2⟩, hl⟩ := row_both h hr (fun y hy => ih (r + 1) y (by omega) hy) C 0 x (by omega) (by omega)
    refine ⟨res, ⟨ev_step e1 fun k => ?_, e2⟩, hl⟩
    simp only [impl_StackKinds.l0]
    rw [if_pos (by omega)]
    rfl
end
/-! ### the heights of a stack -/
theorem place_at (n : Nat) (l : List Int) (hr : ∀ x ∈ l, 0 ≤ x ∧ x < n) (hd : l.Nodup) : ∀ i : Nat, i ≤ l.length → ∀ j : Nat, j < i → rd (place n l i) (rd l (j : Int)) = (j : Int) := by
  intro i
  induction i with
  | zero => intro _ j hj; omega
  | succ i ih =>
    intro hi j hj
    have ei := rd_at l i (by omega)
    have ej := rd_at l j (by omega)
    have ri := hr _ (List.getElem_mem (show i < l.length by omega))
    have rj := hr _ (List.getElem_mem (show j < l.length by omega))
    unfold place rd
    rw [List.getD_eq_getElem?_getD]
    by_cases e : j = i
    · subst e
      rw [List.getElem?_set_self (by rw [place_len]; have := ri; rw [← ei] at this; unfold rd at this; omega)]
      rfl
    · have hne : (l.getD ((i : Int)).toNat 0).toNat ≠ (l.getD ((j : Int)).toNat 0).toNat := by
        intro h
        have h2 : l[i]'(by omega) = l[j]'(by omega) := by
          unfold rd at ei ej
          rw [ei, ej] at h
          omega
        have hw := List.pairwise_iff_getElem.1 hd
        rcases Nat.lt_trichotomy i j with q | q | q
        · exact hw i j (by omega) (by omega) q h2
        · exact e q.symm
        · exact hw j i (by omega) (by omega) q h2.symm
      rw [List.getElem?_set_ne hne, ← List.getD_eq_getElem?_getD]
      exact ih (by omega) j (by omega)
theorem perm_has {l : List Int} (hp : Perm01 l) (a : Int) (h0 : 0 ≤ a) (h1 : a < l.length) : ∃ j : Nat, ∃ h : j < l.length, l[j] = a := by
  have hs := (perm_iff l).mpr hp
  have hperm : (sortedL l).Perm l := List.mergeSort_perm _ _
  have hm : a ∈ l := hperm.mem_iff.1 (by rw [hs]; exact firsts_mem.2 ⟨h0, h1⟩)
  obtain ⟨j, hj, e⟩ := List.mem_iff_getElem.1 hm
  exact ⟨j, hj, e⟩
theorem lv_of {a b : Int} {l : List Int} (hok : okMap a b = true) (hp : Perm01 l) (hl : (l.length : Int) = a * b) : Lv a.toNat b.toNat (place l.length l l.length) := by
  obtain ⟨a1, a2, b1, b2, hw, n1, n2⟩ := ok_tells hok
  have hn : (l.length : Nat) = a.toNat * b.toNat := by
    have : ((a.toNat * b.toNat : Nat) : Int) = a * b := by rw [Int.natCast_mul, Int.toNat_of_nonneg (by omega), Int.toNat_of_nonneg (by omega)]
    omega
  have key : ∀ x : Int, 0 ≤ x → x < l.length → ∃ j : Nat, ∃ h : j < l.length, l[j] = x ∧ rd (place l.length l l.length) x = (j : Int) := fun x h0 h1 => by
    obtain ⟨j, hj, e⟩ := perm_has hp x h0 h1
    refine ⟨j, hj, e, ?_⟩
    have := place_at l.length l hp.1 hp.2 l.length (Nat.le_refl _) j hj
    rw [rd_at l j hj, e] at this
    exact this
  refine ⟨by omega, by omega, by omega, by omega, by omega, by rw [place_len]; exact hn, fun x h0 h1 => ?_, fun x y x0 x1 y0 y1 hne => ?_⟩
  · rw [place_len] at h1
    obtain ⟨j, hj, _, e⟩ := key x h0 h1
    rw [e]; omega
  · rw [place_len] at x1 y1
    obtain ⟨i, hi, e1, e2⟩ := key x x0 x1
    obtain ⟨j, hj, f1, f2⟩ := key y y0 y1
    rw [e2, f2]
    intro h
    obtain rfl : i = j := by omega
    exact hne (by rw [← e1, ← f1])
theorem kinds_same (a b : Int) (l : List Int) (hl : l.length ≤ 1048576) : ∃ r : List Int × Int, Ev (fun k => spec_StackKinds.f k a b l) r ∧ Ev (fun k => impl_StackKinds.f k a b l) r ∧ r.1.length ≤ 1000 := by
  have bad : Ev (fun k => impl_CheckStack.j0 k a b l true) false := ev_one fun k => by simp [impl_CheckStack.j0]
  unfold spec_StackKinds.f impl_StackKinds.f spec_l26Stack.f impl_CheckStack.f impl_isStack.f
  by_cases hok : okMap a b = true
  · obtain ⟨a1, a2, b1, b2, hw, n1, n2⟩ := ok_tells hok
    have hlev := levels_eq (a * b) n1 n2 l
    have himp := impl_perm l hl (a * b)
    by_cases hp : (permB l && decide ((l.length : Int) = a * b)) = true
    · rw [if_pos hp] at hlev
      rw [hp] at himp
      simp only [Bool.and_eq_true, decide_eq_true_eq] at hp
      have hper := permB_yes.1 hp.1
      have hh := heights_eq l hl hper
      obtain ⟨r, c1, c2, _⟩ := cross_eq a b hok (place l.length l l.length) (by rw [place_len]; exact hp.2)
      have hchk : Ev (fun k => ((impl_isPermutation.f l (wrap64 (a * b))).bind fun t193 => (some t193)).bind fun t231 => (impl_CheckStack.j0 k a b l (!t231))) (!r.2) := by
        rw [hw]
        refine ev_use (a := true) (by rw [himp]; rfl) ?_
        refine ev_step (f := fun k => (impl_crossing.f k a b l).bind fun bt311 => (some (!bt311.2))) ?_ (fun k => by simp [impl_CheckStack.j0])
        unfold impl_crossing.f
        exact ev_bind (ev_bind hh c2) (ev_some _)
      have hstk : Ev (fun k => (spec_l26Levels.f k (wrap64 (a * b)) l).bind fun bt159 => (if bt159.2 = true then ((spec_l26Cross.f k a b bt159.1).bind fun bt163 => (some (!bt163.2))) else (some false))) (!r.2) := by
        rw [hw]
        exact ev_bind hlev (ev_pos rfl (ev_bind c1 (ev_some _)))
      cases hr : (!r.2) with
      | false =>
        rw [hr] at hchk hstk
        exact ⟨([], 12), ev_use (ok_spec a b) (ev_pos hok (ev_bind hstk (ev_neg (by simp) (ev_some _)))), ev_use (ok_impl a b) (ev_pos hok (ev_bind (ev_use (ok_impl a b) (ev_pos hok hchk)) (ev_neg (by simp) (ev_some _)))), by simp⟩
      | true =>
        rw [hr] at hchk hstk
        have hlv := lv_of hok hper hp.2
        obtain ⟨res, ⟨e1, e2⟩, hres⟩ := rows_both hlv a.toNat 0 [] (by omega) (by simp)
        rw [Int.toNat_of_nonneg (show 0 ≤ a by omega), Int.toNat_of_nonneg (show 0 ≤ b by omega)] at e1 e2
        rw [Nat.zero_mul] at e2
        refine ⟨res, ev_use (ok_spec a b) (ev_pos hok (ev_bind hstk (ev_pos rfl ?_))), ev_use (ok_impl a b) (ev_pos hok (ev_bind (ev_use (ok_impl a b) (ev_pos hok hchk)) (ev_pos rfl (ev_bind hh e1)))), hres⟩
        rw [hw]
        exact ev_bind hlev e2
    · rw [if_neg hp] at hlev
      rw [Bool.eq_false_iff.mpr hp] at himp
      have hchk : Ev (fun k => ((impl_isPermutation.f l (wrap64 (a * b))).bind fun t193 => (some t193)).bind fun t231 => (impl_CheckStack.j0 k a b l (!t231))) false := by
        rw [hw]
        exact ev_use (a := false) (by rw [himp]; rfl) bad
      have hstk : Ev (fun k => (spec_l26Levels.f k (wrap64 (a * b)) l).bind fun bt159 => (if bt159.2 = true then ((spec_l26Cross.f k a b bt159.1).bind fun bt163 => (some (!bt163.2))) else (some false))) false := by
        rw [hw]
        exact ev_bind hlev (ev_neg (by simp) (ev_some _))
      exact ⟨([], 12), ev_use (ok_spec a b) (ev_pos hok (ev_bind hstk (ev_neg (by simp) (ev_some _)))), ev_use (ok_impl a b) (ev_pos hok (ev_bind (ev_use (ok_impl a b) (ev_pos hok hchk)) (ev_neg (by simp) (ev_some _)))), by simp⟩
  · exact ⟨([], 1), ev_use (ok_spec a b) (ev_neg hok (ev_some _)), ev_use (ok_impl a b) (ev_neg hok (ev_some _)), by simp⟩
/-! ### marks -/
def marksI (n : Nat) : List Int := (List.range n).map fun j : Nat => 1 + (j : Int)
theorem marksI_len (n : Nat) : (marksI n).length = n := by simp [marksI]
theorem mark_loop (n : Nat) (hn : n ≤ 1048576) (d : Nat) : ∀ (i : Nat) (x : List Int), i + d = n → x.length = n → (∀ j, j < i → x[j]? = some (1 + (j : Int))) → Ev (fun k => laws_markInt64S.l0 k x (1 + (i : Int)) (i : Int)) (1 + (n : Int), marksI n) := by
  induction d with
  | zero =>
    intro i x hd hx hq
    obtain rfl : i = n := by omega
    refine ev_one fun k => ?_
    simp only [laws_markInt64S.l0]
    rw [if_neg (by omega)]
    congr 2
    apply List.ext_getElem?
    intro j
    by_cases hj : j < i
    · rw [hq j hj]
      simp [marksI, hj]
    · rw [List.getElem?_eq_none (by omega), List.getElem?_eq_none (by rw [marksI_len]; omega)]
  | succ d ih =>
    intro i x hd hx hq
    refine ev_step (ih (i + 1) (x.set i (1 + (i : Int))) (by omega) (by simp [hx]) (fun j hj => ?_)) fun k => ?_
    · by_cases e : j = i
      · subst e
        rw [List.getElem?_set_self (by omega)]
      · rw [List.getElem?_set_ne (by omega)]
        exact hq j (by omega)
    · simp only [laws_markInt64S.l0]
      rw [if_pos (by omega), if_pos (by omega), w64s (show i < n by omega) (by omega), w64 (x := 1 + (i : Int) + 1) (by omega) (by omega), show 1 + (i : Int) + 1 = 1 + ((i + 1 : Nat) : Int) by omega]
      rfl
theorem mark_ints (l : List Int) (hl : l.length ≤ 1048576) : Ev (fun k => laws_markInt64S.f k l 1) (1 + (l.length : Int), marksI l.length) := by
  unfold laws_markInt64S.f
  have := mark_loop l.length hl l.length 0 l (by omega) rfl (fun j hj => by omega)
  simpa using this
theorem held_loop (n : Nat) (hn : n ≤ 1048576) (d : Nat) : ∀ i : Nat, i + d = n → Ev (fun k => laws_heldInt64S.l0 k (marksI n) (1 + (i : Int)) (i : Int)) (1 + (n : Int)) := by
  induction d with
  | zero =>
    intro i hd
    obtain rfl : i = n := by omega
    refine ev_one fun k => ?_
    simp only [laws_heldInt64S.l0]
    rw [if_neg (by rw [marksI_len]; omega)]
  | succ d ih =>
    intro i hd
    refine ev_step (ih (i + 1) (by omega)) fun k => ?_
    simp only [laws_heldInt64S.l0]
    rw [if_pos (by rw [marksI_len]; omega), if_pos (by omega), if_pos (by rw [rd_at _ i (by rw [marksI_len]; omega)]; simp [marksI]), w64s (show i < n by omega) (by omega), w64 (x := 1 + (i : Int) + 1) (by omega) (by omega), show 1 + (i : Int) + 1 = 1 + ((i + 1 : Nat) : Int) by omega]
theorem held_ints (n : Nat) (hn : n ≤ 1048576) : Ev (fun k => laws_heldInt64S.f k (marksI n) 1) (1 + (n : Int)) := by
  unfold laws_heldInt64S.f
  have := held_loop n hn n 0 (by omega)
  simpa using this
theorem FnExactStackKinds : laws_FnExactStackKinds.Pure := by
  intro a b l _ _ _ _ _
  refine Ev.rounds (g := fun k => laws_FnExactStackKinds.f k a b l) (r := true) ?_
  unfold laws_FnExactStackKinds.f
  by_cases hl : (l.length : Int) > 1048576
  · exact ev_pos hl (ev_some _)
  · have la : l.length ≤ 1048576 := by omega
    obtain ⟨r, q1, q2, hr⟩ := kinds_same a b l la
    have er := eq_self r.1 (by omega)
    have j2 : Ev (fun k => laws_FnExactStackKinds.j2 k (marksI r.1.length) (1 + (r.1.length : Int)) false) true := by
      refine ev_step (f := fun k => (laws_heldInt64S.f k (marksI r.1.length) 1).bind fun t270 => (if t270 < 0 then (some false) else (if t270 = (1 + (r.1.length : Int)) then (some true) else (some false)))) (ev_bind (held_ints _ (by omega)) (ev_neg (by omega) (ev_pos rfl (ev_some _)))) fun k => ?_
      simp only [laws_FnExactStackKinds.j2]
      rw [if_neg (by simp)]
    have j1 : Ev (fun k => laws_FnExactStackKinds.j1 k a b l r.1 r.2 r.1 false) true := by
      refine ev_step (f := fun k => (laws_markInt64S.f k r.1 1).bind fun bt259 => ((laws_heldInt64S.f k bt259.2 1).bind fun t261 => (if t261 < 0 then (some false) else (if t261 = bt259.1 then ((laws_toInt64S.f k l).bind fun t262 => ((impl_StackKinds.f k a b t262).bind fun bt265 => ((laws_eqInt64S.f k bt265.1 r.1).bind fun t269 => (if t269 = true then (laws_FnExactStackKinds.j2 k bt259.2 bt259.1 (bt265.2 != r.2)) else (laws_FnExactStackKinds.j2 k bt259.2 bt259.1 true))))) else (some false))))) (ev_bind (mark_ints r.1 (by omega)) (ev_bind (held_ints _ (by omega)) (ev_neg (by omega) (ev_pos rfl (ev_bind (to_self l la) (ev_bind q2 (ev_bind er (ev_pos rfl ?_)))))))) fun k => ?_
      · rw [show (r.2 != r.2) = false by simp]
        exact j2
      · simp only [laws_FnExactStackKinds.j1]
        rw [if_neg (by simp)]
    have j0 : Ev (fun k => laws_FnExactStackKinds.j0 k a b l r.1 r.2 l r.1 r.2 false) true := by
      refine ev_step (f := fun k => (laws_toInt64S.f k l).bind fun t252 => ((laws_eqInt64S.f k l t252).bind fun t255 => (if t255 = true then ((laws_markInt64S.f k l 1).bind fun bt256 => (if bt256.1 < 0 then (laws_FnExactStackKinds.j1 k a b l r.1 r.2 r.1 true) else ((laws_eqInt64S.f k r.1 r.1).bind fun t258 => (if t258 = true then (laws_FnExactStackKinds.j1 k a b l r.1 r.2 r.1 (r.2 != r.2)) else (laws_FnExactStackKinds.j1 k a b l r.1 r.2 r.1 true))))) else (some false)))) (ev_bind (to_self l la) (ev_bind (eq_self l la) (ev_pos rfl (ev_bind (mark_ints l la) (ev_neg (by omega) (ev_bind er (ev_pos rfl ?_))))))) fun k => ?_
      · rw [show (r.2 != r.2) = false by simp]
        exact j1
      · simp only [laws_FnExactStackKinds.j0]
        rw [if_neg (by simp)]
    refine ev_neg hl (ev_bind (to_self l la) (ev_bind q1 (ev_bind (to_self l la) (ev_bind q2 (ev_bind er (ev_pos rfl ?_))))))
    rw [show (r.2 != r.2) = false by simp]
    exact j0
end Go.Proofs.Yteadienaeapaeaa.Pure
