/- StackState of the program returns what StackState of the reference returns, in memory of its own, and leaves its argument alone, for all numbers of rows and columns and every list of numbers; lists that the statement passes over (more than 2^20) are passed over here, too. -/
import Derived.Test.YteadienaeapaeaaZssMapT
namespace Go.Proofs.Yteadienaeapaeaa.Pure
open Go Go.RowKit Go.Proofs.YteadienaeapaeaaW.PrintWords Go.Proofs.YteadienaeapaeaaW.PrintLast Go.Proofs.YteadienaeapaeaaW.PrintMore Go.Proofs.Yteadienaeapaeaa.Base Go.Proofs.Yteadienaeapaeaa.MapT Go.Proofs.Yteadienaeapaeaa.PT
/-! ### squares -/
def boxT (x y dx dy : Int) : List S130 := [⟨⟨x, 0, 0⟩, ⟨y, 0, 0⟩⟩, ⟨⟨wrap64 (x + dx), 0, 0⟩, ⟨y, 0, 0⟩⟩, ⟨⟨wrap64 (x + dx), 0, 0⟩, ⟨wrap64 (y + dy), 0, 0⟩⟩, ⟨⟨x, 0, 0⟩, ⟨wrap64 (y + dy), 0, 0⟩⟩]
theorem box_spec (x y dx dy : Int) : spec_l26Box.f x y dx dy = some (boxT x y dx dy) := rfl
theorem box_impl (x y dx dy : Int) : impl_rectangle.f x y dx dy = some (boxT x y dx dy) := rfl
def motT (r c : Int) : S118 := ⟨if Int.tmod c 2 = 1 then 4 else 0, Int.tmod (wrap64 (r + c)) 2 == 1, if Int.tmod c 2 = 1 then ⟨wrap64 (c + 1), 0, 0⟩ else ⟨wrap64 (-c), 0, 0⟩, if Int.tmod r 2 = 1 then ⟨wrap64 (r + 1), 0, 0⟩ else ⟨wrap64 (-r), 0, 0⟩⟩
def tupT (m : S118) : Int × Bool × Int × Int × Int × Int × Int × Int := (m.f0, m.f1, m.f2.f0, m.f2.f1, m.f2.f2, m.f3.f0, m.f3.f1, m.f3.f2)
theorem mot_spec (r c : Int) : Ev (fun k => spec_l26Motion.f k r c) (tupT (motT r c)) := by
  refine ⟨2, fun k hk => ?_⟩
  obtain ⟨k, rfl⟩ : ∃ j, k = j + 2 := ⟨k - 2, by omega⟩
  have hx : c + r = r + c := Int.add_comm c r
  unfold spec_l26Motion.f spec_l26Num.f
  simp only [Option.bind_some, spec_l26Motion.j0, spec_l26Motion.j1, spec_l26Num.f, hx, tupT, motT]
  by_cases hc : Int.tmod c 2 = 1 <;> by_cases hr : Int.tmod r 2 = 1 <;> simp [hc, hr]
theorem mot_impl (r c : Int) : Ev (fun k => impl_squareMotion.f k r c) (tupT (motT r c)) := by
  refine ⟨1, fun k hk => ?_⟩
  obtain ⟨k, rfl⟩ : ∃ j, k = j + 1 := ⟨k - 1, by omega⟩
  unfold impl_squareMotion.f impl_whole.f
  simp only [Option.bind_some, impl_squareMotion.j0, impl_whole.f, tupT, motT]
  by_cases hc : Int.tmod c 2 = 1 <;> by_cases hr : Int.tmod r 2 = 1 <;> simp [hc, hr]
/-! ### the order of the faces -/
def sgn (x y : Int) : Int := if x < y then -1 else if x > y then 1 else 0
theorem cmp_eq (x y : Int) : cmp_Compare_int64.f x y = some (sgn x y) := by
  unfold cmp_Compare_int64.f cmp_isNaN_int64.f sgn
  simp only [Option.bind_some, bne_self_eq_false, Bool.false_eq_true, if_false]
  split
  · rfl
  · split <;> rfl
abbrev Res := List S130 × List S121 × List Int × Int
theorem row_impl (at_ : List Int) (hn : at_.length ≤ 12) (x : Int) (i : Nat) (p : List S130) (f : List S121) (res : Res) (d : Nat) : ∀ (j : Nat) (o : List Int), j + d = at_.length → o.length ≤ 500 + j →
    (∀ o2 : List Int, o2 = o ++ (at_.drop j).map (sgn x) → Ev (fun k => impl_StackState.l2 k at_ at_ (at_.length : Int) (wrap64 ((i : Int) + 1)) p f o2) res) → Ev (fun k => impl_StackState.l3 k at_ x at_ (at_.length : Int) (i : Int) at_ (at_.length : Int) (j : Int) p f o) res := by
  induction d with
  | zero =>
    intro j o hj ho e
    refine ev_step (e o (by rw [List.drop_of_length_le (by omega)]; simp)) fun k => ?_
    simp only [impl_StackState.l3]
    rw [if_neg (by omega)]
  | succ d ih =>
    intro j o hj ho e
    refine ev_step (ih (j + 1) (o ++ [sgn x (rd at_ (j : Int))]) (by omega) (by simp; omega) fun o2 h2 => e o2 ?_) fun k => ?_
    · rw [h2, List.drop_eq_getElem_cons (show j < at_.length by omega), rd_at at_ j (by omega)]
      simp only [List.map_cons, List.append_assoc, List.singleton_append]
    · simp only [impl_StackState.l3]
      rw [if_pos (by omega), if_pos (by omega), if_pos (by omega), cmp_eq]
      simp only [Option.bind_some]
      rw [if_pos (by omega), w64s (show j < at_.length by omega) (by omega)]
theorem row_spec (at_ : List Int) (hn : at_.length ≤ 12) (i : Nat) (hi : i < at_.length) (p : List S130) (f : List S121) (res : Res) (d : Nat) : ∀ (j : Nat) (o : List Int), j + d = at_.length → o.length ≤ 500 + j →
    (∀ o2 : List Int, o2 = o ++ (at_.drop j).map (sgn (rd at_ (i : Int))) → Ev (fun k => spec_StackState.l2 k at_ (wrap64 ((i : Int) + 1)) p f o2) res) → Ev (fun k => spec_StackState.l3 k at_ (i : Int) (j : Int) p f o) res := by
  induction d with
  | zero =>
    intro j o hj ho e
    refine ev_step (e o (by rw [List.drop_of_length_le (by omega)]; simp)) fun k => ?_
    simp only [spec_StackState.l3]
    rw [if_neg (by omega)]
  | succ d ih =>
    intro j o hj ho e
    have e1 := ih (j + 1) (o ++ [sgn (rd at_ (i : Int)) (rd at_ (j : Int))]) (by omega) (by simp; omega) fun o2 h2 => e o2 (by
      rw [h2, List.drop_eq_getElem_cons (show j < at_.length by omega), rd_at at_ j (by omega)]
      simp only [List.map_cons, List.append_assoc, List.singleton_append])
    have e2 : ∀ t : Int, (¬ rd at_ (i : Int) < rd at_ (j : Int) → t = sgn (rd at_ (i : Int)) (rd at_ (j : Int))) → Ev (fun k => spec_StackState.j4 k at_ (i : Int) (j : Int) t p f o) res := fun t ht => ev_step e1 fun k => by
      simp only [spec_StackState.j4]
      rw [if_pos (by omega), if_pos (by omega), if_pos (by omega), if_pos (by omega)]
      by_cases hlt : rd at_ (i : Int) < rd at_ (j : Int)
      · rw [if_pos hlt, if_pos (by omega), w64s (show j < at_.length by omega) (by omega), show sgn (rd at_ (i : Int)) (rd at_ (j : Int)) = -1 by unfold sgn; rw [if_pos hlt]]
      · rw [if_neg hlt, if_pos (by omega), w64s (show j < at_.length by omega) (by omega), ht hlt]
    by_cases hgt : rd at_ (i : Int) > rd at_ (j : Int)
    · refine ev_step (e2 1 fun h => by unfold sgn; rw [if_neg h, if_pos hgt]) fun k => ?_
      simp only [spec_StackState.l3]
      rw [if_pos (by omega), if_pos (by omega), if_pos (by omega), if_pos (by omega), if_pos hgt]
    · refine ev_step (e2 0 fun h => by unfold sgn; rw [if_neg h, if_neg hgt]) fun k => ?_
      simp only [spec_StackState.l3]
      rw [if_pos (by omega), if_pos (by omega), if_pos (by omega), if_pos (by omega), if_neg hgt]
theorem order_both (at_ : List Int) (hn : at_.length ≤ 12) (p : List S130) (f : List S121) (d : Nat) : ∀ (i : Nat) (o : List Int), i + d = at_.length → o.length ≤ 12 * i → ∃ o' : List Int, Ev (fun k => impl_StackState.l2 k at_ at_ (at_.length : Int) (i : Int) p f o) (p, f, o', 0) ∧ Ev (fun k => spec_StackState.l2 k at_ (i : Int) p f o) (p, f, o', 0) ∧ o'.length ≤ 144 := by
  induction d with
  | zero =>
    intro i o hi ho
    refine ⟨o, ev_one fun k => ?_, ev_one fun k => ?_, by omega⟩
    · simp only [impl_StackState.l2]
      rw [if_neg (by omega)]
    · simp only [spec_StackState.l2]
      rw [if_neg (by omega)]
  | succ d ih =>
    intro i o hi ho
    have hil : i < at_.length := by omega
    obtain ⟨o', h1, h2, h3⟩ := ih (i + 1) (o ++ at_.map (sgn (rd at_ (i : Int)))) (by omega) (by simp; omega)
    refine ⟨o', ev_step (row_impl at_ hn (rd at_ (i : Int)) i p f _ at_.length 0 o (by omega) (by omega) fun o2 e => ?_) fun k => ?_, ev_step (row_spec at_ hn i hil p f _ at_.length 0 o (by omega) (by omega) fun o2 e => ?_) fun k => ?_, h3⟩
    · rw [e, List.drop_zero, w64s hil (by omega)]; exact h1
    · simp only [impl_StackState.l2]
      rw [if_pos (by omega), if_pos (by omega), if_pos (by omega)]
      rfl
    · rw [e, List.drop_zero, w64s hil (by omega)]; exact h2
    · simp only [spec_StackState.l2]
      rw [if_pos (by omega)]
      rfl
/-! ### the faces -/
structure Hv (R C : Nat) (lv : List Int) : Prop where
  r12 : R ≤ 12
  c12 : C ≤ 12
  n12 : R * C ≤ 12
  len : lv.length = R * C
structure Wr (C r c : Nat) : Prop where
  w1 : wrap64 ((r : Int) * (C : Int)) = ((r * C : Nat) : Int)
  w2 : wrap64 (((r * C : Nat) : Int) + (c : Int)) = ((r * C + c : Nat) : Int)
  w3 : wrap64 ((c : Int) + 1) = ((c + 1 : Nat) : Int)
  w6 : wrap64 ((r : Int) + 1) = ((r + 1 : Nat) : Int)
theorem at_lt {R C r c : Nat} (hr : r < R) (hc : c < C) : r * C + c < R * C := by
  have := Nat.mul_le_mul_right C (show r + 1 ≤ R by omega)
  rw [Nat.add_mul] at this
  omega
theorem at_lt2 {R C r c : Nat} (hr : r < R) (hc : c < C) : c * R + r < R * C := by
  have := at_lt (R := C) (C := R) hc hr
  rw [Nat.mul_comm C R] at this
  exact this
theorem nw (n : Nat) (hn : n ≤ 1000) : wrap64 (n : Int) = (n : Int) := w64 (by omega) (by omega)
theorem wr_of {R C : Nat} {lv : List Int} (h : Hv R C lv) {r c : Nat} (hr : r < R) (hc : c < C) : Wr C r c := by
  have hi := at_lt hr hc
  have n12 := h.n12
  have c12 := h.c12
  have r12 := h.r12
  refine ⟨?_, ?_, ?_, ?_⟩
  · rw [← Int.natCast_mul]; exact nw _ (by omega)
  · rw [← Int.natCast_add]; exact nw _ (by omega)
  · exact nw (c + 1) (by omega)
  · exact nw (r + 1) (by omega)
def faceT (r c : Nat) : S121 := ⟨boxT (c : Int) (r : Int) 1 1, motT (r : Int) (c : Int)⟩
/-- A state as it is made here: short rows of short rows. -/
structure Good (p : List S130) (f : List S121) (o : List Int) : Prop where
  p4 : p.length ≤ 4
  f12 : f.length ≤ 12
  f4 : ∀ x ∈ f, x.f0.length ≤ 4
  o144 : o.length ≤ 144
def Both (R C : Nat) (lv : List Int) (p : List S130) (c r : Nat) (at_ : List Int) (f : List S121) : Prop :=
  ∃ (f' : List S121) (o' : List Int), Ev (fun k => impl_StackState.l1 k (R : Int) (C : Int) lv at_ (c : Int) (C : Int) (c : Int) (R : Int) (r : Int) p f) (p, f', o', 0) ∧ Ev (fun k => spec_StackState.l1 k (R : Int) (C : Int) lv at_ (c : Int) (r : Int) p f) (p, f', o', 0) ∧ Good p f' o'
def Both0 (R C : Nat) (lv : List Int) (p : List S130) (c : Nat) (at_ : List Int) (f : List S121) : Prop :=
  ∃ (f' : List S121) (o' : List Int), Ev (fun k => impl_StackState.l0 k (R : Int) (C : Int) lv at_ (C : Int) (c : Int) p f) (p, f', o', 0) ∧ Ev (fun k => spec_StackState.l0 k (R : Int) (C : Int) lv at_ (c : Int) p f) (p, f', o', 0) ∧ Good p f' o'
section
variable {R C : Nat} {lv : List Int} (h : Hv R C lv) {p : List S130} (hp : p.length ≤ 4)
include h hp
omit hp in
theorem cell_both {r c : Nat} (hr : r < R) (hc : c < C) (at_ : List Int) (f : List S121) (ha : at_.length ≤ 100) (hf : f.length ≤ 100) (e : Both R C lv p c (r + 1) (at_ ++ [rd lv ((r * C + c : Nat) : Int)]) (f ++ [faceT r c])) : Both R C lv p c r at_ f := by
  obtain ⟨f', o', e1, e2, hg⟩ := e
  have hi := at_lt hr hc
  have hl := h.len
  have hw := wr_of h hr hc
  refine ⟨f', o', ?_, ?_, hg⟩
  · refine ev_step (f := fun k => (impl_squareMotion.f k (r : Int) (c : Int)).bind fun bt => impl_StackState.l1 k (R : Int) (C : Int) lv (at_ ++ [rd lv ((r * C + c : Nat) : Int)]) (c : Int) (C : Int) (c : Int) (R : Int) ((r + 1 : Nat) : Int) p (f ++ [⟨boxT (c : Int) (r : Int) 1 1, ⟨bt.1, bt.2.1, ⟨bt.2.2.1, bt.2.2.2.1, bt.2.2.2.2.1⟩, ⟨bt.2.2.2.2.2.1, bt.2.2.2.2.2.2.1, bt.2.2.2.2.2.2.2⟩⟩⟩])) (ev_bind (mot_impl _ _) e1) fun k => ?_
    simp only [impl_StackState.l1]
    rw [if_pos (by omega), box_impl]
    simp only [Option.bind_some, hw.w1, hw.w2, hw.w6, if_pos (show f.length < 1599289640401 by omega), if_pos (show (0 : Int) ≤ ((r * C + c : Nat) : Int) by omega), if_pos (show ((r * C + c : Nat) : Int) < (lv.length : Int) by omega), if_pos (show at_.length < 17592186044416 by omega)]
  · refine ev_step (f := fun k => (spec_l26Motion.f k (r : Int) (c : Int)).bind fun bt => spec_StackState.l1 k (R : Int) (C : Int) lv (at_ ++ [rd lv ((r * C + c : Nat) : Int)]) (c : Int) ((r + 1 : Nat) : Int) p (f ++ [⟨boxT (c : Int) (r : Int) 1 1, ⟨bt.1, bt.2.1, ⟨bt.2.2.1, bt.2.2.2.1, bt.2.2.2.2.1⟩, ⟨bt.2.2.2.2.2.1, bt.2.2.2.2.2.2.1, bt.2.2.2.2.2.2.2⟩⟩⟩])) (ev_bind (mot_spec _ _) e2) fun k => ?_
    simp only [spec_StackState.l1]
    rw [if_pos (by omega), box_spec]
    simp only [Option.bind_some, hw.w1, hw.w2, hw.w6, if_pos (show f.length < 1599289640401 by omega), if_pos (show (0 : Int) ≤ ((r * C + c : Nat) : Int) by omega), if_pos (show ((r * C + c : Nat) : Int) < (lv.length : Int) by omega), if_pos (show at_.length < 17592186044416 by omega)]
omit hp in
theorem col_both {c : Nat} (hc : c < C) (hnext : ∀ (at_ : List Int) (f : List S121), at_.length = (c + 1) * R → f.length = (c + 1) * R → (∀ x ∈ f, x.f0.length ≤ 4) → Both0 R C lv p (c + 1) at_ f) (d : Nat) :
    ∀ (r : Nat) (at_ : List Int) (f : List S121), r + d = R → at_.length = c * R + r → f.length = c * R + r → (∀ x ∈ f, x.f0.length ≤ 4) → Both R C lv p c r at_ f := by
  induction d with
  | zero =>
    intro r at_ f hd ha hf hx
    obtain rfl : r = R := by omega
    obtain ⟨f', o', e1, e2, hg⟩ := hnext at_ f (by rw [Nat.add_mul]; omega) (by rw [Nat.add_mul]; omega) hx
    have hw : wrap64 ((c : Int) + 1) = ((c + 1 : Nat) : Int) := nw (c + 1) (by have := h.c12; omega)
    refine ⟨f', o', ev_step e1 fun k => ?_, ev_step e2 fun k => ?_, hg⟩
    · simp only [impl_StackState.l1]
      rw [if_neg (by omega), hw]
    · simp only [spec_StackState.l1]
      rw [if_neg (by omega), hw]
  | succ d ih =>
    intro r at_ f hd ha hf hx
    have hr : r < R := by omega
    have hi := at_lt2 hr hc
    have n12 := h.n12
    refine cell_both h hr hc at_ f (by omega) (by omega) (ih (r + 1) _ _ (by omega) (by simp; omega) (by simp; omega) fun x hm => ?_)
    rcases List.mem_append.1 hm with hm | hm
    · exact hx x hm
    · obtain rfl := List.mem_singleton.1 hm
      exact Nat.le_refl 4
theorem cols_both (d : Nat) : ∀ (c : Nat) (at_ : List Int) (f : List S121), c + d = C → at_.length = c * R → f.length = c * R → (∀ x ∈ f, x.f0.length ≤ 4) → Both0 R C lv p c at_ f := by
  induction d with
  | zero =>
    intro c at_ f hd ha hf hx
    obtain rfl : c = C := by omega
    have n12 := h.n12
    rw [Nat.mul_comm] at n12
    obtain ⟨o', e1, e2, ho⟩ := order_both at_ (by omega) p f at_.length 0 [] (by omega) (by simp)
    refine ⟨f, o', ev_step e1 fun k => ?_, ev_step e2 fun k => ?_, ⟨hp, by omega, hx, ho⟩⟩
    · simp only [impl_StackState.l0]
      rw [if_neg (by omega)]
      rfl
    · simp only [spec_StackState.l0]
      rw [if_neg (by omega)]
      rfl
  | succ d ih =>
    intro c at_ f hd ha hf hx
    have hc : c < C := by omega
    obtain ⟨f', o', e1, e2, hg⟩ := col_both h hc (fun at2 f2 h1 h2 h3 => ih (c + 1) at2 f2 (by omega) h1 h2 h3) R 0 at_ f (by omega) (by omega) (by omega) hx
    refine ⟨f', o', ev_step e1 fun k => ?_, ev_step e2 fun k => ?_, hg⟩
    · simp only [impl_StackState.l0]
      rw [if_pos (by omega)]
      rfl
    · simp only [spec_StackState.l0]
      rw [if_pos (by omega)]
      rfl
end
theorem state_same (a b : Int) (l : List Int) (hl : l.length ≤ 1048576) : ∃ (p : List S130) (f : List S121) (o : List Int) (c : Int), Ev (fun k => spec_StackState.f k a b l) (p, f, o, c) ∧ Ev (fun k => impl_StackState.f k a b l) (p, f, o, c) ∧ Good p f o := by
  have g0 : Good [] [] [] := ⟨by simp, by simp, by simp, by simp⟩
  unfold spec_StackState.f impl_StackState.f impl_isStack.f
  by_cases hok : okMap a b = true
  · obtain ⟨a1, a2, b1, b2, hw, n1, n2⟩ := ok_tells hok
    have hlev := levels_eq (a * b) n1 n2 l
    have himp := impl_perm l hl (a * b)
    by_cases hp : (permB l && decide ((l.length : Int) = a * b)) = true
    · rw [if_pos hp] at hlev
      rw [hp] at himp
      simp only [Bool.and_eq_true, decide_eq_true_eq] at hp
      have hper := permB_yes.1 hp.1
      have hh := heights_eq l hl hper
      have hn : (l.length : Nat) = a.toNat * b.toNat := by
        have : ((a.toNat * b.toNat : Nat) : Int) = a * b := by rw [Int.natCast_mul, Int.toNat_of_nonneg (by omega), Int.toNat_of_nonneg (by omega)]
        omega
      have hv : Hv a.toNat b.toNat (place l.length l l.length) := ⟨by omega, by omega, by omega, by rw [place_len]; exact hn⟩
      obtain ⟨f', o', e1, e2, hg⟩ := cols_both hv (p := boxT 0 0 b a) (Nat.le_refl 4) b.toNat 0 [] [] (by omega) (by simp) (by simp) (by simp)
      rw [Int.toNat_of_nonneg (show 0 ≤ a by omega), Int.toNat_of_nonneg (show 0 ≤ b by omega)] at e1 e2
      refine ⟨_, f', o', 0, ev_use (ok_spec a b) (ev_pos hok ?_), ev_use (ok_impl a b) (ev_pos hok ?_), hg⟩
      · rw [hw]
        exact ev_bind hlev (ev_pos rfl (ev_use (box_spec 0 0 b a) e2))
      · rw [hw]
        exact ev_use (a := true) (by rw [himp]; rfl) (ev_pos rfl (ev_bind hh (ev_use (box_impl 0 0 b a) e1)))
    · rw [if_neg hp] at hlev
      rw [Bool.eq_false_iff.mpr hp] at himp
      refine ⟨[], [], [], 12, ev_use (ok_spec a b) (ev_pos hok ?_), ev_use (ok_impl a b) (ev_pos hok ?_), g0⟩
      · rw [hw]
        exact ev_bind hlev (ev_neg (by simp) (ev_some _))
      · rw [hw]
        exact ev_use (a := false) (by rw [himp]; rfl) (ev_neg (by simp) (ev_some _))
  · exact ⟨[], [], [], 1, ev_use (ok_spec a b) (ev_neg hok (ev_some _)), ev_use (ok_impl a b) (ev_neg hok (ev_some _)), g0⟩
/-! ### equal states -/
theorem num_self (a b c : Int) : laws_eqNum.f a b c a b c = some true := by unfold laws_eqNum.f; simp
theorem eqP_loop (l : List S130) (hl : l.length ≤ 1000) (d : Nat) : ∀ i : Nat, i + d = l.length → Ev (fun k => laws_eqPointS.l0 k l l (i : Int)) true := by
  induction d with
  | zero =>
    intro i hd
    refine ev_one fun k => ?_
    simp only [laws_eqPointS.l0]
    rw [if_neg (by omega)]
  | succ d ih =>
    intro i hd
    refine ev_step (ih (i + 1) (by omega)) fun k => ?_
    simp only [laws_eqPointS.l0, laws_eqPoint.f, num_self, Option.bind_some]
    rw [if_pos (by omega), if_pos (by omega), if_pos (by omega), w64s (show i < l.length by omega) (by omega)]
    rfl
theorem eqP_self (l : List S130) (hl : l.length ≤ 1000) : Ev (fun k => laws_eqPointS.f k l l) true := by
  unfold laws_eqPointS.f
  exact ev_pos rfl (eqP_loop l hl l.length 0 (by omega))
theorem eqF_loop (l : List S121) (hl : l.length ≤ 1000) (h4 : ∀ x ∈ l, x.f0.length ≤ 4) (d : Nat) : ∀ i : Nat, i + d = l.length → Ev (fun k => laws_eqFaceS.l0 k l l (i : Int)) true := by
  induction d with
  | zero =>
    intro i hd
    refine ev_one fun k => ?_
    simp only [laws_eqFaceS.l0]
    rw [if_neg (by omega)]
  | succ d ih =>
    intro i hd
    have hx : (rd_T121 l (i : Int)).f0.length ≤ 4 := by
      unfold rd_T121
      rw [List.getD_eq_getElem?_getD, Int.toNat_natCast, List.getElem?_eq_getElem (show i < l.length by omega)]
      exact h4 _ (List.getElem_mem _)
    refine ev_step (f := fun k => (laws_eqPointS.f k (rd_T121 l (i : Int)).f0 (rd_T121 l (i : Int)).f0).bind fun t => (if t = true then laws_eqFaceS.l0 k l l ((i + 1 : Nat) : Int) else some false)) (ev_bind (eqP_self _ (by omega)) (ev_pos rfl (ih (i + 1) (by omega)))) fun k => ?_
    simp only [laws_eqFaceS.l0, laws_eqFace.f, laws_eqMotion.f, num_self, Option.bind_some, bne_self_eq_false, if_true, Bool.false_eq_true, if_false]
    rw [if_pos (by omega), if_pos (by omega), if_pos (by omega), w64s (show i < l.length by omega) (by omega)]
    cases laws_eqPointS.f k (rd_T121 l (i : Int)).f0 (rd_T121 l (i : Int)).f0 with
    | none => rfl
    | some t => cases t <;> rfl
theorem eqS_self {p : List S130} {f : List S121} {o : List Int} (h : Good p f o) : Ev (fun k => laws_eqState.f k p f o p f o) true := by
  have := h.p4; have := h.f12; have := h.o144
  unfold laws_eqState.f
  refine ev_bind (eqP_self p (by omega)) (ev_pos rfl (ev_bind ?_ (ev_pos rfl (ev_bind (eq_self o (by omega)) (ev_pos rfl (ev_some _))))))
  unfold laws_eqFaceS.f
  exact ev_pos rfl (eqF_loop f (by omega) h.f4 f.length 0 (by omega))
/-! ### marks -/
theorem rd130_set (x : List S130) (i : Nat) (v : S130) (hi : i < x.length) : rd_T130 (x.set i v) (i : Int) = v := by
  unfold rd_T130
  rw [List.getD_eq_getElem?_getD, Int.toNat_natCast, List.getElem?_set_self hi]; rfl
theorem upd {β : Type} (x : List S130) (i : Nat) (v : S130) (hi : i < x.length) (F : S130 → S130) (B : List S130 → Option β) : (some ((x.set i v).set ((i : Nat) : Int).toNat (F (rd_T130 (x.set i v) (i : Int))))).bind B = B (x.set i (F v)) := by
  rw [rd130_set x i v hi, Int.toNat_natCast, List.set_set]; rfl
def ptMark (a : Int) : S130 := ⟨⟨a, wrap64 (a + 1), wrap64 ((wrap64 (a + 1)) + 1)⟩, ⟨wrap64 ((wrap64 ((wrap64 (a + 1)) + 1)) + 1), wrap64 ((wrap64 ((wrap64 ((wrap64 (a + 1)) + 1)) + 1)) + 1), wrap64 ((wrap64 ((wrap64 ((wrap64 ((wrap64 (a + 1)) + 1)) + 1)) + 1)) + 1)⟩⟩
def ptNext (a : Int) : Int := wrap64 ((wrap64 ((wrap64 ((wrap64 ((wrap64 ((wrap64 (a + 1)) + 1)) + 1)) + 1)) + 1)) + 1)
theorem mark_point (k : Nat) (x : List S130) (a : Int) (i : Nat) (hi : i < x.length) : laws_markPointS.l0 (k + 1) x a (i : Int) = laws_markPointS.l0 k (x.set i (ptMark a)) (ptNext a) (wrap64 ((i : Int) + 1)) := by
  simp only [laws_markPointS.l0]
  rw [if_pos (by omega), if_pos (by omega)]
  refine (Option.bind_some _ _).trans ?_
  rw [show (x.set (i : Int).toNat (⟨⟨a, (rd_T130 x (i : Int)).f0.f1, (rd_T130 x (i : Int)).f0.f2⟩, ⟨(rd_T130 x (i : Int)).f1.f0, (rd_T130 x (i : Int)).f1.f1, (rd_T130 x (i : Int)).f1.f2⟩⟩ : S130)) = x.set i (⟨⟨a, (rd_T130 x (i : Int)).f0.f1, (rd_T130 x (i : Int)).f0.f2⟩, ⟨(rd_T130 x (i : Int)).f1.f0, (rd_T130 x (i : Int)).f1.f1, (rd_T130 x (i : Int)).f1.f2⟩⟩ : S130) by rw [Int.toNat_natCast]]
  refine (upd x i _ hi (fun s : S130 => (⟨⟨s.f0.f0, (wrap64 (a + 1)), s.f0.f2⟩, ⟨s.f1.f0, s.f1.f1, s.f1.f2⟩⟩ : S130)) _).trans ?_
  refine (upd x i _ hi (fun s : S130 => (⟨⟨s.f0.f0, s.f0.f1, (wrap64 ((wrap64 (a + 1)) + 1))⟩, ⟨s.f1.f0, s.f1.f1, s.f1.f2⟩⟩ : S130)) _).trans ?_
  refine (upd x i _ hi (fun s : S130 => (⟨⟨s.f0.f0, s.f0.f1, s.f0.f2⟩, ⟨(wrap64 ((wrap64 ((wrap64 (a + 1)) + 1)) + 1)), s.f1.f1, s.f1.f2⟩⟩ : S130)) _).trans ?_
  refine (upd x i _ hi (fun s : S130 => (⟨⟨s.f0.f0, s.f0.f1, s.f0.f2⟩, ⟨s.f1.f0, (wrap64 ((wrap64 ((wrap64 ((wrap64 (a + 1)) + 1)) + 1)) + 1)), s.f1.f2⟩⟩ : S130)) _).trans ?_
  rw [rd130_set x i _ hi, Int.toNat_natCast, List.set_set]
  rfl
theorem wr1 {a : Int} (h0 : 0 ≤ a) (h1 : a ≤ 1000000) : wrap64 (a + 1) = a + 1 := w64 (by omega) (by omega)
theorem ptNext_eq {a : Int} (h0 : 0 ≤ a) (h1 : a ≤ 100000) : ptNext a = a + 6 := by
  unfold ptNext
  rw [wr1 h0 (by omega), wr1 (a := a + 1) (by omega) (by omega), wr1 (a := a + 1 + 1) (by omega) (by omega), wr1 (a := a + 1 + 1 + 1) (by omega) (by omega), wr1 (a := a + 1 + 1 + 1 + 1) (by omega) (by omega), wr1 (a := a + 1 + 1 + 1 + 1 + 1) (by omega) (by omega)]
  omega
theorem held_point (k : Nat) (x : List S130) (a : Int) (i : Nat) (hi : i < x.length) (hx : rd_T130 x (i : Int) = ptMark a) : laws_heldPointS.l0 (k + 1) x a (i : Int) = laws_heldPointS.l0 k x (ptNext a) (wrap64 ((i : Int) + 1)) := by
  simp only [laws_heldPointS.l0]
  rw [if_pos (by omega), if_pos (by omega), hx]
  simp only [ptMark, ptNext, ↓reduceIte]
theorem rd130_of (x : List S130) (i : Nat) (v : S130) (h : x[i]? = some v) : rd_T130 x (i : Int) = v := by
  unfold rd_T130
  rw [List.getD_eq_getElem?_getD, Int.toNat_natCast, h]; rfl
theorem points_mark (d : Nat) : ∀ (i : Nat) (x : List S130) (a : Int), i + d = x.length → x.length ≤ 1000 → 0 ≤ a → a + 6 * d ≤ 100000 →
    ∃ (a' : Int) (x' : List S130), Ev (fun k => laws_markPointS.l0 k x a (i : Int)) (a', x') ∧ x'.length = x.length ∧ (∀ j, j < i → x'[j]? = x[j]?) ∧ Ev (fun k => laws_heldPointS.l0 k x' a (i : Int)) a' ∧ a ≤ a' ∧ a' ≤ a + 6 * d := by
  induction d with
  | zero =>
    intro i x a hd hx h0 h1
    refine ⟨a, x, ev_one fun k => ?_, rfl, fun _ _ => rfl, ev_one fun k => ?_, by omega, by omega⟩
    · simp only [laws_markPointS.l0]
      rw [if_neg (by omega)]
    · simp only [laws_heldPointS.l0]
      rw [if_neg (by omega)]
  | succ d ih =>
    intro i x a hd hx h0 h1
    have hi : i < x.length := by omega
    have hn := ptNext_eq h0 (by omega)
    obtain ⟨a', x', e1, hl, hk, e2, h2, h3⟩ := ih (i + 1) (x.set i (ptMark a)) (ptNext a) (by simp; omega) (by simpa using hx) (by omega) (by omega)
    have hw := w64s hi (by omega)
    rw [List.length_set] at hl
    have hxi : rd_T130 x' (i : Int) = ptMark a := rd130_of x' i _ (by rw [hk i (by omega), List.getElem?_set_self hi])
    refine ⟨a', x', ev_step e1 fun k => ?_, hl, fun j hj => by rw [hk j (by omega), List.getElem?_set_ne (by omega)], ev_step e2 fun k => ?_, by omega, by omega⟩
    · rw [mark_point k x a i hi, hw]
    · rw [held_point k x' a i (by omega) hxi, hw]
theorem points_both (x : List S130) (a : Int) (hx : x.length ≤ 4) (h0 : 0 ≤ a) (h1 : a ≤ 90000) : ∃ (a' : Int) (x' : List S130), Ev (fun k => laws_markPointS.f k x a) (a', x') ∧ Ev (fun k => laws_heldPointS.f k x' a) a' ∧ a ≤ a' ∧ a' ≤ a + 24 := by
  obtain ⟨a', x', e1, hl, _, e2, h2, h3⟩ := points_mark x.length 0 x a (by omega) (by omega) h0 (by omega)
  exact ⟨a', x', e1, e2, h2, by omega⟩
theorem faceNext_eq {a : Int} (h0 : 0 ≤ a) (h1 : a ≤ 100000) : faceNext a = a + 8 := by
  unfold faceNext
  rw [wr1 h0 (by omega), wr1 (a := a + 1) (by omega) (by omega), wr1 (a := a + 1 + 1) (by omega) (by omega), wr1 (a := a + 1 + 1 + 1) (by omega) (by omega), wr1 (a := a + 1 + 1 + 1 + 1) (by omega) (by omega), wr1 (a := a + 1 + 1 + 1 + 1 + 1) (by omega) (by omega), wr1 (a := a + 1 + 1 + 1 + 1 + 1 + 1) (by omega) (by omega), wr1 (a := a + 1 + 1 + 1 + 1 + 1 + 1 + 1) (by omega) (by omega)]
  omega
theorem rd121_of (x : List S121) (i : Nat) (v : S121) (h : x[i]? = some v) : rd_T121 x (i : Int) = v := by
  unfold rd_T121
  rw [List.getD_eq_getElem?_getD, Int.toNat_natCast, h]; rfl
theorem faces_mark (d : Nat) : ∀ (i : Nat) (x : List S121) (a : Int), i + d = x.length → x.length ≤ 1000 → (∀ j v, i ≤ j → x[j]? = some v → v.f0.length ≤ 4) → 0 ≤ a → a + 32 * d ≤ 90000 →
    ∃ (a' : Int) (x' : List S121), Ev (fun k => laws_markFaceS.l0 k x a (i : Int)) (a', x') ∧ x'.length = x.length ∧ (∀ j, j < i → x'[j]? = x[j]?) ∧ Ev (fun k => laws_heldFaceS.l0 k x' a (i : Int)) a' ∧ a ≤ a' ∧ a' ≤ a + 32 * d := by
  induction d with
  | zero =>
    intro i x a hd hx _ h0 h1
    refine ⟨a, x, ev_one fun k => ?_, rfl, fun _ _ => rfl, ev_one fun k => ?_, by omega, by omega⟩
    · simp only [laws_markFaceS.l0]
      rw [if_neg (by omega)]
    · simp only [laws_heldFaceS.l0]
      rw [if_neg (by omega)]
  | succ d ih =>
    intro i x a hd hx h4 h0 h1
    have hi : i < x.length := by omega
    have hxi : rd_T121 x (i : Int) = x[i] := rd121_of x i _ (List.getElem?_eq_getElem hi)
    have hp4 := h4 i _ (Nat.le_refl _) (List.getElem?_eq_getElem hi)
    obtain ⟨t, q, p1, p2, p3, p4⟩ := points_both x[i].f0 a hp4 h0 (by omega)
    have hn := faceNext_eq (a := t) (by omega) (by omega)
    obtain ⟨a', x', e1, hl, hk, e2, h2, h3⟩ := ih (i + 1) (x.set i ⟨q, faceMark t⟩) (faceNext t) (by simp; omega) (by simpa using hx) (fun j v hj hv => h4 j v (by omega) (by rw [List.getElem?_set_ne (by omega)] at hv; exact hv)) (by omega) (by omega)
    have hw := w64s hi (by omega)
    rw [List.length_set] at hl
    have hxi' : rd_T121 x' (i : Int) = ⟨q, faceMark t⟩ := rd121_of x' i _ (by rw [hk i (by omega), List.getElem?_set_self hi])
    refine ⟨a', x', ?_, hl, fun j hj => by rw [hk j (by omega), List.getElem?_set_ne (by omega)], ?_, by omega, by omega⟩
    · refine ev_step (f := fun k => (laws_markPointS.f k x[i].f0 a).bind fun bt => laws_markFaceS.l0 k (x.set i ⟨bt.2, faceMark bt.1⟩) (faceNext bt.1) ((i + 1 : Nat) : Int)) (ev_bind p1 e1) fun k => ?_
      simp only [laws_markFaceS.l0]
      rw [if_pos (by omega), if_pos (by omega), hxi, hw, Int.toNat_natCast]
    · have key : ∀ k, laws_heldPointS.f k q a = some t → laws_heldFaceS.l0 (k + 1) x' a (i : Int) = laws_heldFaceS.l0 k x' (faceNext t) ((i + 1 : Nat) : Int) := by
        intro k hk
        simp only [laws_heldFaceS.l0]
        rw [if_pos (by omega), if_pos (by omega), hxi', hw]
        refine (congrArg (fun z => Option.bind z _) hk).trans ?_
        refine (Option.bind_some _ _).trans ?_
        rw [if_neg (by omega)]
        simp only [faceMark, faceNext, ↓reduceIte, bne_self_eq_false, Bool.false_eq_true]
      obtain ⟨K1, p2⟩ := p2
      obtain ⟨K2, e2⟩ := e2
      refine ⟨max K1 K2 + 1, fun k hk => ?_⟩
      obtain ⟨k, rfl⟩ : ∃ m, k = m + 1 := ⟨k - 1, by omega⟩
      exact (key k (p2 k (by omega))).trans (e2 k (by omega))
theorem ints_mark (d : Nat) : ∀ (i : Nat) (x : List Int) (a : Int), i + d = x.length → x.length ≤ 2000000 → 0 ≤ a → a + d ≤ 3000000 →
    ∃ (a' : Int) (x' : List Int), Ev (fun k => laws_markInt64S.l0 k x a (i : Int)) (a', x') ∧ x'.length = x.length ∧ (∀ j, j < i → x'[j]? = x[j]?) ∧ Ev (fun k => laws_heldInt64S.l0 k x' a (i : Int)) a' ∧ a ≤ a' := by
  induction d with
  | zero =>
    intro i x a hd hx h0 h1
    refine ⟨a, x, ev_one fun k => ?_, rfl, fun _ _ => rfl, ev_one fun k => ?_, by omega⟩
    · simp only [laws_markInt64S.l0]
      rw [if_neg (by omega)]
    · simp only [laws_heldInt64S.l0]
      rw [if_neg (by omega)]
  | succ d ih =>
    intro i x a hd hx h0 h1
    have hi : i < x.length := by omega
    have hn : wrap64 (a + 1) = a + 1 := w64 (by omega) (by omega)
    obtain ⟨a', x', e1, hl, hk, e2, h2⟩ := ih (i + 1) (x.set i a) (a + 1) (by simp; omega) (by simpa using hx) (by omega) (by omega)
    have hw := w64s hi (by omega)
    rw [List.length_set] at hl
    have hxi : rd x' (i : Int) = a := by
      have := hk i (by omega)
      rw [List.getElem?_set_self hi] at this
      unfold rd
      rw [List.getD_eq_getElem?_getD, Int.toNat_natCast, this]; rfl
    refine ⟨a', x', ev_step e1 fun k => ?_, hl, fun j hj => by rw [hk j (by omega), List.getElem?_set_ne (by omega)], ev_step e2 fun k => ?_, by omega⟩
    · simp only [laws_markInt64S.l0]
      rw [if_pos (by omega), if_pos (by omega), hn, hw]
      rfl
    · simp only [laws_heldInt64S.l0]
      rw [if_pos (by omega), if_pos (by omega), hxi, if_pos rfl, hn, hw]
theorem FnExactStackState : laws_FnExactStackState.Pure := by
  intro a b l _ _ _ _ _
  by_cases hl : (l.length : Int) > 1048576
  · exact .inl hl
  · have la : l.length ≤ 1048576 := by omega
    obtain ⟨p, f, o, c, s2, s3, hg⟩ := state_same a b l la
    have s4 := eqS_self hg
    have h4 := hg.p4; have h12 := hg.f12; have h144 := hg.o144
    obtain ⟨m, l2', q6, _, _, _, hm⟩ := ints_mark l.length 0 l 1 (by omega) (by omega) (by omega) (by omega)
    obtain ⟨t1, p', q7, q71, ht1, ht1'⟩ := points_both p 1 h4 (by omega) (by omega)
    obtain ⟨t2, f', q8, _, _, q81, ht2, ht2'⟩ := faces_mark f.length 0 f t1 (by omega) (by omega) (fun j v _ hv => hg.f4 v (List.mem_of_getElem? hv)) (by omega) (by omega)
    obtain ⟨t3, o', q9, _, _, q91, ht3⟩ := ints_mark o.length 0 o t2 (by omega) (by omega) (by omega) (by omega)
    have s7 : Ev (fun k => laws_markState.f k p f o 1) (t3, p', f', o') := by
      unfold laws_markState.f
      exact ev_bind q7 (ev_bind (by unfold laws_markFaceS.f; exact q8) (ev_bind (by unfold laws_markInt64S.f; exact q9) (ev_some _)))
    have s8 : Ev (fun k => laws_heldState.f k p' f' o' 1) t3 := by
      unfold laws_heldState.f
      exact ev_bind q71 (ev_neg (by omega) (ev_bind (by unfold laws_heldFaceS.f; exact q81) (ev_neg (by omega) (ev_bind (by unfold laws_heldInt64S.f; exact q91) (ev_neg (by omega) (ev_some _))))))
    have s6 : Ev (fun k => laws_markInt64S.f k l 1) (m, l2') := by unfold laws_markInt64S.f; exact q6
    obtain ⟨K1, s1⟩ := to_self l la
    obtain ⟨K2, s2⟩ := s2
    obtain ⟨K3, s3⟩ := s3
    obtain ⟨K4, s4⟩ := s4
    obtain ⟨K5, s5⟩ := eq_self l la
    obtain ⟨K6, s6⟩ := s6
    obtain ⟨K7, s7⟩ := s7
    obtain ⟨K8, s8⟩ := s8
    exact .inr ⟨K1 + K2 + K3 + K4 + K5 + K6 + K7 + K8, p, p', f, f', o, o', l2', c, m, t3, s1 _ (by omega), s2 _ (by omega), s3 _ (by omega), s4 _ (by omega), s5 _ (by omega), s6 _ (by omega), by omega, s7 _ (by omega), by omega, s8 _ (by omega)⟩
end Go.Proofs.Yteadienaeapaeaa.Pure
