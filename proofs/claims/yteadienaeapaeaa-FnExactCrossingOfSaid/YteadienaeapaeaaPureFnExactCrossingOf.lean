/- CrossingOf of the program returns what CrossingOf of the reference returns, leaves its argument alone, and its result is memory of its own, for all numbers of rows and columns and every list of numbers; lists that the statement passes over (more than 2^20) are passed over here, too. -/
import Derived.Test.YteadienaeapaeaaMapD
import Derived.Test.YteadienaeapaeaaPDx18
namespace Go.Proofs.Yteadienaeapaeaa.Pure
open Go Go.RowKit Go.Proofs.YteadienaeapaeaaW.PrintWords Go.Proofs.YteadienaeapaeaaW.PrintLast Go.Proofs.YteadienaeapaeaaW.PrintMore Go.Proofs.Yteadienaeapaeaa.Base Go.Proofs.Yteadienaeapaeaa.MapD Go.Proofs.Yteadienaeapaeaa.PD
theorem crossing_same (a b : Int) (l : List Int) (hl : l.length ≤ 1048576) : ∃ r : List S112 × Bool, Ev (fun k => spec_CrossingOf.f k a b l) r ∧ Ev (fun k => impl_CrossingOf.f k a b l) r ∧ r.1.length ≤ 2 := by
  have bad : Ev (fun k => impl_CrossingOf.j0 k a b l true) ([], false) := ev_one fun k => by simp [impl_CrossingOf.j0]
  unfold spec_CrossingOf.f impl_CrossingOf.f impl_isStack.f
  by_cases hok : okMap a b = true
  · obtain ⟨a1, a2, b1, b2, hw, n1, n2⟩ := ok_tells hok
    have hlev := levels_eq (a * b) n1 n2 l
    have himp := impl_perm l hl (a * b)
    by_cases hp : (permB l && decide ((l.length : Int) = a * b)) = true
    · rw [if_pos hp] at hlev
      rw [hp] at himp
      simp only [Bool.and_eq_true, decide_eq_true_eq] at hp
      have hh := heights_eq l hl (permB_yes.1 hp.1)
      obtain ⟨r, c1, c2, c3⟩ := cross_eq a b hok (place l.length l l.length) (by rw [place_len]; exact hp.2)
      refine ⟨r, ev_use (ok_spec a b) (ev_pos hok ?_), ev_use (ok_impl a b) (ev_pos hok ?_), c3⟩
      · rw [hw]
        exact ev_bind hlev (ev_pos rfl (ev_bind c1 (ev_some _)))
      · rw [hw]
        refine ev_use (a := true) (by rw [himp]; rfl) ?_
        refine ev_step (f := fun k => (impl_crossing.f k a b l).bind fun bt346 => (some (bt346.1, bt346.2))) ?_ (fun k => by simp [impl_CrossingOf.j0])
        unfold impl_crossing.f
        exact ev_bind (ev_bind hh c2) (ev_some _)
    · rw [if_neg hp] at hlev
      rw [Bool.eq_false_iff.mpr hp] at himp
      refine ⟨([], false), ev_use (ok_spec a b) (ev_pos hok ?_), ev_use (ok_impl a b) (ev_pos hok ?_), by simp⟩
      · rw [hw]
        exact ev_bind hlev (ev_neg (by simp) (ev_some _))
      · rw [hw]
        exact ev_use (a := false) (by rw [himp]; rfl) bad
  · exact ⟨([], false), ev_use (ok_spec a b) (ev_neg hok (ev_some _)), ev_use (ok_impl a b) (ev_neg hok bad), by simp⟩
theorem eqp_loop (l : List S112) (hl : l.length ≤ 1000) (d : Nat) : ∀ (i : Nat), i + d = l.length → Ev (fun k => laws_eqSquarePairS.l0 k l l (i : Int)) true := by
  induction d with
  | zero =>
    intro i hd
    refine ev_one fun k => ?_
    simp only [laws_eqSquarePairS.l0]
    rw [if_neg (by omega)]
  | succ d ih =>
    intro i hd
    have hi : i < l.length := by omega
    refine ev_step (ih (i + 1) (by omega)) fun k => ?_
    simp only [laws_eqSquarePairS.l0, laws_eqSquarePair.f]
    rw [if_pos (by omega), if_pos (by omega), if_pos (by omega), if_pos trivial, if_pos trivial]
    simp only [Option.bind_some]
    rw [if_pos trivial, w64s hi (by omega)]
theorem eqp_self (l : List S112) (hl : l.length ≤ 1000) : Ev (fun k => laws_eqSquarePairS.f k l l) true := by
  unfold laws_eqSquarePairS.f
  exact ev_pos rfl (eqp_loop l hl l.length 0 (by omega))
theorem mark_loop (n : Nat) (hn : n ≤ 1048576) (d : Nat) : ∀ (i : Nat) (x : List Int), i + d = n → x.length = n → ∃ y, Ev (fun k => laws_markInt64S.l0 k x (1 + (i : Int)) (i : Int)) (1 + (n : Int), y) := by
  induction d with
  | zero =>
    intro i x hd hx
    obtain rfl : i = n := by omega
    refine ⟨x, ev_one fun k => ?_⟩
    simp only [laws_markInt64S.l0]
    rw [if_neg (by omega)]
  | succ d ih =>
    intro i x hd hx
    obtain ⟨y, h⟩ := ih (i + 1) (x.set i (1 + (i : Int))) (by omega) (by simp [hx])
    refine ⟨y, ev_step h fun k => ?_⟩
    simp only [laws_markInt64S.l0]
    rw [if_pos (by omega), if_pos (by omega), w64s (show i < n by omega) (by omega), w64 (x := 1 + (i : Int) + 1) (by omega) (by omega), show 1 + (i : Int) + 1 = 1 + ((i + 1 : Nat) : Int) by omega]
    rfl
theorem mark_ints (l : List Int) (hl : l.length ≤ 1048576) : ∃ y, Ev (fun k => laws_markInt64S.f k l 1) (1 + (l.length : Int), y) := by
  obtain ⟨y, h⟩ := mark_loop l.length hl l.length 0 l (by omega) rfl
  unfold laws_markInt64S.f
  exact ⟨y, by simpa using h⟩
def marked (i : Nat) : S112 := ⟨1 + 2 * (i : Int), 2 + 2 * (i : Int)⟩
theorem markp_loop (n : Nat) (hn : n ≤ 1000) (d : Nat) : ∀ (i : Nat) (x : List S112), i + d = n → x.length = n → (∀ j, j < i → x[j]? = some (marked j)) →
    Ev (fun k => laws_markSquarePairS.l0 k x (1 + 2 * (i : Int)) (i : Int)) (1 + 2 * (n : Int), (List.range n).map marked) := by
  induction d with
  | zero =>
    intro i x hd hx hj
    obtain rfl : i = n := by omega
    refine ev_one fun k => ?_
    simp only [laws_markSquarePairS.l0]
    rw [if_neg (by omega)]
    congr 2
    apply List.ext_getElem?
    intro j
    by_cases h : j < i
    · rw [hj j h]; simp [h]
    · rw [List.getElem?_eq_none (by omega), List.getElem?_eq_none (by simp; omega)]
  | succ d ih =>
    intro i x hd hx hj
    have hi : i < n := by omega
    refine ev_step (ih (i + 1) (x.set i (marked i)) (by omega) (by simp [hx]) (fun j hj1 => by
      rw [List.getElem?_set]
      by_cases e : i = j
      · subst e; rw [if_pos rfl, if_pos (by omega)]
      · rw [if_neg e]; exact hj j (by omega))) fun k => ?_
    have e1 : ∀ v : S112, rd_T112 (x.set i v) (i : Int) = v := fun v => by rw [rdT_at _ i (by rw [List.length_set]; omega)]; simp
    simp only [laws_markSquarePairS.l0]
    rw [if_pos (by omega), if_pos (by omega)]
    simp only [Option.bind_some, Int.toNat_natCast]
    rw [w64s hi (by omega), w64 (x := 1 + 2 * (i : Int) + 1) (by omega) (by omega), w64 (x := 1 + 2 * (i : Int) + 1 + 1) (by omega) (by omega), e1, List.set_set, show 1 + 2 * (i : Int) + 1 + 1 = 1 + 2 * ((i + 1 : Nat) : Int) by omega]
    congr 2
    simp [marked]
    omega
theorem markp (l : List S112) (hl : l.length ≤ 1000) : Ev (fun k => laws_markSquarePairS.f k l 1) (1 + 2 * (l.length : Int), (List.range l.length).map marked) := by
  have h := markp_loop l.length hl l.length 0 l (by omega) rfl (fun j hj => by omega)
  unfold laws_markSquarePairS.f
  simpa using h
theorem heldp_loop (n : Nat) (hn : n ≤ 1000) (d : Nat) : ∀ (i : Nat), i + d = n → Ev (fun k => laws_heldSquarePairS.l0 k ((List.range n).map marked) (1 + 2 * (i : Int)) (i : Int)) (1 + 2 * (n : Int)) := by
  induction d with
  | zero =>
    intro i hd
    obtain rfl : i = n := by omega
    refine ev_one fun k => ?_
    simp only [laws_heldSquarePairS.l0]
    rw [if_neg (by simp)]
  | succ d ih =>
    intro i hd
    have hi : i < n := by omega
    have hr : rd_T112 ((List.range n).map marked) (i : Int) = marked i := by
      rw [rdT_at _ i (by simp; exact hi)]; simp
    refine ev_step (ih (i + 1) (by omega)) fun k => ?_
    simp only [laws_heldSquarePairS.l0]
    rw [if_pos (by simp; omega), if_pos (by omega), hr, w64s hi (by omega), w64 (x := 1 + 2 * (i : Int) + 1) (by omega) (by omega), w64 (x := 1 + 2 * (i : Int) + 1 + 1) (by omega) (by omega), if_pos (show (marked i).f0 = 1 + 2 * (i : Int) from rfl), if_pos (show (marked i).f1 = 1 + 2 * (i : Int) + 1 by simp [marked]; omega), show 1 + 2 * (i : Int) + 1 + 1 = 1 + 2 * ((i + 1 : Nat) : Int) by omega]
theorem heldp (n : Nat) (hn : n ≤ 1000) : Ev (fun k => laws_heldSquarePairS.f k ((List.range n).map marked) 1) (1 + 2 * (n : Int)) := by
  have h := heldp_loop n hn n 0 (by omega)
  unfold laws_heldSquarePairS.f
  simpa using h
theorem FnExactCrossingOf : laws_FnExactCrossingOf.Pure := by
  intro a b l _ _ _ _ _
  refine Ev.rounds (g := fun k => laws_FnExactCrossingOf.f k a b l) (r := true) ?_
  unfold laws_FnExactCrossingOf.f
  by_cases hl : (l.length : Int) > 1048576
  · exact ev_pos hl (ev_some _)
  · have la : l.length ≤ 1048576 := by omega
    obtain ⟨r, q1, q2, q3⟩ := crossing_same a b l la
    obtain ⟨y, hy⟩ := mark_ints l la
    have hself := eqp_self r.1 (by omega)
    have hmark := markp r.1 (by omega)
    have hheld := heldp r.1.length (by omega)
    have h2 : Ev (fun k => laws_FnExactCrossingOf.j2 k ((List.range r.1.length).map marked) (1 + 2 * (r.1.length : Int)) false) true := by
      refine ev_step (f := fun k => (laws_heldSquarePairS.f k ((List.range r.1.length).map marked) 1).bind fun t393 => (if t393 < 0 then (some false) else (if t393 = 1 + 2 * (r.1.length : Int) then (some true) else (some false)))) (ev_bind hheld (ev_neg (by omega) (ev_pos rfl (ev_some _)))) fun k => by simp [laws_FnExactCrossingOf.j2]
    have h1 : Ev (fun k => laws_FnExactCrossingOf.j1 k a b l r.1 r.2 r.1 false) true := by
      refine ev_step (f := fun k => (laws_markSquarePairS.f k r.1 1).bind fun bt382 => ((laws_heldSquarePairS.f k bt382.2 1).bind fun t384 => (if t384 < 0 then (some false) else (if t384 = bt382.1 then ((laws_toInt64S.f k l).bind fun t385 => ((impl_CrossingOf.f k a b t385).bind fun bt388 => ((laws_eqSquarePairS.f k bt388.1 r.1).bind fun t392 => (if t392 = true then (laws_FnExactCrossingOf.j2 k bt382.2 bt382.1 (bt388.2 != r.2)) else (laws_FnExactCrossingOf.j2 k bt382.2 bt382.1 true))))) else (some false))))) ?_ fun k => by simp [laws_FnExactCrossingOf.j1]
      refine ev_bind hmark (ev_bind hheld (ev_neg (by omega) (ev_pos rfl (ev_bind (to_self l la) (ev_bind q2 (ev_bind hself (ev_pos rfl ?_)))))))
      rw [show (r.2 != r.2) = false by simp]
      exact h2
    refine ev_neg hl (ev_bind (to_self l la) (ev_bind q1 (ev_bind (to_self l la) (ev_bind q2 (ev_bind hself (ev_pos rfl ?_))))))
    rw [show (r.2 != r.2) = false by simp]
    refine ev_step (f := fun k => (laws_toInt64S.f k l).bind fun t375 => ((laws_eqInt64S.f k l t375).bind fun t378 => (if t378 = true then ((laws_markInt64S.f k l 1).bind fun bt379 => (if bt379.1 < 0 then (laws_FnExactCrossingOf.j1 k a b l r.1 r.2 r.1 true) else ((laws_eqSquarePairS.f k r.1 r.1).bind fun t381 => (if t381 = true then (laws_FnExactCrossingOf.j1 k a b l r.1 r.2 r.1 (r.2 != r.2)) else (laws_FnExactCrossingOf.j1 k a b l r.1 r.2 r.1 true))))) else (some false)))) ?_ fun k => by simp [laws_FnExactCrossingOf.j0]
    refine ev_bind (to_self l la) (ev_bind (eq_self l la) (ev_pos rfl (ev_bind hy (ev_neg (by simp only; omega) (ev_bind hself (ev_pos rfl ?_))))))
    rw [show (r.2 != r.2) = false by simp]
    exact h1
end Go.Proofs.Yteadienaeapaeaa.Pure
