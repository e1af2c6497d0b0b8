/- FoldCount of the program returns what FoldCount of the reference returns and leaves its argument alone, for every list of steps; lists that the statement passes over (more than 2^20 in all) are passed over here, too. -/
import Derived.Test.YteadienaeapaeaaDoorKindsFnExactFoldCount
import Derived.Test.YteadienaeapaeaaDoorProgW
namespace Go.Proofs.YteadienaeapaeaaDoor.Pure
open Go Go.RowKit Go.Proofs.YteadienaeapaeaaDoorW.PrintWords Go.Proofs.YteadienaeapaeaaDoorW.PrintLast Go.Proofs.YteadienaeapaeaaDoorW.PrintMore Go.Proofs.YteadienaeapaeaaDoor.Base Go.Proofs.YteadienaeapaeaaDoor.ProgW Go.Proofs.YteadienaeapaeaaDoor.PW
def ones (b : List Bool) : List Int := b.map fun x => if x = true then 1 else 0
theorem sum_loop (b : List Bool) (hb : b.length ≤ 1000) (d : Nat) : ∀ (i : Nat) (a : Int), i + d = b.length → 0 ≤ a → a ≤ i → ∃ r, Ev (fun k => spec_FoldCount.l1 k (ones b) a (i : Int)) r ∧ Ev (fun k => impl_FoldCount.l1 k a b (b.length : Int) (i : Int)) r := by
  have hl : (ones b).length = b.length := by simp [ones]
  induction d with
  | zero =>
    intro i a hd h0 h1
    refine ⟨a, ev_one fun k => ?_, ev_one fun k => ?_⟩
    · simp only [spec_FoldCount.l1]
      rw [if_neg (by omega)]
    · simp only [impl_FoldCount.l1]
      rw [if_neg (by omega)]
  | succ d ih =>
    intro i a hd h0 h1
    have hi : i < b.length := by omega
    have e1 : rd (ones b) (i : Int) = if b[i] = true then 1 else 0 := by rw [rd_at _ i (by omega)]; simp [ones]
    have e2 : rdOf false b (i : Int) = b[i] := rdOf_at _ b i hi
    cases hb : b[i] with
    | true =>
      rw [hb, if_pos rfl] at e1
      obtain ⟨r, p, q⟩ := ih (i + 1) (a + 1) (by omega) (by omega) (by omega)
      refine ⟨r, ev_step p fun k => ?_, ev_step q fun k => ?_⟩
      · simp only [spec_FoldCount.l1]
        rw [if_pos (by omega), if_pos (by omega), e1, w64s hi (by omega), w64 (x := a + 1) (by omega) (by omega)]
      · simp only [impl_FoldCount.l1]
        rw [if_pos (by omega), if_pos (by omega), if_pos (by omega), e2, if_pos hb, w64s hi (by omega), w64 (x := a + 1) (by omega) (by omega)]
    | false =>
      rw [hb, if_neg (by simp)] at e1
      obtain ⟨r, p, q⟩ := ih (i + 1) a (by omega) (by omega) (by omega)
      refine ⟨r, ev_step p fun k => ?_, ev_step q fun k => ?_⟩
      · simp only [spec_FoldCount.l1]
        rw [if_pos (by omega), if_pos (by omega), e1, w64s hi (by omega), w64 (x := a + 0) (by omega) (by omega), Int.add_zero]
      · simp only [impl_FoldCount.l1]
        rw [if_pos (by omega), if_pos (by omega), if_pos (by omega), e2, if_neg (by simp [hb]), w64s hi (by omega)]
theorem ones_snoc (b : List Bool) (x : Bool) : ones (b ++ [x]) = ones b ++ [if x = true then 1 else 0] := by simp [ones]
theorem ones_take (b : List Bool) (n : Nat) : ones (b.take n) = (ones b).take n := by simp [ones, List.map_take]
theorem fold_loop (l : List S34) (hl : l.length ≤ 30) (d : Nat) : ∀ (i : Nat) (b : List Bool), i + d = l.length → b.length ≤ i →
    ∃ r, Ev (fun k => spec_FoldCount.l0 k l (ones b) (i : Int)) r ∧ Ev (fun k => impl_FoldCount.l0 k b l (l.length : Int) (i : Int)) r := by
  induction d with
  | zero =>
    intro i b hd hb
    obtain ⟨r, p, q⟩ := sum_loop b (by omega) b.length 0 0 (by omega) (by omega) (by omega)
    refine ⟨r, ev_step p fun k => ?_, ev_step q fun k => ?_⟩
    · simp only [spec_FoldCount.l0]
      rw [if_neg (by omega)]
      rfl
    · simp only [impl_FoldCount.l0]
      rw [if_neg (by omega)]
      rfl
  | succ d ih =>
    intro i b hd hb
    have hi : i < l.length := by omega
    have er := rd34 l i hi
    have hones : (ones b).length = b.length := by simp [ones]
    have hw : wrap64 ((i : Int) + 1) = ((i + 1 : Nat) : Int) := w64s hi (by omega)
    have hisF : impl_Step_isFold.f l[i].f0 l[i].f1 l[i].f2.f0 l[i].f2.f1.f0 l[i].f2.f1.f1 l[i].f2.f1.f2 l[i].f3 l[i].f4 l[i].f5 = some (decide (l[i].f0 = 1) || decide (l[i].f0 = 2)) := by
      unfold impl_Step_isFold.f
      by_cases h : l[i].f0 = 1
      · rw [if_pos h]; simp [h]
      · rw [if_neg h]; simp [h]; rfl
    by_cases hA : l[i].f0 = 1 ∨ l[i].f0 = 2
    · obtain ⟨r, p, q⟩ := ih (i + 1) (b ++ [true]) (by omega) (by simp; omega)
      rw [ones_snoc, if_pos rfl] at p
      have hF : (decide (l[i].f0 = 1) || decide (l[i].f0 = 2)) = true := by simpa using hA
      have p1 : Ev (fun k => spec_FoldCount.j1 k l (ones b) (i : Int) l[i].f0 true) r := ev_step p fun k => by
        simp only [spec_FoldCount.j1]
        rw [if_pos trivial, if_pos (by omega), hw]
      refine ⟨r, ev_step p1 fun k => ?_, ?_⟩
      · simp only [spec_FoldCount.l0]
        rw [if_pos (by omega), if_pos (by omega), er]
        rcases hA with h | h
        · rw [if_pos h, show (l[i].f0 == 1) = true by simpa using h]
        · rw [if_neg (by omega), show (l[i].f0 == 2) = true by simpa using h]
      · have q1 : Ev (fun k => impl_FoldCount.j1 k b l (l.length : Int) (i : Int) true l[i].f0 l[i].f1 l[i].f2.f0 l[i].f2.f1.f0 l[i].f2.f1.f1 l[i].f2.f1.f2 l[i].f3 l[i].f4 l[i].f5) r := ev_step q fun k => by
          simp only [impl_FoldCount.j1]
          rw [if_pos trivial, hisF, hF]
          simp only [Option.bind_some]
          rw [if_pos (by omega), hw]
        refine ev_step q1 fun k => ?_
        simp only [impl_FoldCount.l0]
        rw [if_pos (by omega), if_pos (by omega), if_pos (by omega), er, hisF, hF]
        simp only [Option.bind_some]
        rw [if_pos trivial]
    · have hF : (decide (l[i].f0 = 1) || decide (l[i].f0 = 2)) = false := by simpa using hA
      have specTo : ∀ r, Ev (fun k => spec_FoldCount.j1 k l (ones b) (i : Int) l[i].f0 false) r → Ev (fun k => spec_FoldCount.l0 k l (ones b) (i : Int)) r := fun r p => ev_step p fun k => by
        simp only [spec_FoldCount.l0]
        rw [if_pos (by omega), if_pos (by omega), er, if_neg (by omega), show (l[i].f0 == 2) = false by simp; omega]
      have implTo : ∀ r, Ev (fun k => impl_FoldCount.j1 k b l (l.length : Int) (i : Int) (l[i].f0 == 3) l[i].f0 l[i].f1 l[i].f2.f0 l[i].f2.f1.f0 l[i].f2.f1.f1 l[i].f2.f1.f2 l[i].f3 l[i].f4 l[i].f5) r → Ev (fun k => impl_FoldCount.l0 k b l (l.length : Int) (i : Int)) r := fun r q => ev_step q fun k => by
        simp only [impl_FoldCount.l0]
        rw [if_pos (by omega), if_pos (by omega), if_pos (by omega), er, hisF, hF]
        simp only [Option.bind_some]
        rw [if_neg (by simp)]
      by_cases h3 : l[i].f0 = 3
      · obtain ⟨r, p, q⟩ := ih (i + 1) (b ++ [false]) (by omega) (by simp; omega)
        rw [ones_snoc, if_neg (by simp)] at p
        refine ⟨r, specTo r (ev_step p fun k => ?_), implTo r ?_⟩
        · simp only [spec_FoldCount.j1]
          rw [if_neg (by simp), if_pos h3, if_pos (by omega), hw]
        · rw [show (l[i].f0 == 3) = true by simpa using h3]
          refine ev_step q fun k => ?_
          simp only [impl_FoldCount.j1]
          rw [if_pos trivial, hisF, hF]
          simp only [Option.bind_some]
          rw [if_pos (by omega), hw]
      · rw [show (l[i].f0 == 3) = false by simpa using h3] at implTo
        by_cases h5 : l[i].f0 = 5 ∧ 0 < b.length
        · have hw2 : wrap64 ((b.length : Int) - 1) = ((b.length - 1 : Nat) : Int) := by rw [w64 (by omega) (by omega)]; omega
          obtain ⟨r, p, q⟩ := ih (i + 1) (b.take (b.length - 1)) (by omega) (by simp; omega)
          rw [ones_take] at p
          refine ⟨r, specTo r (ev_step p fun k => ?_), implTo r ?_⟩
          · simp only [spec_FoldCount.j1]
            rw [if_neg (by simp), if_neg h3, if_pos h5.1, hones, if_pos (by omega), hw2, if_pos (by omega), if_pos (by omega), hw, Int.toNat_natCast]
          · have q2 : Ev (fun k => impl_FoldCount.j2 k b l (l.length : Int) (i : Int) true) r := ev_step q fun k => by
              simp only [impl_FoldCount.j2]
              rw [if_pos trivial, hw2, if_pos (by omega), if_pos (by omega), hw, Int.toNat_natCast]
            refine ev_step q2 fun k => ?_
            simp only [impl_FoldCount.j1]
            rw [if_neg (by simp), if_pos h5.1, show decide ((b.length : Int) > 0) = true from decide_eq_true (by omega)]
        · obtain ⟨r, p, q⟩ := ih (i + 1) b (by omega) (by omega)
          have q2 : Ev (fun k => impl_FoldCount.j2 k b l (l.length : Int) (i : Int) false) r := ev_step q fun k => by
            simp only [impl_FoldCount.j2]
            rw [if_neg (by simp), hw]
          refine ⟨r, specTo r (ev_step p fun k => ?_), implTo r (ev_step q2 fun k => ?_)⟩
          · simp only [spec_FoldCount.j1]
            rw [if_neg (by simp), if_neg h3]
            by_cases h6 : l[i].f0 = 5
            · rw [if_pos h6, hones, if_neg (by omega), hw]
            · rw [if_neg h6, hw]
          · simp only [impl_FoldCount.j1]
            rw [if_neg (by simp)]
            by_cases h6 : l[i].f0 = 5
            · rw [if_pos h6, show decide ((b.length : Int) > 0) = false from decide_eq_false (by omega)]
            · rw [if_neg h6]
theorem FnExactFoldCount : FnExactFoldCount.Stat := by
  intro l hx
  have hlen : l.length ≤ 9223372036854775807 := by have := hx.1; unfold maxLen at this; omega
  have hs : ∀ y ∈ l, y.f1.size ≤ 9223372036854775807 := fun y hy => by
    have := (hx.2 y hy).2.1
    unfold maxLen at this
    omega
  refine Ev.rounds (g := fun k => laws_FnExactFoldCount.f k l) (r := true) ?_
  unfold laws_FnExactFoldCount.f
  obtain ⟨r1, e1, s1⟩ := sz_tells l hlen hs
  refine ev_bind e1 ?_
  by_cases h1 : r1 < 0
  · exact ev_pos h1 (ev_some _)
  · have la := s1 (by omega)
    have lc : (l.map conv).length ≤ 1048576 := by simpa using la
    have hn := names_conv l hs
    have hc : ∃ r, Ev (fun k => spec_FoldCount.f k (l.map conv)) r ∧ Ev (fun k => impl_FoldCount.f k (l.map conv)) r := by
      unfold spec_FoldCount.f impl_FoldCount.f
      have hp : Ev (fun k => spec_l27Program.f k (l.map conv)) (progB (l.map conv)) := prog_spec _ lc hn
      have hq := prog_impl (l.map conv) hn
      cases hb : progB (l.map conv) with
      | false =>
        rw [hb] at hp hq
        exact ⟨-1, ev_bind hp (ev_neg (by simp) (ev_some _)), ev_bind hq (ev_neg (by simp) (ev_some _))⟩
      | true =>
        rw [hb] at hp hq
        have h30 : (l.map conv).length ≤ 30 := by
          unfold progB at hb
          simp only [Bool.and_eq_true, decide_eq_true_eq] at hb
          exact hb.2
        obtain ⟨r, p, q⟩ := fold_loop (l.map conv) h30 (l.map conv).length 0 [] (by omega) (by simp)
        exact ⟨r, ev_bind hp (ev_pos rfl p), ev_bind hq (ev_pos rfl q)⟩
    obtain ⟨r, c1, c2⟩ := hc
    exact ev_neg h1 (ev_bind (to_conv l la) (ev_bind c1 (ev_bind (to_conv l la) (ev_bind c2 (ev_pos rfl (ev_bind (to_conv l la) (ev_bind (eq_self _ lc) (ev_pos rfl (ev_some _)))))))))
end Go.Proofs.YteadienaeapaeaaDoor.Pure
