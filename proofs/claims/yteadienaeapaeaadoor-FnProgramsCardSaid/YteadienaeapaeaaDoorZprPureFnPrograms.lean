/- The steps of a program that is continued keep their names; a further fold is counted, and taking it back restores the count: for every two texts of bytes out of which the reference draws programs. -/
import Derived.Test.YteadienaeapaeaaDoorZprKindsFnPrograms
import Derived.Test.YteadienaeapaeaaDoorZprMarksW
import Derived.Test.YteadienaeapaeaaDoorZprProgDrawW
namespace Go.Proofs.YteadienaeapaeaaDoor.Pure
open Go Go.RowKit Go.Proofs.YteadienaeapaeaaDoorW.PrintWords Go.Proofs.YteadienaeapaeaaDoorW.PrintLast Go.Proofs.YteadienaeapaeaaDoorW.PrintMore Go.Proofs.YteadienaeapaeaaDoor.Base Go.Proofs.YteadienaeapaeaaDoor.Loop Go.Proofs.YteadienaeapaeaaDoor.StepW Go.Proofs.YteadienaeapaeaaDoor.NameW Go.Proofs.YteadienaeapaeaaDoor.ProgW Go.Proofs.YteadienaeapaeaaDoor.MarksW Go.Proofs.YteadienaeapaeaaDoor.DrawW Go.Proofs.YteadienaeapaeaaDoor.ProgDrawW Go.Proofs.YteadienaeapaeaaDoor.PW
/-! ### counting folds -/
def cnt (b : List Bool) : Int := ((b.count true : Nat) : Int)
def stackS (b : List Bool) (y : S34) : List Bool := if y.f0 = 1 ∨ y.f0 = 2 then b ++ [true] else if y.f0 = 3 then b ++ [false] else if y.f0 = 5 then b.take (b.length - 1) else b
theorem cnt_cons (x : Bool) (b : List Bool) : cnt (x :: b) = cnt b + (if x = true then 1 else 0) := by
  unfold cnt
  cases x <;> simp
theorem sum_impl (b : List Bool) (hb : b.length ≤ 1000) (d : Nat) : ∀ (i : Nat) (a : Int), i + d = b.length → 0 ≤ a → a ≤ i → Ev (fun k => impl_FoldCount.l1 k a b (b.length : Int) (i : Int)) (a + cnt (b.drop i)) := by
  induction d with
  | zero =>
    intro i a hd h0 h1
    rw [List.drop_of_length_le (by omega), show a + cnt [] = a by simp [cnt]]
    refine ev_one fun k => ?_
    simp only [impl_FoldCount.l1]
    rw [if_neg (by omega)]
  | succ d ih =>
    intro i a hd h0 h1
    have hi : i < b.length := by omega
    have e2 : rdOf false b (i : Int) = b[i] := rdOf_at _ b i hi
    rw [List.drop_eq_getElem_cons hi, cnt_cons]
    cases hb : b[i] with
    | true =>
      have := ih (i + 1) (a + 1) (by omega) (by omega) (by omega)
      rw [if_pos rfl, show a + (cnt (b.drop (i + 1)) + 1) = a + 1 + cnt (b.drop (i + 1)) by omega]
      refine ev_step this fun k => ?_
      simp only [impl_FoldCount.l1]
      rw [if_pos (by omega), if_pos (by omega), if_pos (by omega), e2, if_pos hb, w64s hi (by omega), w64 (x := a + 1) (by omega) (by omega)]
    | false =>
      have := ih (i + 1) a (by omega) (by omega) (by omega)
      rw [if_neg (by simp), Int.add_zero]
      refine ev_step this fun k => ?_
      simp only [impl_FoldCount.l1]
      rw [if_pos (by omega), if_pos (by omega), if_pos (by omega), e2, if_neg (by simp [hb]), w64s hi (by omega)]
theorem stack_len (b : List Bool) (y : S34) : (stackS b y).length ≤ b.length + 1 := by
  unfold stackS
  split
  · simp
  · split
    · simp
    · split
      · simp; omega
      · omega
theorem fold_impl (l : List S34) (hl : l.length ≤ 30) (d : Nat) : ∀ (i : Nat) (b : List Bool), i + d = l.length → b.length ≤ i → Ev (fun k => impl_FoldCount.l0 k b l (l.length : Int) (i : Int)) (cnt ((l.drop i).foldl stackS b)) := by
  induction d with
  | zero =>
    intro i b hd hb
    have := sum_impl b (by omega) b.length 0 0 (by omega) (by omega) (by omega)
    rw [List.drop_zero, Int.zero_add] at this
    rw [List.drop_of_length_le (by omega), List.foldl_nil]
    refine ev_step this fun k => ?_
    simp only [impl_FoldCount.l0]
    rw [if_neg (by omega)]
    rfl
  | succ d ih =>
    intro i b hd hb
    have hi : i < l.length := by omega
    have er := rd34 l i hi
    have hw : wrap64 ((i : Int) + 1) = ((i + 1 : Nat) : Int) := w64s hi (by omega)
    have hisF := fold_eq l[i]
    have hlen := stack_len b l[i]
    have q := ih (i + 1) (stackS b l[i]) (by omega) (by omega)
    rw [List.drop_eq_getElem_cons hi, List.foldl_cons]
    generalize hR : cnt ((l.drop (i + 1)).foldl stackS (stackS b l[i])) = R at q
    by_cases hA : l[i].f0 = 1 ∨ l[i].f0 = 2
    · have hF : (decide (l[i].f0 = 1) || decide (l[i].f0 = 2)) = true := by simpa using hA
      rw [show stackS b l[i] = b ++ [true] by unfold stackS; rw [if_pos hA]] at q
      have q1 : Ev (fun k => impl_FoldCount.j1 k b l (l.length : Int) (i : Int) true l[i].f0 l[i].f1 l[i].f2.f0 l[i].f2.f1.f0 l[i].f2.f1.f1 l[i].f2.f1.f2 l[i].f3 l[i].f4 l[i].f5) R := ev_step q fun k => by
        simp only [impl_FoldCount.j1]
        rw [if_pos trivial, hisF, hF]
        simp only [Option.bind_some]
        rw [if_pos (by omega), hw]
      refine ev_step q1 fun k => ?_
      simp only [impl_FoldCount.l0]
      rw [if_pos (by omega), if_pos (by omega), if_pos (by omega), er, hisF, hF]
      simp only [Option.bind_some]
      rw [if_pos trivial]
    · have hF : (decide (l[i].f0 = 1) || decide (l[i].f0 = 2)) = false := by simpa using hA
      have implTo : Ev (fun k => impl_FoldCount.j1 k b l (l.length : Int) (i : Int) (l[i].f0 == 3) l[i].f0 l[i].f1 l[i].f2.f0 l[i].f2.f1.f0 l[i].f2.f1.f1 l[i].f2.f1.f2 l[i].f3 l[i].f4 l[i].f5) R → Ev (fun k => impl_FoldCount.l0 k b l (l.length : Int) (i : Int)) R := fun q => ev_step q fun k => by
        simp only [impl_FoldCount.l0]
        rw [if_pos (by omega), if_pos (by omega), if_pos (by omega), er, hisF, hF]
        simp only [Option.bind_some]
        rw [if_neg (by simp)]
      refine implTo ?_
      by_cases h3 : l[i].f0 = 3
      · rw [show stackS b l[i] = b ++ [false] by unfold stackS; rw [if_neg hA, if_pos h3]] at q
        rw [show (l[i].f0 == 3) = true by simpa using h3]
        refine ev_step q fun k => ?_
        simp only [impl_FoldCount.j1]
        rw [if_pos trivial, hisF, hF]
        simp only [Option.bind_some]
        rw [if_pos (by omega), hw]
      · rw [show (l[i].f0 == 3) = false by simpa using h3]
        by_cases h5 : l[i].f0 = 5 ∧ 0 < b.length
        · have hw2 : wrap64 ((b.length : Int) - 1) = ((b.length - 1 : Nat) : Int) := by rw [w64 (by omega) (by omega)]; omega
          rw [show stackS b l[i] = b.take (b.length - 1) by unfold stackS; rw [if_neg hA, if_neg h3, if_pos h5.1]] at q
          have q2 : Ev (fun k => impl_FoldCount.j2 k b l (l.length : Int) (i : Int) true) R := ev_step q fun k => by
            simp only [impl_FoldCount.j2]
            rw [if_pos trivial, hw2, if_pos (by omega), if_pos (by omega), hw, Int.toNat_natCast]
          refine ev_step q2 fun k => ?_
          simp only [impl_FoldCount.j1]
          rw [if_neg (by simp), if_pos h5.1, show decide ((b.length : Int) > 0) = true from decide_eq_true (by omega)]
        · have hsame : stackS b l[i] = b := by
            unfold stackS
            rw [if_neg hA, if_neg h3]
            by_cases h6 : l[i].f0 = 5
            · have h7 : b.length = 0 := by omega
              rw [if_pos h6, List.length_eq_zero_iff.mp h7]
              rfl
            · rw [if_neg h6]
          rw [hsame] at q
          have q2 : Ev (fun k => impl_FoldCount.j2 k b l (l.length : Int) (i : Int) false) R := ev_step q fun k => by
            simp only [impl_FoldCount.j2]
            rw [if_neg (by simp), hw]
          refine ev_step q2 fun k => ?_
          simp only [impl_FoldCount.j1]
          rw [if_neg (by simp)]
          by_cases h6 : l[i].f0 = 5
          · rw [if_pos h6, show decide ((b.length : Int) > 0) = false from decide_eq_false (by omega)]
          · rw [if_neg h6]
theorem count_impl (l : List S34) (hp : progB l = true) (hn : Names l) : Ev (fun k => impl_FoldCount.f k l) (cnt (l.foldl stackS [])) := by
  unfold impl_FoldCount.f
  have hq := prog_impl l hn
  rw [hp] at hq
  have := fold_impl l (prog_len hp) l.length 0 [] (by omega) (by simp)
  rw [List.drop_zero] at this
  exact ev_bind hq (ev_pos rfl this)
/-! ### the first step with a name that is not known -/
def Bad (l : List S34) (j : Nat) : Prop := ∃ y, l[j]? = some y ∧ (y.f0 = 1 ∨ y.f0 = 2) ∧ y.f1.toList ≠ [] ∧ ¬ ∃ z ∈ l.take j, z.f0 = 4 ∧ z.f1 = y.f1
theorem bad_append (p q : List S34) (j : Nat) (h : j < p.length) : Bad (p ++ q) j ↔ Bad p j := by
  unfold Bad
  rw [List.getElem?_append_left h, List.take_append_of_le_length (by omega)]
theorem namesEnd_short (xs : List ByteArray) : (namesEnd xs).length ≤ xs.length := by
  unfold namesEnd
  rw [List.length_map]
  refine Nat.le_trans (Go.Lib.compact_length_le _) ?_
  rw [List.length_mergeSort, List.length_map]
  exact Nat.le_refl _
theorem namesL_short (l : List S34) : (namesL l).length ≤ l.length := by
  unfold namesL
  rw [List.length_map]
  exact List.length_filter_le _ _
def FirstAt (l : List S34) (i : Nat) (r : Int) : Prop := (r = -1 ∧ ∀ j, i ≤ j → ¬ Bad l j) ∨ ∃ j : Nat, r = (j : Int) ∧ i ≤ j ∧ j < l.length ∧ Bad l j ∧ ∀ j', i ≤ j' → j' < j → ¬ Bad l j'
theorem first_impl (l : List S34) (hp : progB l = true) (hn : Names l) (d : Nat) : ∀ i : Nat, i + d = l.length → ∃ r, Ev (fun k => impl_FirstUnnamed.l0 k l l (l.length : Int) (i : Int)) r ∧ FirstAt l i r := by
  have h30 := prog_len hp
  induction d with
  | zero =>
    intro i hd
    refine ⟨-1, ev_one fun k => ?_, Or.inl ⟨rfl, fun j hj => ?_⟩⟩
    · simp only [impl_FirstUnnamed.l0]
      rw [if_neg (by omega)]
    · rintro ⟨y, hy, _⟩
      rw [List.getElem?_eq_none (by omega)] at hy
      cases hy
  | succ d ih =>
    intro i hd
    have hi : i < l.length := by omega
    obtain ⟨r, e2, hr⟩ := ih (i + 1) (by omega)
    have hw : wrap64 ((i : Int) + 1) = ((i + 1 : Nat) : Int) := w64s hi (by omega)
    have er := rd34 l i hi
    have hok := prog_ok hp _ (List.getElem_mem hi)
    have later : ¬ Bad l i → FirstAt l i r := fun hb => by
      rcases hr with ⟨h1, h2⟩ | ⟨j, h1, h2, h3, h4, h5⟩
      · exact Or.inl ⟨h1, fun j hj => by
          by_cases e : j = i
          · subst e; exact hb
          · exact h2 j (by omega)⟩
      · exact Or.inr ⟨j, h1, by omega, h3, h4, fun j' hj1 hj2 => by
          by_cases e : j' = i
          · subst e; exact hb
          · exact h5 j' (by omega) hj2⟩
    have implNext : Ev (fun k => impl_FirstUnnamed.j1 k l (i : Int) l (l.length : Int) (i : Int) false) r := ev_step e2 fun k => by
      simp only [impl_FirstUnnamed.j1]
      rw [if_neg (by simp), hw]
    have unf : ∀ k, impl_FirstUnnamed.l0 (k + 1) l l (l.length : Int) (i : Int) = if (decide (l[i].f0 = 1) || decide (l[i].f0 = 2)) = true then (if l[i].f1.toList = ([] : List UInt8) then (impl_FirstUnnamed.j1 k l (i : Int) l (l.length : Int) (i : Int) false) else ((impl_NamesOf.f k (l.take i)).bind fun t243 => ((slices_Contains_string_string.f k t243 l[i].f1).bind fun t246 => (impl_FirstUnnamed.j1 k l (i : Int) l (l.length : Int) (i : Int) (!t246))))) else (impl_FirstUnnamed.j1 k l (i : Int) l (l.length : Int) (i : Int) false) := fun k => by
      simp only [impl_FirstUnnamed.l0]
      rw [if_pos (by omega), if_pos (by omega), if_pos (by omega), er, fold_eq, if_pos (show (i : Int) ≤ (l.length : Int) by omega)]
      rfl
    have hget : l[i]? = some l[i] := List.getElem?_eq_getElem hi
    by_cases hf : (decide (l[i].f0 = 1) || decide (l[i].f0 = 2)) = true
    · by_cases h0 : l[i].f1.toList = []
      · refine ⟨r, ev_step implNext fun k => ?_, later ?_⟩
        · rw [unf, if_pos hf, if_pos h0]
        · rintro ⟨y, hy, _, h2, _⟩
          rw [hget] at hy
          obtain rfl := Option.some.inj hy
          exact h2 h0
      · have hNames := names_impl (l.take i) (names_of_take hn i)
        rw [if_pos (prog_take hp i)] at hNames
        obtain ⟨t, c1, c2⟩ := contains_tells (namesEnd (namesL (l.take i))) (by have h1 := namesEnd_short (namesL (l.take i)); have h2 := namesL_short (l.take i); simp at h2; omega) l[i].f1
        rw [namesEnd_mem, namesL_mem] at c2
        have goS : ∀ s, Ev (fun k => impl_FirstUnnamed.j1 k l (i : Int) l (l.length : Int) (i : Int) (!t)) s → Ev (fun k => impl_FirstUnnamed.l0 k l l (l.length : Int) (i : Int)) s := fun s h => by
          refine ev_step (f := fun k => (impl_NamesOf.f k (l.take i)).bind fun t243 => ((slices_Contains_string_string.f k t243 l[i].f1).bind fun t246 => (impl_FirstUnnamed.j1 k l (i : Int) l (l.length : Int) (i : Int) (!t246)))) (ev_bind hNames (ev_bind c1 h)) fun k => ?_
          rw [unf, if_pos hf, if_neg h0]
        cases t with
        | true =>
          refine ⟨r, goS r implNext, later ?_⟩
          rintro ⟨y, hy, _, _, h3⟩
          rw [hget] at hy
          obtain rfl := Option.some.inj hy
          exact h3 (c2.mp rfl)
        | false =>
          refine ⟨(i : Int), goS _ (ev_one fun k => ?_), Or.inr ⟨i, rfl, Nat.le_refl _, hi, ⟨l[i], hget, by simpa using hf, h0, fun h => by have := c2.mpr h; cases this⟩, fun j' h1 h2 => by omega⟩⟩
          simp only [impl_FirstUnnamed.j1]
          rw [if_pos (by simp)]
    · refine ⟨r, ev_step implNext fun k => ?_, later ?_⟩
      · rw [unf, if_neg hf]
      · rintro ⟨y, hy, h1, _, _⟩
        rw [hget] at hy
        obtain rfl := Option.some.inj hy
        exact hf (by simpa using h1)
theorem first_tells (l : List S34) (hp : progB l = true) (hn : Names l) : ∃ r, Ev (fun k => impl_FirstUnnamed.f k l) r ∧ FirstAt l 0 r := by
  unfold impl_FirstUnnamed.f
  have hq := prog_impl l hn
  rw [hp] at hq
  obtain ⟨r, e, h⟩ := first_impl l hp hn l.length 0 (by omega)
  exact ⟨r, ev_bind hq (ev_pos rfl e), h⟩
theorem first_same {p q : List S34} {r s : Int} (h : FirstAt p 0 r) (g : FirstAt (p ++ q) 0 s) (hr : ¬ r < 0) : s = r := by
  rcases h with ⟨h1, _⟩ | ⟨j, h1, h2, h3, h4, h5⟩
  · omega
  · have hb := (bad_append p q j h3).mpr h4
    rcases g with ⟨g1, g2⟩ | ⟨i, g1, g2, g3, g4, g5⟩
    · exact absurd hb (g2 j (by omega))
    · rcases Nat.lt_trichotomy i j with e | e | e
      · exact absurd ((bad_append p q i (by omega)).mp g4) (h5 i (by omega) e)
      · rw [g1, h1, e]
      · exact absurd hb (g5 j (by omega) e)
/-! ### the law -/
theorem known_rounds (p both : List S34) (ns fs : List ByteArray) (hl : ns.length ≤ 1000) (i : Nat) (hi : i < fs.length) (hfs : fs.length ≤ 1000) (r : Bool) (hT : Ev (fun k => laws_FnPrograms.l0 k p both ns fs ((i + 1 : Nat) : Int)) r) (d : Nat) :
    ∀ (j : Nat) (b : Bool), j + d = ns.length → (b = true ∨ fs[i] ∈ ns.drop j) → Ev (fun k => laws_FnPrograms.l1 k p both ns fs (i : Int) b (j : Int)) r := by
  induction d with
  | zero =>
    intro j b hd hb
    rw [List.drop_of_length_le (by omega)] at hb
    have hb' : b = true := hb.resolve_right (by simp)
    subst hb'
    refine ev_step hT fun k => ?_
    simp only [laws_FnPrograms.l1]
    rw [if_neg (by omega), if_pos trivial, w64s hi (by omega)]
  | succ d ih =>
    intro j b hd hb
    have hj : j < ns.length := by omega
    cases b with
    | true =>
      refine ev_step (ih (j + 1) true (by omega) (Or.inl rfl)) fun k => ?_
      simp only [laws_FnPrograms.l1]
      rw [if_pos (by omega), if_pos trivial, w64s hj (by omega)]
    | false =>
      have hm := hb.resolve_left (by simp)
      rw [List.drop_eq_getElem_cons hj, List.mem_cons] at hm
      refine ev_step (ih (j + 1) (ns[j].toList == fs[i].toList) (by omega) ?_) fun k => ?_
      · rcases hm with h | h
        · left; rw [h]; simp
        · right; exact h
      · simp only [laws_FnPrograms.l1]
        rw [if_pos (by omega), if_neg (by simp), if_pos (by omega), if_pos (by omega), if_pos (by omega), w64s hj (by omega), rdOf_at _ ns j hj, rdOf_at _ fs i hi]
theorem all_rounds (p q : List S34) (hp : progB p = true) (hb : progB (p ++ q) = true) (np : Names p) (nb : Names (p ++ q)) (ns fs : List ByteArray) (hl : ns.length ≤ 1000) (hfs : fs.length ≤ 1000) (hk : ∀ x ∈ fs, x ∈ ns) (d : Nat) :
    ∀ i : Nat, i + d = fs.length → Ev (fun k => laws_FnPrograms.l0 k p (p ++ q) ns fs (i : Int)) true := by
  induction d with
  | zero =>
    intro i hd
    obtain ⟨r, e1, h1⟩ := first_tells p hp np
    obtain ⟨s, e2, h2⟩ := first_tells (p ++ q) hb nb
    refine ev_step (f := fun k => (impl_FirstUnnamed.f k p).bind fun t519 => (if t519 < 0 then (some true) else ((impl_FirstUnnamed.f k (p ++ q)).bind fun t520 => (some (t520 == t519))))) (ev_bind e1 ?_) fun k => ?_
    · by_cases hr : r < 0
      · exact ev_pos hr (ev_some _)
      · refine ev_neg hr (ev_bind e2 ?_)
        rw [first_same h1 h2 hr]
        simpa using ev_some true
    · simp only [laws_FnPrograms.l0]
      rw [if_neg (by omega)]
  | succ d ih =>
    intro i hd
    have hi : i < fs.length := by omega
    have hk1 := hk _ (List.getElem_mem hi)
    refine ev_step (known_rounds p (p ++ q) ns fs hl i hi hfs true (ih (i + 1) (by omega)) ns.length 0 false (by omega) (Or.inr (by rw [List.drop_zero]; exact hk1))) fun k => ?_
    simp only [laws_FnPrograms.l0]
    rw [if_pos (by omega)]
    rfl
theorem prog_of {l : List S34} (h : l.length ≤ 30) (ho : ∀ y ∈ l, okStep y = true) : progB l = true := by
  unfold progB
  simp only [Bool.and_eq_true, decide_eq_true_eq]
  exact ⟨List.all_eq_true.2 ho, h⟩
theorem names_ok {l : List S34} (ho : ∀ y ∈ l, okStep y = true ∧ y.f1.size ≤ 12) : Names l := fun y hy => Nat.le_trans (ho y hy).2 (by decide)
def foldStep : S34 := ⟨1, (⟨#[]⟩ : ByteArray), (⟨0, (⟨0, 0, 0⟩ : S30)⟩ : S32), 1, 0, false⟩
def undoStep : S34 := ⟨5, (⟨#[]⟩ : ByteArray), (⟨0, (⟨0, 0, 0⟩ : S30)⟩ : S32), 0, 0, false⟩
theorem fold_ok : okStep foldStep = true ∧ foldStep.f1.size ≤ 12 := by
  refine ⟨?_, by decide⟩
  show stepB 1 (⟨#[]⟩ : ByteArray) 0 0 0 0 1 0 false = true
  unfold stepB alongB
  rw [if_pos rfl, if_pos empty_nil]
  decide
theorem undo_ok : okStep undoStep = true ∧ undoStep.f1.size ≤ 12 := by
  refine ⟨?_, by decide⟩
  show stepB 5 (⟨#[]⟩ : ByteArray) 0 0 0 0 0 0 false = true
  unfold stepB plainB
  rw [if_neg (by decide), if_neg (by decide), if_neg (by decide), if_pos (by decide), empty_nil]
  decide
theorem cnt_nonneg (b : List Bool) : 0 ≤ cnt b := by unfold cnt; omega
theorem cnt_le (b : List Bool) : cnt b ≤ b.length := by unfold cnt; have := List.count_le_length (a := true) (l := b); omega
theorem fold_len (l : List S34) : ∀ b : List Bool, (l.foldl stackS b).length ≤ b.length + l.length := by
  induction l with
  | nil => intro b; simp
  | cons y l ih =>
    intro b
    have h1 := ih (stackS b y)
    have h2 := stack_len b y
    rw [List.foldl_cons, List.length_cons]
    omega
theorem FnPrograms : FnPrograms.Stat := by
  intro l0 l1 h0 h1
  have b0 : Bytes l0 := ⟨by have := h0.1; unfold maxLen at this; exact this, fun x hx => by
    have := h0.2 x hx
    rw [Lit.wf] at this
    simp at this
    have e1 : IntKind.u8.min = 0 := by decide
    have e2 : IntKind.u8.max = 255 := by decide
    omega⟩
  have b1 : Bytes l1 := ⟨by have := h1.1; unfold maxLen at this; exact this, fun x hx => by
    have := h1.2 x hx
    rw [Lit.wf] at this
    simp at this
    have e1 : IntKind.u8.min = 0 := by decide
    have e2 : IntKind.u8.max = 255 := by decide
    omega⟩
  obtain ⟨p, ep, lp, op⟩ := draw_prog b0
  obtain ⟨q, eq, lq, oq⟩ := draw_prog b1
  refine Ev.rounds (g := fun k => laws_FnPrograms.f k l0 l1) (r := true) ?_
  unfold laws_FnPrograms.f
  have hlong : ∃ t, laws_a2Long.f l0 l1 = some t := by
    unfold laws_a2Long.f
    by_cases h : (l0.length : Int) > 3000
    · exact ⟨true, if_pos h⟩
    · exact ⟨_, if_neg h⟩
  obtain ⟨t, ht⟩ := hlong
  refine ev_use ht ?_
  cases t with
  | true => exact ev_pos rfl (ev_some _)
  | false =>
    refine ev_neg (by simp) (ev_bind ep (ev_bind eq (ev_bind (ev_some _) (ev_pos (by simp; omega) (ev_bind (ev_some _) (ev_pos (by simp; omega) (ev_bind (ev_some _) ?_)))))))
    simp only [List.nil_append]
    have lb : (p ++ q).length ≤ 22 := by simp; omega
    have ob : ∀ y ∈ p ++ q, okStep y = true ∧ y.f1.size ≤ 12 := fun y hy => (List.mem_append.1 hy).elim (op y) (oq y)
    have om1 : ∀ y ∈ p ++ q ++ [foldStep], okStep y = true ∧ y.f1.size ≤ 12 := fun y hy => (List.mem_append.1 hy).elim (ob y) (fun h => by rw [List.mem_singleton.1 h]; exact fold_ok)
    have om2 : ∀ y ∈ p ++ q ++ [foldStep] ++ [undoStep], okStep y = true ∧ y.f1.size ≤ 12 := fun y hy => (List.mem_append.1 hy).elim (om1 y) (fun h => by rw [List.mem_singleton.1 h]; exact undo_ok)
    have pp : progB p = true := prog_of (by omega) (fun y hy => (op y hy).1)
    have pb : progB (p ++ q) = true := prog_of (by omega) (fun y hy => (ob y hy).1)
    have pm1 : progB (p ++ q ++ [foldStep]) = true := prog_of (by simp only [List.length_append, List.length_singleton]; omega) (fun y hy => (om1 y hy).1)
    have pm2 : progB (p ++ q ++ [foldStep] ++ [undoStep]) = true := prog_of (by simp only [List.length_append, List.length_singleton]; omega) (fun y hy => (om2 y hy).1)
    have c0 := count_impl _ pb (names_ok ob)
    have c1 := count_impl _ pm1 (names_ok om1)
    have c2 := count_impl _ pm2 (names_ok om2)
    have s1 : (p ++ q ++ [foldStep]).foldl stackS [] = (p ++ q).foldl stackS [] ++ [true] := by rw [List.foldl_append]; rfl
    have s2 : (p ++ q ++ [foldStep] ++ [undoStep]).foldl stackS [] = (p ++ q).foldl stackS [] := by
      rw [List.foldl_append, s1]
      show ((p ++ q).foldl stackS [] ++ [true]).take (((p ++ q).foldl stackS [] ++ [true]).length - 1) = _
      simp
    have hlen := fold_len (p ++ q) []
    have hle := cnt_le ((p ++ q).foldl stackS [])
    have h0n := cnt_nonneg ((p ++ q).foldl stackS [])
    have e1 : cnt ((p ++ q).foldl stackS [] ++ [true]) = cnt ((p ++ q).foldl stackS []) + 1 := by unfold cnt; simp
    rw [s1, e1] at c1
    rw [s2] at c2
    simp only [List.length_nil, Nat.zero_add] at hlen
    have hw : wrap64 (cnt ((p ++ q).foldl stackS []) + 1) = cnt ((p ++ q).foldl stackS []) + 1 := w64 (by omega) (by omega)
    have hn1 := names_impl (p ++ q) (names_ok ob)
    have hn2 := names_impl p (names_ok op)
    rw [if_pos pb] at hn1
    rw [if_pos pp] at hn2
    have hloop := all_rounds p q pp pb (names_ok op) (names_ok ob) (namesEnd (namesL (p ++ q))) (namesEnd (namesL p)) (by have h1 := namesEnd_short (namesL (p ++ q)); have h2 := namesL_short (p ++ q); omega) (by have h1 := namesEnd_short (namesL p); have h2 := namesL_short p; omega) (fun x hx => by
      rw [namesEnd_mem, namesL_mem] at hx ⊢
      obtain ⟨y, h1, h2⟩ := hx
      exact ⟨y, List.mem_append_left _ h1, h2⟩) (namesEnd (namesL p)).length 0 (by omega)
    have hj : Ev (fun k => laws_FnPrograms.j0 k p (p ++ q) false) true := ev_step (f := fun k => (impl_NamesOf.f k (p ++ q)).bind fun t511 => ((impl_NamesOf.f k p).bind fun t514 => (laws_FnPrograms.l0 k p (p ++ q) t511 t514 0))) (ev_bind hn1 (ev_bind hn2 hloop)) fun k => by
      simp only [laws_FnPrograms.j0]
      rw [if_neg (by simp)]
    refine ev_neg (by rw [w64 (by omega) (by omega)]; omega) (ev_bind c0 (ev_bind (ev_some _) (ev_pos (by simp; omega) (ev_bind (ev_some _) (ev_pos (by simp; omega) (ev_bind (ev_some _) (ev_bind (ev_some _) (ev_pos (by simp; omega) (ev_bind (ev_some _) (ev_pos (by simp; omega) (ev_neg (by omega) (ev_bind c1 (ev_pos hw.symm (ev_bind c2 ?_))))))))))))))
    rw [show (cnt ((p ++ q).foldl stackS []) != cnt ((p ++ q).foldl stackS [])) = false by simp]
    exact hj
end Go.Proofs.YteadienaeapaeaaDoor.Pure
