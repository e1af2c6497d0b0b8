/- The reference's list of names (each put to its place, once) is the program's (sorted, then made compact). -/
import Derived.Test.YteadienaeapaeaaDoorZnoMarksY
import Derived.Sort.Walk0
import Derived.Test.YteadienaeapaeaaDoorZnoPYx12
namespace Go.Proofs.YteadienaeapaeaaDoor.PutY
open Go Go.RowKit Go.Proofs.YteadienaeapaeaaDoorW.PrintWords Go.Proofs.YteadienaeapaeaaDoorW.PrintLast Go.Proofs.YteadienaeapaeaaDoorW.PrintMore Go.Proofs.YteadienaeapaeaaDoor.Base Go.Proofs.YteadienaeapaeaaDoor.Loop Go.Proofs.YteadienaeapaeaaDoor.NameY Go.Proofs.YteadienaeapaeaaDoor.StepY Go.Proofs.YteadienaeapaeaaDoor.ProgY Go.Proofs.YteadienaeapaeaaDoor.MarksY Go.Proofs.YteadienaeapaeaaDoor.PY
abbrev Lt (a b : ByteArray) : Prop := bsOf a < bsOf b
theorem less_iff (a b : ByteArray) : Op.bytesLess a.toList b.toList = true ↔ Lt a b := by
  rw [bytesLess_eq, decide_eq_true_eq, Lib.toList_data, Lib.toList_data]
  exact Iff.rfl
theorem lt_irrefl (a : ByteArray) : ¬ Lt a a := List.lt_irrefl _
theorem lt_trans {a b c : ByteArray} (h : Lt a b) (k : Lt b c) : Lt a c := List.lt_trans h k
theorem bs_inj {a b : ByteArray} (h : bsOf a = bsOf b) : a = b := by rw [← str_bs a, ← str_bs b, h]
theorem lt_or (a b : ByteArray) : Lt a b ∨ a = b ∨ Lt b a := by
  by_cases h1 : Lt a b
  · exact Or.inl h1
  · by_cases h2 : Lt b a
    · exact Or.inr (Or.inr h2)
    · exact Or.inr (Or.inl (bs_inj (List.le_antisymm (List.not_lt.mp h2) (List.not_lt.mp h1))))
def put : List ByteArray → ByteArray → List ByteArray
  | [], a => [a]
  | b :: l, a => if Op.bytesLess b.toList a.toList = true then b :: put l a else if Op.bytesLess a.toList b.toList = true then a :: b :: l else b :: l
def Strict (l : List ByteArray) : Prop := l.Pairwise Lt
theorem put_mem (l : List ByteArray) (a x : ByteArray) : x ∈ put l a ↔ x ∈ l ∨ x = a := by
  induction l with
  | nil => simp [put]
  | cons b l ih =>
    unfold put
    split
    · rw [List.mem_cons, ih, List.mem_cons, or_assoc]
    · rename_i h1
      split
      · rw [List.mem_cons, or_comm]
      · rename_i h2
        rw [less_iff] at h1 h2
        have hba : b = a := by
          rcases lt_or b a with h | h | h
          · exact absurd h h1
          · exact h
          · exact absurd h h2
        subst hba
        rw [List.mem_cons]
        exact ⟨Or.inl, fun h => h.elim id Or.inl⟩
theorem put_strict (l : List ByteArray) (a : ByteArray) (h : Strict l) : Strict (put l a) := by
  induction l with
  | nil => exact List.pairwise_singleton _ _
  | cons b l ih =>
    obtain ⟨h1, h2⟩ := List.pairwise_cons.1 h
    unfold put
    split
    · rename_i hl
      refine List.pairwise_cons.2 ⟨fun x hx => ?_, ih h2⟩
      rcases (put_mem l a x).1 hx with hx | rfl
      · exact h1 x hx
      · exact (less_iff _ _).1 hl
    · split
      · rename_i hl
        have hab := (less_iff _ _).1 hl
        refine List.pairwise_cons.2 ⟨fun x hx => ?_, h⟩
        rcases List.mem_cons.1 hx with rfl | hx
        · exact hab
        · exact lt_trans hab (h1 x hx)
      · exact h
theorem put_len (l : List ByteArray) (a : ByteArray) : (put l a).length ≤ l.length + 1 := by
  induction l with
  | nil => simp [put]
  | cons b l ih =>
    unfold put
    split
    · simp only [List.length_cons]; omega
    · split
      · simp
      · simp
theorem strict_ext : ∀ {l m : List ByteArray}, Strict l → Strict m → (∀ x, x ∈ l ↔ x ∈ m) → l = m
  | [], [], _, _, _ => rfl
  | [], b :: m, _, _, h => absurd ((h b).2 (List.mem_cons_self ..)) (by simp)
  | a :: l, [], _, _, h => absurd ((h a).1 (List.mem_cons_self ..)) (by simp)
  | a :: l, b :: m, hl, hm, h => by
    obtain ⟨h1, h2⟩ := List.pairwise_cons.1 hl
    obtain ⟨g1, g2⟩ := List.pairwise_cons.1 hm
    have hab : a = b := by
      rcases List.mem_cons.1 ((h a).1 (List.mem_cons_self ..)) with e | e
      · exact e
      · rcases List.mem_cons.1 ((h b).2 (List.mem_cons_self ..)) with e2 | e2
        · exact e2.symm
        · exact absurd (lt_trans (g1 a e) (h1 b e2)) (lt_irrefl b)
    subst hab
    congr 1
    refine strict_ext h2 g2 fun x => ?_
    constructor
    · intro hx
      rcases List.mem_cons.1 ((h x).1 (List.mem_cons_of_mem _ hx)) with rfl | e
      · exact absurd (h1 x hx) (lt_irrefl x)
      · exact e
    · intro hx
      rcases List.mem_cons.1 ((h x).2 (List.mem_cons_of_mem _ hx)) with rfl | e
      · exact absurd (g1 x hx) (lt_irrefl x)
      · exact e
theorem compact_strict {zs : List (List UInt8)} (h : zs.Pairwise (fun x y => x ≤ y)) : (Lib.compact zs).Pairwise (fun x y => x < y) := by
  unfold Lib.compact Lib.compactUpTo
  rw [List.pairwise_map]
  refine List.Pairwise.imp_of_mem (R := fun i j => i < j) ?_ (List.Pairwise.filter _ List.pairwise_lt_range)
  intro i j hi hj hij
  have hi2 : i < zs.length := List.mem_range.1 (List.mem_filter.1 hi).1
  have hj2 : j < zs.length := List.mem_range.1 (List.mem_filter.1 hj).1
  have hk := (List.mem_filter.1 hj).2
  rw [getElem!_pos _ i (by simpa using hi2), getElem!_pos _ j (by simpa using hj2)]
  simp only [Lib.keeps, decide_eq_true_eq] at hk
  have hne := hk.resolve_left (by omega)
  rw [getElem!_pos _ j (by simpa using hj2), getElem!_pos _ (j - 1) (by simp; omega)] at hne
  simp only [List.getElem_toArray] at hne ⊢
  have h1 : zs[j - 1] ≤ zs[j] := List.pairwise_iff_getElem.1 h (j - 1) j (by omega) hj2 (by omega)
  have h2 : zs[j - 1] < zs[j] := by
    rcases Decidable.em (zs[j - 1] < zs[j]) with h | h
    · exact h
    · exact absurd (List.le_antisymm (List.not_lt.mp h) h1) hne
  by_cases e : i = j - 1
  · subst e; exact h2
  · have h3 : zs[i] ≤ zs[j - 1] := List.pairwise_iff_getElem.1 h i (j - 1) hi2 (by omega) (by omega)
    exact List.lt_of_le_of_lt h3 h2
theorem namesEnd_strict (xs : List ByteArray) : Strict (namesEnd xs) := by
  unfold namesEnd Strict
  rw [List.pairwise_map]
  have hs := List.pairwise_mergeSort (le := fun x y : List UInt8 => decide (x ≤ y)) (fun a b c h k => by
    simp only [decide_eq_true_eq] at h k ⊢
    exact List.le_trans h k) (fun a b => by
    simp only [Bool.or_eq_true, decide_eq_true_eq]
    exact List.le_total a b) (xs.map bsOf)
  exact compact_strict (hs.imp fun h => by simpa using h)
theorem put_loop (L : List ByteArray) (hL : L.length ≤ 1000) (a : ByteArray) (d : Nat) : ∀ (i : Nat) (x : List ByteArray) (b : Bool), i + d = L.length → x.length ≤ i + 1 → (b = false → x.length ≤ i) →
    Ev (fun k => spec_l27Put.l0 k L a x b (i : Int)) (x ++ (if b = true then L.drop i else put (L.drop i) a)) := by
  induction d with
  | zero =>
    intro i x b hd hx hx0
    rw [List.drop_of_length_le (by omega)]
    cases b with
    | true =>
      rw [if_pos rfl, List.append_nil]
      refine ev_one fun k => ?_
      simp only [spec_l27Put.l0]
      rw [if_neg (by omega), if_pos trivial]
    | false =>
      rw [if_neg (by simp)]
      refine ev_one fun k => ?_
      simp only [spec_l27Put.l0, put]
      rw [if_neg (by omega), if_neg (by simp), if_pos (by omega)]
  | succ d ih =>
    intro i x b hd hx hx0
    have hi : i < L.length := by omega
    have er : rdOf ByteArray.empty L (i : Int) = L[i] := rdOf_at _ L i hi
    rw [List.drop_eq_getElem_cons hi]
    have plain : ∀ c : Bool, ∀ r, Ev (fun k => spec_l27Put.l0 k L a (x ++ [L[i]]) c ((i + 1 : Nat) : Int)) r → Ev (fun k => spec_l27Put.j1 k L a x c (i : Int) false) r := fun c r h => ev_step h fun k => by
      simp only [spec_l27Put.j1]
      rw [if_neg (by simp), if_pos (by omega), if_pos (by omega), if_pos (by omega), er, w64s hi (by omega)]
    cases b with
    | true =>
      rw [if_pos rfl]
      have h := ih (i + 1) (x ++ [L[i]]) true (by omega) (by simp; omega) (fun e => by cases e)
      rw [if_pos rfl, List.append_assoc] at h
      refine ev_step (plain true _ h) fun k => ?_
      simp only [spec_l27Put.l0]
      rw [if_pos (by omega), if_pos trivial]
    | false =>
      have hx1 := hx0 rfl
      rw [if_neg (by simp)]
      have to0 : ∀ r, Ev (fun k => spec_l27Put.j1 k L a x false (i : Int) (!(Op.bytesLess L[i].toList a.toList))) r → Ev (fun k => spec_l27Put.l0 k L a x false (i : Int)) r := fun r h => ev_step h fun k => by
        simp only [spec_l27Put.l0]
        rw [if_pos (by omega), if_neg (by simp), if_pos (by omega), er]
      refine to0 _ ?_
      cases h1 : Op.bytesLess L[i].toList a.toList with
      | true =>
        have h := ih (i + 1) (x ++ [L[i]]) false (by omega) (by simp; omega) (fun _ => by simp; omega)
        rw [if_neg (by simp), List.append_assoc] at h
        have hp : put (L[i] :: L.drop (i + 1)) a = L[i] :: put (L.drop (i + 1)) a := by rw [put, if_pos h1]
        rw [hp]
        exact plain false _ h
      | false =>
        cases h2 : Op.bytesLess a.toList L[i].toList with
        | true =>
          have h := ih (i + 1) (x ++ [a] ++ [L[i]]) true (by omega) (by simp; omega) (fun e => by cases e)
          rw [if_pos rfl, List.append_assoc, List.append_assoc] at h
          have hp : put (L[i] :: L.drop (i + 1)) a = a :: L[i] :: L.drop (i + 1) := by rw [put, if_neg (by simp [h1]), if_pos h2]
          rw [hp]
          refine ev_step h fun k => ?_
          simp only [spec_l27Put.j1]
          rw [if_pos (by simp), if_pos (by omega), if_pos (by omega), er, if_pos h2, if_pos (by omega)]
          simp only [Option.bind_some]
          rw [if_pos (by simp; omega), w64s hi (by omega), List.append_assoc]
        | false =>
          have h := ih (i + 1) (x ++ [L[i]]) true (by omega) (by simp; omega) (fun e => by cases e)
          rw [if_pos rfl, List.append_assoc] at h
          have hp : put (L[i] :: L.drop (i + 1)) a = L[i] :: L.drop (i + 1) := by rw [put, if_neg (by simp [h1]), if_neg (by simp [h2])]
          rw [hp]
          refine ev_step h fun k => ?_
          simp only [spec_l27Put.j1]
          rw [if_pos (by simp), if_pos (by omega), if_pos (by omega), er, if_neg (by simp [h2]), if_pos (by omega), w64s hi (by omega)]
theorem put_tells (L : List ByteArray) (hL : L.length ≤ 1000) (a : ByteArray) : Ev (fun k => spec_l27Put.f k L a) (put L a) := by
  unfold spec_l27Put.f
  have h := put_loop L hL a L.length 0 [] false (by omega) (by simp) (fun _ => by simp)
  rw [if_neg (by simp), List.drop_zero, List.nil_append] at h
  exact h
theorem spec_names_loop (l : List S34) (hl : l.length ≤ 30) (d : Nat) : ∀ (i : Nat) (x : List ByteArray), i + d = l.length → x.length ≤ i → Ev (fun k => spec_NamesOf.l0 k l x (i : Int)) ((namesL (l.drop i)).foldl put x) := by
  induction d with
  | zero =>
    intro i x hd hx
    rw [List.drop_of_length_le (by omega)]
    refine ev_one fun k => ?_
    simp only [spec_NamesOf.l0]
    rw [if_neg (by omega)]
    rfl
  | succ d ih =>
    intro i x hd hx
    have hi : i < l.length := by omega
    rw [List.drop_eq_getElem_cons hi, namesL_cons]
    by_cases h : l[i].f0 = 4
    · rw [if_pos h, List.foldl_cons]
      have hlen := put_len x l[i].f1
      refine ev_step (f := fun k => (spec_l27Put.f k x l[i].f1).bind fun t294 => (spec_NamesOf.l0 k l t294 ((i + 1 : Nat) : Int))) (ev_bind (put_tells x (by omega) _) (ih (i + 1) _ (by omega) (by omega))) fun k => ?_
      simp only [spec_NamesOf.l0]
      rw [if_pos (by omega), if_pos (by omega), rd34 l i hi, if_pos h, w64s hi (by omega)]
    · rw [if_neg h]
      refine ev_step (ih (i + 1) x (by omega) (by omega)) fun k => ?_
      simp only [spec_NamesOf.l0]
      rw [if_pos (by omega), if_pos (by omega), rd34 l i hi, if_neg h, w64s hi (by omega)]
theorem foldl_put (ns : List ByteArray) : ∀ x : List ByteArray, Strict x → Strict (ns.foldl put x) ∧ ∀ y, y ∈ ns.foldl put x ↔ y ∈ x ∨ y ∈ ns := by
  induction ns with
  | nil => intro x h; exact ⟨h, fun y => by simp⟩
  | cons n ns ih =>
    intro x h
    obtain ⟨h1, h2⟩ := ih (put x n) (put_strict x n h)
    refine ⟨h1, fun y => ?_⟩
    rw [List.foldl_cons, h2, put_mem, List.mem_cons, or_assoc]
theorem names_same (ns : List ByteArray) : ns.foldl put [] = namesEnd ns := by
  obtain ⟨h1, h2⟩ := foldl_put ns [] List.Pairwise.nil
  refine strict_ext h1 (namesEnd_strict ns) fun x => ?_
  rw [h2, namesEnd_mem]
  simp
theorem names_spec (l : List S34) (hl : l.length ≤ 1048576) (hn : Names l) : Ev (fun k => spec_NamesOf.f k l) (if progB l = true then namesEnd (namesL l) else []) := by
  unfold spec_NamesOf.f
  have hq := prog_spec l hl hn
  cases h : progB l with
  | false =>
    rw [h] at hq
    exact ev_bind hq (ev_neg (by simp) (ev_some _))
  | true =>
    rw [h] at hq
    have := spec_names_loop l (prog_len h) l.length 0 [] (by omega) (by simp)
    rw [List.drop_zero, names_same] at this
    exact ev_bind hq (ev_pos rfl this)
end Go.Proofs.YteadienaeapaeaaDoor.PutY
