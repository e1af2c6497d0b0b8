/- Folded maps: which lists are stacks, where each square lies, the pairs of squares, and the first two pairs that cross: the program's and the reference's are the same. -/
import Derived.Test.YteadienaeapaeaaZssBase
import Derived.Test.YteadienaeapaeaaZssStLaw
namespace Go.Proofs.Yteadienaeapaeaa.MapT
open Go Go.RowKit Go.Proofs.YteadienaeapaeaaW.PrintWords Go.Proofs.YteadienaeapaeaaW.PrintLast Go.Proofs.YteadienaeapaeaaW.PrintMore Go.Proofs.Yteadienaeapaeaa.Base Go.Proofs.Yteadienaeapaeaa.PT
theorem in_eq (a b c : Int) : spec_l00In.f a b c = some (decide (b ≤ a) && decide (a ≤ c)) := by
  unfold spec_l00In.f
  by_cases h : a ≥ b
  · rw [if_pos h]; simp [h]
  · rw [if_neg h]; simp [h]
def okMap (a b : Int) : Bool := (decide (1 ≤ a) && decide (a ≤ 12)) && ((decide (1 ≤ b) && decide (b ≤ 12)) && decide (wrap64 (a * b) ≤ 12))
theorem ok_spec (a b : Int) : spec_l26Ok.f a b = some (okMap a b) := by
  unfold spec_l26Ok.f okMap
  simp only [in_eq, Option.bind_some]
  split
  · rename_i h; simp only [h, Bool.true_and]; split
    · rename_i h; simp [h]
    · rename_i h; simp [Bool.eq_false_iff.mpr h]
  · rename_i h; simp [Bool.eq_false_iff.mpr h]
theorem ok_impl (a b : Int) : impl_ValidMap.f a b = some (okMap a b) := ok_spec a b
theorem ok_tells {a b : Int} (h : okMap a b = true) : 1 ≤ a ∧ a ≤ 12 ∧ 1 ≤ b ∧ b ≤ 12 ∧ wrap64 (a * b) = a * b ∧ 1 ≤ a * b ∧ a * b ≤ 12 := by
  simp only [okMap, Bool.and_eq_true, decide_eq_true_eq] at h
  obtain ⟨⟨h1, h2⟩, ⟨h3, h4⟩, h5⟩ := h
  have hp : 1 ≤ a * b ∧ a * b ≤ 144 := by
    rcases (show a = 1 ∨ a = 2 ∨ a = 3 ∨ a = 4 ∨ a = 5 ∨ a = 6 ∨ a = 7 ∨ a = 8 ∨ a = 9 ∨ a = 10 ∨ a = 11 ∨ a = 12 by omega) with rfl | rfl | rfl | rfl | rfl | rfl | rfl | rfl | rfl | rfl | rfl | rfl <;> omega
  have hw : wrap64 (a * b) = a * b := w64 (by omega) (by omega)
  rw [hw] at h5
  exact ⟨h1, h2, h3, h4, hw, hp.1, h5⟩
/-! ### Stacks -/
def Perm01 (l : List Int) : Prop := (∀ x ∈ l, 0 ≤ x ∧ x < l.length) ∧ l.Nodup
theorem firsts_lt (n : Nat) : (firsts n).Pairwise (· < ·) := by
  unfold firsts
  rw [List.pairwise_map]
  exact List.pairwise_lt_range.imp (fun h => by omega)
theorem firsts_mem {n : Nat} {x : Int} : x ∈ firsts n ↔ 0 ≤ x ∧ x < n := by
  simp only [firsts, List.mem_map, List.mem_range]
  constructor
  · rintro ⟨j, h, rfl⟩; omega
  · intro h; exact ⟨x.toNat, by omega, by omega⟩
theorem firsts_len (n : Nat) : (firsts n).length = n := by simp [firsts]
theorem incr {s : List Int} (hp : s.Pairwise (· < ·)) (hr : ∀ x ∈ s, 0 ≤ x ∧ x < s.length) : s = firsts s.length := by
  have hp' := List.pairwise_iff_getElem.1 hp
  have lo : ∀ (j : Nat) (h : j < s.length), (j : Int) ≤ s[j] := by
    intro j
    induction j with
    | zero => intro h; exact (hr _ (List.getElem_mem h)).1
    | succ j ih =>
      intro h
      have h1 := ih (by omega)
      have h2 := hp' j (j + 1) (by omega) h (by omega)
      omega
  have hi : ∀ (d j : Nat) (h : j < s.length), j + d + 1 = s.length → s[j] ≤ (j : Int) := by
    intro d
    induction d with
    | zero =>
      intro j h hd
      have := (hr _ (List.getElem_mem h)).2
      omega
    | succ d ih =>
      intro j h hd
      have h1 := ih (j + 1) (by omega) (by omega)
      have h2 := hp' j (j + 1) h (by omega) (by omega)
      omega
  apply List.ext_getElem (by rw [firsts_len])
  intro j h1 h2
  have e1 := lo j h1
  have e2 := hi (s.length - 1 - j) j h1 (by omega)
  simp only [firsts, List.getElem_map, List.getElem_range]
  omega
theorem perm_iff (l : List Int) : sortedL l = firsts l.length ↔ Perm01 l := by
  have hperm : (sortedL l).Perm l := List.mergeSort_perm _ _
  constructor
  · intro h
    rw [h] at hperm
    exact ⟨fun x hx => firsts_mem.1 (hperm.mem_iff.2 hx), hperm.nodup_iff.1 ((firsts_lt _).imp (fun h => by omega))⟩
  · rintro ⟨h1, h2⟩
    have hs : (sortedL l).Pairwise (· ≤ ·) := by
      have := List.pairwise_mergeSort (le := fun x y : Int => decide (x ≤ y)) (fun a b c h1 h2 => by simp at *; omega) (fun a b => by simp; omega) l
      exact this.imp (fun h => by simpa using h)
    have hn : (sortedL l).Nodup := hperm.nodup_iff.2 h2
    have hlt : (sortedL l).Pairwise (· < ·) := (hs.and hn).imp (fun h => by omega)
    have := incr hlt (fun x hx => by rw [sortedL_length]; exact h1 x (hperm.mem_iff.1 hx))
    rw [sortedL_length] at this
    exact this
noncomputable def permB (l : List Int) : Bool := @decide (Perm01 l) (Classical.propDecidable _)
theorem permB_yes {l : List Int} : permB l = true ↔ Perm01 l := by unfold permB; simp
theorem impl_perm (l : List Int) (hl : l.length ≤ 1048576) (n : Int) : impl_isPermutation.f l n = some (permB l && decide ((l.length : Int) = n)) := by
  unfold impl_isPermutation.f
  rw [if_pos (by omega)]
  congr 2
  rw [Bool.eq_iff_iff, decide_eq_true_eq, perm_iff, permB_yes]
/-- The place of each square, after the first i of a stack. -/
def place (n : Nat) (l : List Int) : Nat → List Int
  | 0 => List.replicate n 0
  | i + 1 => (place n l i).set (rd l i).toNat i
theorem place_len (n : Nat) (l : List Int) (i : Nat) : (place n l i).length = n := by
  induction i with
  | zero => simp [place]
  | succ i ih => simp [place, ih]
theorem heights_loop (l : List Int) (hl : l.length ≤ 9223372036854775807) (hr : ∀ x ∈ l, 0 ≤ x ∧ x < l.length) (d : Nat) : ∀ i : Nat, i + d = l.length → Ev (fun k => impl_heights.l0 k (place l.length l i) l (l.length : Int) (i : Int)) (place l.length l l.length) := by
  induction d with
  | zero =>
    intro i hd
    obtain rfl : i = l.length := by omega
    refine ev_one fun k => ?_
    simp only [impl_heights.l0]
    rw [if_neg (by omega)]
  | succ d ih =>
    intro i hd
    have hi : i < l.length := by omega
    have e := rd_at l i hi
    have h1 := hr _ (List.getElem_mem hi)
    refine ev_step (ih (i + 1) (by omega)) fun k => ?_
    simp only [impl_heights.l0]
    rw [if_pos (by omega), if_pos (by omega), if_pos (by omega), if_pos (by omega), if_pos (by rw [place_len]; omega), w64s hi hl]
    rfl
theorem heights_eq (l : List Int) (hl : l.length ≤ 1048576) (hp : Perm01 l) : Ev (fun k => impl_heights.f k l) (place l.length l l.length) := by
  unfold impl_heights.f
  refine ev_pos (by omega) (ev_pos (by omega) ?_)
  exact heights_loop l (by omega) hp.1 l.length 0 (by omega)
theorem levels_loop (l : List Int) (hl : l.length ≤ 1000) (d : Nat) : ∀ (i : Nat) (x7 : List Bool), i + d = l.length → x7.length = l.length → (∀ x ∈ l.take i, 0 ≤ x ∧ x < l.length) → (l.take i).Nodup →
    (∀ v : Nat, v < l.length → x7[v]? = some (decide ((v : Int) ∈ l.take i))) → Ev (fun k => spec_l26Levels.l0 k (l.length : Int) l (place l.length l i) x7 (i : Int)) (if permB l = true then (place l.length l l.length, true) else ([], false)) := by
  induction d with
  | zero =>
    intro i x7 hd hx hr hn hs
    obtain rfl : i = l.length := by omega
    rw [List.take_length] at hr hn
    rw [if_pos (permB_yes.2 ⟨hr, hn⟩)]
    refine ev_one fun k => ?_
    simp only [spec_l26Levels.l0]
    rw [if_neg (by omega)]
  | succ d ih =>
    intro i x7 hd hx hr hn hs
    have hi : i < l.length := by omega
    have e := rd_at l i hi
    have ht : l.take (i + 1) = l.take i ++ [l[i]] := List.take_succ_eq_append_getElem hi
    have hw : wrap64 ((l.length : Int) - 1) = l.length - 1 := w64 (by omega) (by omega)
    have bad : ¬ Perm01 l → Ev (fun k => spec_l26Levels.j1 k (l.length : Int) l (place l.length l i) x7 (i : Int) true) (if permB l = true then (place l.length l l.length, true) else ([], false)) := by
      intro hb
      rw [if_neg (fun h => hb (permB_yes.1 h))]
      refine ev_one fun k => ?_
      simp only [spec_l26Levels.j1]
      rw [if_pos trivial]
    by_cases hin : 0 ≤ l[i] ∧ l[i] < l.length
    · have hsv := hs l[i].toNat (by omega)
      rw [Int.toNat_of_nonneg hin.1] at hsv
      have hrd : rdOf false x7 l[i] = decide (l[i] ∈ l.take i) := by
        unfold rdOf
        rw [List.getD_eq_getElem?_getD, hsv]
        rfl
      have step : ∀ b, decide (l[i] ∈ l.take i) = b → Ev (fun k => spec_l26Levels.j1 k (l.length : Int) l (place l.length l i) x7 (i : Int) b) (if permB l = true then (place l.length l l.length, true) else ([], false)) := by
        intro b hb
        cases b with
        | true =>
          refine bad (fun hp => ?_)
          have hn2 : (l.take (i + 1)).Nodup := hp.2.sublist (List.take_sublist _ _)
          rw [ht, List.nodup_append] at hn2
          exact hn2.2.2 _ (of_decide_eq_true hb) _ (List.mem_singleton.2 rfl) rfl
        | false =>
          have hnot : l[i] ∉ l.take i := of_decide_eq_false hb
          refine ev_step (ih (i + 1) (x7.set l[i].toNat true) (by omega) (by simp [hx]) (fun x hxm => ?_) ?_ (fun v hv => ?_)) fun k => ?_
          · rw [ht, List.mem_append, List.mem_singleton] at hxm
            rcases hxm with h | rfl
            · exact hr x h
            · exact hin
          · rw [ht, List.nodup_append]
            refine ⟨hn, by simp, fun a ha b hb2 => ?_⟩
            rw [List.mem_singleton] at hb2
            subst hb2
            rintro rfl
            exact hnot ha
          · rw [List.getElem?_set]
            by_cases ev : l[i].toNat = v
            · rw [if_pos ev, if_pos (by omega)]
              congr 1
              symm
              rw [decide_eq_true_eq, ht, List.mem_append, List.mem_singleton]
              exact Or.inr (by omega)
            · rw [if_neg ev, hs v hv]
              congr 1
              rw [Bool.eq_iff_iff, decide_eq_true_eq, decide_eq_true_eq, ht, List.mem_append, List.mem_singleton]
              exact ⟨Or.inl, fun h => h.resolve_right (by omega)⟩
          · simp only [spec_l26Levels.j1]
            rw [if_neg (by simp), if_pos (by omega), if_pos (by omega), e, if_pos hin.1, if_pos (by omega), if_pos (by rw [place_len]; omega), w64s hi (by omega)]
            rw [place, e]
      refine ev_step (step _ rfl) fun k => ?_
      simp only [spec_l26Levels.l0]
      rw [if_pos (by omega), if_pos (by omega), e, in_eq, hw]
      simp only [Option.bind_some]
      rw [if_pos (by simp; omega), if_pos hin.1, if_pos (by omega), hrd]
    · refine ev_step (bad (fun hp => hin (hp.1 _ (List.getElem_mem hi)))) fun k => ?_
      simp only [spec_l26Levels.l0]
      rw [if_pos (by omega), if_pos (by omega), e, in_eq, hw]
      simp only [Option.bind_some]
      rw [if_neg (by simp; omega)]
theorem levels_eq (n : Int) (hn : 1 ≤ n) (hn2 : n ≤ 12) (l : List Int) : Ev (fun k => spec_l26Levels.f k n l) (if (permB l && decide ((l.length : Int) = n)) = true then (place l.length l l.length, true) else ([], false)) := by
  unfold spec_l26Levels.f
  by_cases h : (l.length : Int) = n
  · subst h
    rw [show decide ((l.length : Int) = (l.length : Int)) = true by simp, Bool.and_true]
    refine ev_pos rfl (ev_pos (by omega) (ev_pos (by omega) (ev_pos (by omega) ?_)))
    rw [Int.toNat_natCast]
    exact levels_loop l (by omega) l.length 0 _ (by omega) (by simp) (by simp) (by simp) (fun v hv => by simp [hv])
  · rw [if_neg (by simp [h])]
    exact ev_neg h (ev_some _)
/-! ### The statements' own helpers on lists of numbers -/
theorem to_loop (l : List Int) (hl : l.length ≤ 9223372036854775807) (d : Nat) : ∀ (i : Nat) (x : List Int), i + d = l.length → x = l.take i ++ List.replicate (l.length - i) 0 → Ev (fun k => laws_toInt64S.l0 k l x (i : Int)) l := by
  induction d with
  | zero =>
    intro i x hd hx
    refine ev_one fun k => ?_
    simp only [laws_toInt64S.l0]
    rw [if_neg (by omega), hx, show l.length - i = 0 by omega, List.take_of_length_le (by omega)]
    simp
  | succ d ih =>
    intro i x hd hx
    have hi : i < l.length := by omega
    have hxl : x.length = l.length := by rw [hx]; simp; omega
    refine ev_step (ih (i + 1) (x.set i (rd l i)) (by omega) (set_at l i _ _ x hi hx (rd_at l i hi).symm)) fun k => ?_
    simp only [laws_toInt64S.l0]
    rw [if_pos (by omega), if_pos (by omega), if_pos (by omega), w64s hi hl]
    rfl
theorem to_self (l : List Int) (hl : l.length ≤ 1048576) : Ev (fun k => laws_toInt64S.f k l) l := by
  unfold laws_toInt64S.f
  refine ev_pos (by omega) (ev_pos (by omega) ?_)
  exact to_loop l (by omega) l.length 0 _ (by omega) (by simp)
theorem eq_loop (l : List Int) (hl : l.length ≤ 9223372036854775807) (d : Nat) : ∀ (i : Nat), i + d = l.length → Ev (fun k => laws_eqInt64S.l0 k l l (i : Int)) true := by
  induction d with
  | zero =>
    intro i hd
    refine ev_one fun k => ?_
    simp only [laws_eqInt64S.l0]
    rw [if_neg (by omega)]
  | succ d ih =>
    intro i hd
    have hi : i < l.length := by omega
    refine ev_step (ih (i + 1) (by omega)) fun k => ?_
    simp only [laws_eqInt64S.l0]
    rw [if_pos (by omega), if_pos (by omega), if_pos (by omega), if_pos trivial, w64s hi hl]
theorem eq_self (l : List Int) (hl : l.length ≤ 1048576) : Ev (fun k => laws_eqInt64S.f k l l) true := by
  unfold laws_eqInt64S.f
  exact ev_pos rfl (eq_loop l (by omega) l.length 0 (by omega))
end Go.Proofs.Yteadienaeapaeaa.MapT
