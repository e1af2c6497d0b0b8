/- Which texts are names: the program's test (strings.Trim, strings.IndexByte) and the reference's loop say the same. -/
import Derived.Test.YteadienaeapaeaaDoorZnoBase
import Derived.Lib.Strings
import Derived.Test.YteadienaeapaeaaDoorZnoPYx10
import Derived.Test.YteadienaeapaeaaDoorZnoPYx5
namespace Go.Proofs.YteadienaeapaeaaDoor.NameY
open Go Go.RowKit Go.Proofs.YteadienaeapaeaaDoorW.PrintWords Go.Proofs.YteadienaeapaeaaDoorW.PrintLast Go.Proofs.YteadienaeapaeaaDoorW.PrintMore Go.Proofs.YteadienaeapaeaaDoor.Base Go.Proofs.YteadienaeapaeaaDoor.PY
theorem keeps {α : Type} (p : α → Bool) {x : α} : ∀ {l : List α}, x ∈ l → p x = false → x ∈ l.dropWhile p
  | [], h, _ => by simp at h
  | y :: l, h, hp => by
    rw [List.dropWhile_cons]
    by_cases hy : p y = true
    · rw [if_pos hy]
      rcases List.mem_cons.1 h with rfl | h
      · rw [hp] at hy; cases hy
      · exact keeps p h hp
    · rw [if_neg hy]; exact h
theorem drops {α : Type} (p : α → Bool) : ∀ {l : List α}, (∀ x ∈ l, p x = true) → l.dropWhile p = []
  | [], _ => rfl
  | y :: l, h => by
    rw [List.dropWhile_cons, if_pos (h y (List.mem_cons_self))]
    exact drops p fun x hx => h x (List.mem_cons_of_mem _ hx)
theorem trim_nil (l cs : List UInt8) : Lib.trimS l cs = [] ↔ ∀ x ∈ l, cs.contains x = true := by
  constructor
  · intro h x hx
    by_cases hp : cs.contains x = true
    · exact hp
    · have hp := Bool.eq_false_iff.mpr hp
      have h1 : x ∈ Lib.trimRightS l cs := by
        unfold Lib.trimRightS
        rw [List.mem_reverse]
        exact keeps (cs.contains ·) (List.mem_reverse.2 hx) hp
      have h2 : x ∈ Lib.trimS l cs := keeps (cs.contains ·) h1 hp
      rw [h] at h2
      cases h2
  · intro h
    have h1 : Lib.trimRightS l cs = [] := by
      unfold Lib.trimRightS
      rw [drops (cs.contains ·) fun x hx => h x (List.mem_reverse.1 hx)]
      rfl
    unfold Lib.trimS
    rw [h1]
    rfl
def letB (b : Int) : Bool := (decide (65 ≤ b) && decide (b ≤ 90)) || (decide (97 ≤ b) && decide (b ≤ 122))
def okB (b : Int) : Bool := letB b || ((decide (48 ≤ b) && decide (b ≤ 57)) || b == 95)
theorem let_all : ∀ n : Fin 256, decide (0 ≤ Lib.indexByte nameLetters.data.toList n.val.toUInt8) = letB (n.val : Int) := by decide +kernel
theorem cut_all : ∀ n : Fin 256, nameCut.data.toList.contains n.val.toUInt8 = okB (n.val : Int) := by decide +kernel
theorem spec_letter (b : Int) : spec_l01Letter.f b = some (letB b) := by
  unfold spec_l01Letter.f letB
  by_cases h1 : b ≥ 65
  · rw [if_pos h1]
    by_cases h2 : b ≤ 90
    · rw [if_pos h2]; simp [h2, show 65 ≤ b from h1]
    · rw [if_neg h2]
      by_cases h3 : b ≥ 97
      · rw [if_pos h3]; simp [h2, show 97 ≤ b from h3]
      · rw [if_neg h3]; simp [h2, show ¬ 97 ≤ b from h3]
  · rw [if_neg h1, if_neg (by omega)]; simp [show ¬ 65 ≤ b from h1, show ¬ 97 ≤ b by omega]
theorem spec_digit (b : Int) : spec_l01Digit.f b = some (decide (48 ≤ b) && decide (b ≤ 57)) := by
  unfold spec_l01Digit.f
  by_cases h : b ≥ 48
  · rw [if_pos h]; simp [show 48 ≤ b from h]
  · rw [if_neg h]; simp [show ¬ 48 ≤ b from h]
theorem name_loop (s : ByteArray) (hs : s.size ≤ 9223372036854775807) (d : Nat) : ∀ i : Nat, i + d = s.size → ∃ r, Ev (fun k => spec_IsName.l0 k s (i : Int)) r ∧ (r = true ↔ ∀ j : Nat, i ≤ j → j < s.size → okB (bt s (j : Int)) = true) := by
  induction d with
  | zero =>
    intro i hd
    refine ⟨true, ev_one fun k => ?_, by simp; omega⟩
    simp only [spec_IsName.l0]
    rw [if_neg (by omega)]
  | succ d ih =>
    intro i hd
    have hi : i < s.size := by omega
    have j2n : Ev (fun k => spec_IsName.j2 k s (i : Int) true) false := ev_one fun k => by simp [spec_IsName.j2]
    by_cases hb : okB (bt s (i : Int)) = true
    · obtain ⟨r, hr, hiff⟩ := ih (i + 1) (by omega)
      have j2y : Ev (fun k => spec_IsName.j2 k s (i : Int) false) r := by
        refine ev_step hr fun k => ?_
        simp only [spec_IsName.j2]
        rw [if_neg (by simp), w64s hi hs]
      refine ⟨r, ev_step j2y fun k => ?_, ?_⟩
      · simp only [spec_IsName.l0]
        rw [if_pos (by omega), if_pos (by omega), spec_letter]
        simp only [Option.bind_some]
        by_cases h1 : letB (bt s (i : Int)) = true
        · rw [if_pos h1]
        · rw [if_neg h1, spec_digit]
          simp only [Option.bind_some]
          unfold okB at hb
          rw [Bool.eq_false_iff.mpr h1, Bool.false_or] at hb
          by_cases h2 : (decide (48 ≤ bt s (i : Int)) && decide (bt s (i : Int) ≤ 57)) = true
          · rw [if_pos h2]
          · rw [if_neg h2]
            rw [Bool.eq_false_iff.mpr h2, Bool.false_or, beq_iff_eq] at hb
            rw [hb]
            rfl
      · rw [hiff]
        constructor
        · intro h j h1 h2
          by_cases e : j = i
          · rw [e]; exact hb
          · exact h j (by omega) h2
        · exact fun h j h1 h2 => h j (by omega) h2
    · refine ⟨false, ev_step j2n fun k => ?_, ⟨fun h => by simp at h, fun h => absurd (h i (by omega) hi) hb⟩⟩
      simp only [spec_IsName.l0]
      rw [if_pos (by omega), if_pos (by omega), spec_letter]
      simp only [Option.bind_some]
      unfold okB at hb
      simp only [Bool.or_eq_true, not_or] at hb
      rw [if_neg hb.1, spec_digit]
      simp only [Option.bind_some]
      rw [if_neg hb.2.1]
      have h3 : (bt s (i : Int) != 95) = true := by
        have := hb.2.2
        simpa using this
      rw [h3]
theorem all_bytes (s : ByteArray) : (∀ x ∈ s.data.toList, nameCut.data.toList.contains x = true) ↔ ∀ j : Nat, 0 ≤ j → j < s.size → okB (bt s (j : Int)) = true := by
  have hb : ∀ (j : Nat) (h : j < s.size), nameCut.data.toList.contains (s[j]'h) = okB (bt s (j : Int)) := fun j h => by
    have h1 := cut_all ⟨(s[j]'h).toNat, UInt8.toNat_lt _⟩
    have h2 : bt s (j : Int) = ((s[j]'h).toNat : Int) := (bt_at s (j : Int) (by simpa using h)).symm
    rw [h2]
    have h3 : (s[j]'h).toNat.toUInt8 = s[j]'h := UInt8.ofNat_toNat
    simp only [h3] at h1
    exact h1
  constructor
  · intro h j _ hj
    rw [← hb j hj]
    exact h _ (by
      have : s.data.toList[j]? = some (s[j]'hj) := by
        rw [Array.getElem?_toList, Array.getElem?_eq_getElem (by exact hj)]
        rfl
      exact List.mem_of_getElem? this)
  · intro h x hx
    obtain ⟨j, hj, rfl⟩ := List.mem_iff_getElem.1 hx
    have hj2 : j < s.size := by simpa using hj
    have := h j (by omega) hj2
    rw [← hb j hj2] at this
    rw [show s.data.toList[j] = s[j]'hj2 from by rw [Array.getElem_toList]; rfl]
    exact this
theorem name_spec (s : ByteArray) (hs : s.size ≤ 9223372036854775807) : Ev (fun k => spec_IsName.f k s) (nameB s) := by
  have bad : Ev (fun k => spec_IsName.j0 k s true) false := ev_one fun k => by simp [spec_IsName.j0]
  have hlen : s.toList.length = s.size := by rw [Lib.toList_data]; exact data_length s
  unfold spec_IsName.f
  by_cases h0 : s.toList = []
  · have hz : s.size = 0 := by rw [← hlen, h0]; rfl
    have : nameB s = false := by unfold nameB; rw [decide_eq_false (show ¬ 1 ≤ s.size by omega)]; rfl
    rw [this]
    exact ev_pos h0 bad
  · have hz : 1 ≤ s.size := by
      rcases Nat.eq_zero_or_pos s.size with h | h
      · exact absurd (List.eq_nil_of_length_eq_zero (by rw [hlen]; exact h)) h0
      · exact h
    refine ev_neg h0 ?_
    by_cases h1 : (s.size : Int) > 12
    · have : nameB s = false := by unfold nameB; rw [decide_eq_false (show ¬ s.size ≤ 12 by omega)]; simp
      rw [this]
      exact ev_pos h1 bad
    · refine ev_neg h1 (ev_pos (by omega) (ev_use (spec_letter _) ?_))
      have hr := bt_range s 0
      have hl := let_all ⟨(bt s 0).toNat, by omega⟩
      simp only [Int.toNat_of_nonneg hr.1] at hl
      have hn : nameB s = (decide (Lib.trimS s.data.toList nameCut.data.toList = []) && letB (bt s 0)) := by
        unfold nameB
        rw [decide_eq_true hz, decide_eq_true (show s.size ≤ 12 by omega), Bool.true_and, Bool.true_and, hl]
      rw [hn]
      cases hlet : letB (bt s 0) with
      | false =>
        rw [Bool.and_false]
        exact bad
      | true =>
        rw [Bool.and_true]
        obtain ⟨r, e, hiff⟩ := name_loop s hs s.size 0 (by omega)
        have hr2 : decide (Lib.trimS s.data.toList nameCut.data.toList = []) = r := by
          rw [Bool.eq_iff_iff, decide_eq_true_eq, trim_nil, all_bytes, hiff]
        rw [hr2]
        refine ev_step e fun k => ?_
        simp [spec_IsName.j0]
theorem name_impl (s : ByteArray) (hs : s.size ≤ 9223372036854775807) : Ev (fun k => impl_IsName.f k s) (nameB s) := by
  unfold impl_IsName.f
  exact ev_pos hs (ev_some _)
end Go.Proofs.YteadienaeapaeaaDoor.NameY
