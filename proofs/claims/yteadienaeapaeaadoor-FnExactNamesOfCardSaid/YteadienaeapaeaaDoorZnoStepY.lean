/- Which steps are valid: the program's test and the reference's say the same. -/
import Derived.Test.YteadienaeapaeaaDoorZnoNameY
import Derived.Laws.Bits128
import Derived.Test.YteadienaeapaeaaDoorZnoPYx11
import Derived.Test.YteadienaeapaeaaDoorZnoPYx7
namespace Go.Proofs.YteadienaeapaeaaDoor.StepY
open Go Go.RowKit Go.Proofs.YteadienaeapaeaaDoorW.PrintWords Go.Proofs.YteadienaeapaeaaDoorW.PrintLast Go.Proofs.YteadienaeapaeaaDoorW.PrintMore Go.Proofs.YteadienaeapaeaaDoor.Base Go.Proofs.YteadienaeapaeaaDoor.NameY Go.Proofs.YteadienaeapaeaaDoor.PY
theorem in_eq (a b c : Int) : spec_l00In.f a b c = some (decide (b ≤ a) && decide (a ≤ c)) := by
  unfold spec_l00In.f
  by_cases h : a ≥ b
  · rw [if_pos h]; simp [h]
  · rw [if_neg h]; simp [h]
theorem within_eq (a b c : Int) : impl_within.f a b c = some (decide (b ≤ a) && decide (a ≤ c)) := in_eq a b c
theorem and1 (n : Int) : bits .and .i64 n 1 = n % 2 := by
  have h1 : (BitVec.ofInt 64 1).toNat = 2 ^ 1 - 1 := by decide
  have key : (BitVec.ofInt 64 n &&& BitVec.ofInt 64 1).toNat = (n % ((2 ^ 64 : Nat) : Int)).toNat % 2 ^ 1 := by
    rw [BitVec.toNat_and, BitVec.toNat_ofInt, h1, Nat.and_two_pow_sub_one_eq_mod]
  show IntKind.i64.wrap ((BitVec.ofInt 64 n &&& BitVec.ofInt 64 1).toNat : Nat) = n % 2
  rw [key, IntKind.wrap_i64]
  omega
theorem even_iff (a : Int) : Int.tmod a 2 = 0 ↔ a % 2 = 0 := by
  rw [← Int.dvd_iff_tmod_eq_zero, Int.dvd_iff_emod_eq_zero]
def inB (a b c : Int) : Bool := decide (b ≤ a) && decide (a ≤ c)
def numB (a b c : Int) : Bool := inB a (-131072) 131072 && (inB b (-131072) 131072 && (inB c 0 10 && (decide (c = 0) || (decide (a % 2 = 1) || decide (b % 2 = 1)))))
theorem num_spec (a b c : Int) : Ev (fun k => spec_l01Ok.f k a b c) (numB a b c) := by
  have bad : Ev (fun k => spec_l01Ok.j0 k true a b c) false := ev_one fun k => by simp [spec_l01Ok.j0]
  unfold spec_l01Ok.f numB
  refine ev_use (in_eq _ _ _) ?_
  change Ev (fun n => if inB a (-131072) 131072 = true then _ else _) _
  by_cases h1 : inB a (-131072) 131072 = true
  · rw [h1, Bool.true_and]
    refine ev_pos rfl (ev_use (in_eq _ _ _) ?_)
    change Ev (fun n => if inB b (-131072) 131072 = true then _ else _) _
    by_cases h2 : inB b (-131072) 131072 = true
    · rw [h2, Bool.true_and]
      refine ev_pos rfl (ev_use (in_eq _ _ _) ?_)
      change Ev (fun n => spec_l01Ok.j0 n (!inB c 0 10) a b c) _
      cases h3 : inB c 0 10 with
      | false => exact bad
      | true =>
        rw [Bool.true_and]
        refine ev_one fun k => ?_
        simp only [spec_l01Ok.j0]
        rw [if_neg (by simp)]
        by_cases h4 : c = 0
        · rw [if_pos h4]; simp [h4]
        · rw [if_neg h4, decide_eq_false h4, Bool.false_or]
          by_cases h5 : Int.tmod a 2 = 0
          · have h6 := (even_iff a).1 h5
            rw [if_pos h5, decide_eq_false (show ¬ a % 2 = 1 by omega), Bool.false_or]
            congr 1
            rw [Bool.eq_iff_iff, bne_iff_ne, decide_eq_true_eq, Ne, even_iff]
            omega
          · have h6 : ¬ a % 2 = 0 := fun h => h5 ((even_iff a).2 h)
            rw [if_neg h5, decide_eq_true (show a % 2 = 1 by omega), Bool.true_or]
    · rw [Bool.eq_false_iff.mpr h2, Bool.false_and]
      exact ev_neg (by simp) bad
  · rw [Bool.eq_false_iff.mpr h1, Bool.false_and]
    exact ev_neg (by simp) bad
theorem num_impl (a b c : Int) : impl_ValidNum.f a b c = some (numB a b c) := by
  unfold impl_ValidNum.f numB
  simp only [within_eq, Option.bind_some]
  change (if inB a (-131072) 131072 = true then (if inB b (-131072) 131072 = true then (if inB c 0 10 = true then _ else _) else _) else _) = _
  by_cases h1 : inB a (-131072) 131072 = true
  · rw [if_pos h1, h1, Bool.true_and]
    by_cases h2 : inB b (-131072) 131072 = true
    · rw [if_pos h2, h2, Bool.true_and]
      by_cases h3 : inB c 0 10 = true
      · rw [if_pos h3, h3, Bool.true_and]
        by_cases h4 : c = 0
        · rw [if_pos h4]; simp [h4]
        · rw [if_neg h4, decide_eq_false h4, Bool.false_or, and1, and1]
          by_cases h5 : a % 2 = 1
          · rw [if_pos h5]; simp [h5]
          · rw [if_neg h5, decide_eq_false h5, Bool.false_or]
            congr 1
      · rw [if_neg h3, Bool.eq_false_iff.mpr h3, Bool.false_and]
    · rw [if_neg h2, Bool.eq_false_iff.mpr h2, Bool.false_and]
  · rw [if_neg h1, Bool.eq_false_iff.mpr h1, Bool.false_and]
def lineB (d a b c : Int) : Bool := inB d 0 7 && numB a b c
theorem line_spec (d a b c : Int) : Ev (fun k => spec_l02Line.f k d a b c) (lineB d a b c) := by
  unfold spec_l02Line.f lineB
  refine ev_use (in_eq _ _ _) ?_
  change Ev (fun n => if inB d 0 7 = true then _ else _) _
  by_cases h1 : inB d 0 7 = true
  · rw [h1, Bool.true_and]
    exact ev_pos rfl (ev_bind (num_spec a b c) (ev_some _))
  · rw [Bool.eq_false_iff.mpr h1, Bool.false_and]
    exact ev_neg (by simp) (ev_some _)
theorem line_impl (d a b c : Int) : impl_ValidLine.f d a b c = some (lineB d a b c) := by
  unfold impl_ValidLine.f lineB
  simp only [within_eq, num_impl, Option.bind_some]
  change (if inB d 0 7 = true then _ else _) = _
  by_cases h1 : inB d 0 7 = true
  · rw [if_pos h1, h1, Bool.true_and]
  · rw [if_neg h1, Bool.eq_false_iff.mpr h1, Bool.false_and]
def zeroB (d a b c : Int) : Bool := d == 0 && ((a == 0 && (b == 0 && (c == 0))))
def sideB (s : Int) : Bool := s == 1 || s == -1
def emptyB (n : ByteArray) : Bool := n.toList == ([] : List UInt8)
theorem empty_iff (n : ByteArray) : emptyB n = true ↔ n.toList = [] := by unfold emptyB; rw [beq_iff_eq]
theorem empty_name {n : ByteArray} (h : n.toList = []) : nameB n = false := by
  have hlen : n.toList.length = n.size := by rw [Lib.toList_data]; exact data_length n
  rw [h] at hlen
  unfold nameB
  rw [decide_eq_false (show ¬ 1 ≤ n.size by simp at hlen; omega)]
  rfl
def alongB (n : ByteArray) (d a b c s : Int) : Bool := sideB s && (if emptyB n = true then lineB d a b c else nameB n && zeroB d a b c)
def plainB (n : ByteArray) (d a b c s f : Int) (o : Bool) : Bool := emptyB n && (zeroB d a b c && (s == 0 && (f == 0 && (!o))))
def stepB (k : Int) (n : ByteArray) (d a b c s f : Int) (o : Bool) : Bool :=
  if k = 1 then alongB n d a b c s && (f == 0) else if k = 2 then alongB n d a b c s && inB f 0 23
  else if k = 4 then nameB n && (lineB d a b c && (s == 0 && (f == 0 && (!o)))) else if k = 3 ∨ k = 5 ∨ k = 6 then plainB n d a b c s f o else false
section
variable (k0 : Int) (n : ByteArray) (hn : n.size ≤ 9223372036854775807) (d a b c s f : Int) (o : Bool)
include hn
theorem along_spec : Ev (fun k => spec_l27Along.f k k0 n d a b c s f o) (alongB n d a b c s) := by
  have hj : Ev (fun k => spec_l27Along.j0 k false k0 n d a b c s f o) (if emptyB n = true then lineB d a b c else nameB n && zeroB d a b c) := by
    by_cases he : n.toList = []
    · rw [if_pos ((empty_iff n).2 he)]
      refine ev_step (f := fun k => (spec_l02Line.f k d a b c).bind fun t113 => (some t113)) (ev_bind (line_spec d a b c) (ev_some _)) fun k => ?_
      simp only [spec_l27Along.j0]
      rw [if_neg (by simp), if_pos he]
    · rw [if_neg (fun h => he ((empty_iff n).1 h))]
      refine ev_step (f := fun k => (spec_IsName.f k n).bind fun t114 => (if t114 = true then (some (zeroB d a b c)) else (some false))) (ev_bind (name_spec n hn) ?_) fun k => ?_
      · cases nameB n
        · exact ev_neg (by simp) (ev_some _)
        · exact ev_pos rfl (ev_some _)
      · simp only [spec_l27Along.j0]
        rw [if_neg (by simp), if_neg he]
        rfl
  have bad : Ev (fun k => spec_l27Along.j0 k true k0 n d a b c s f o) false := ev_one fun k => by simp [spec_l27Along.j0]
  unfold spec_l27Along.f alongB
  by_cases h1 : s = 1
  · rw [show sideB s = true by unfold sideB; rw [h1]; rfl, Bool.true_and]
    exact ev_pos h1 hj
  · refine ev_neg h1 ?_
    by_cases h2 : s = -1
    · rw [show sideB s = true by unfold sideB; rw [h2]; rfl, Bool.true_and, show (s != -1) = false by rw [h2]; rfl]
      exact hj
    · rw [show sideB s = false by unfold sideB; simp [h1, h2], Bool.false_and, show (s != -1) = true by simpa using h2]
      exact bad
theorem step_spec : Ev (fun k => spec_l27Ok.f k k0 n d a b c s f o) (stepB k0 n d a b c s f o) := by
  have hplain : Ev (fun k => spec_l27Ok.j0 k true k0 n d a b c s f o) (plainB n d a b c s f o) := ev_one fun k => by
    simp only [spec_l27Ok.j0]
    rw [if_pos trivial]
    rfl
  unfold spec_l27Ok.f stepB
  by_cases h1 : k0 = 1
  · rw [if_pos h1]
    refine ev_pos h1 (ev_bind (along_spec k0 n hn d a b c s f o) ?_)
    cases alongB n d a b c s
    · exact ev_neg (by simp) (ev_some _)
    · exact ev_pos rfl (ev_some _)
  · rw [if_neg h1]
    refine ev_neg h1 ?_
    by_cases h2 : k0 = 2
    · rw [if_pos h2]
      refine ev_pos h2 (ev_bind (along_spec k0 n hn d a b c s f o) ?_)
      cases alongB n d a b c s
      · exact ev_neg (by simp) (ev_some _)
      · exact ev_pos rfl (ev_use (in_eq _ _ _) (ev_some _))
    · rw [if_neg h2]
      refine ev_neg h2 ?_
      by_cases h4 : k0 = 4
      · rw [if_pos h4]
        refine ev_pos h4 (ev_bind (name_spec n hn) ?_)
        cases nameB n
        · exact ev_neg (by simp) (ev_some _)
        · refine ev_pos rfl (ev_bind (line_spec d a b c) ?_)
          cases lineB d a b c
          · exact ev_neg (by simp) (ev_some _)
          · refine ev_pos rfl ?_
            by_cases h5 : s = 0
            · refine ev_pos h5 ?_
              by_cases h6 : f = 0
              · refine ev_pos h6 ?_
                simp only [h5, h6]
                exact ev_some _
              · refine ev_neg h6 ?_
                rw [show (f == 0) = false by simpa using h6]
                simpa using ev_some false
            · refine ev_neg h5 ?_
              rw [show (s == 0) = false by simpa using h5]
              exact ev_some _
      · rw [if_neg h4]
        refine ev_neg h4 ?_
        by_cases h3 : k0 = 3
        · rw [if_pos (Or.inl h3), show (k0 == 3) = true by simpa using h3]
          exact ev_pos h3 hplain
        · refine ev_neg h3 ?_
          by_cases h5 : k0 = 5
          · rw [if_pos (Or.inr (Or.inl h5)), show (k0 == 5) = true by simpa using h5]
            exact ev_pos h5 hplain
          · refine ev_neg h5 ?_
            by_cases h6 : k0 = 6
            · rw [if_pos (Or.inr (Or.inr h6)), show (k0 == 6) = true by simpa using h6]
              exact hplain
            · rw [if_neg (by omega), show (k0 == 6) = false by simpa using h6]
              exact ev_one fun k => by simp [spec_l27Ok.j0]
omit hn in
theorem side_impl : impl_isSide.f s = some (sideB s) := by
  unfold impl_isSide.f impl_isUnit.f sideB
  by_cases h : s = 1
  · rw [if_pos h]; simp [h]
  · rw [if_neg h]; simp [h]
omit hn in
theorem j2_tells (x3 x4 : Bool) : Ev (fun k => impl_ValidStep.j2 k x3 x4 k0 n d a b c s f o) ((x3 || x4) && (sideB s && ((f == 0) || ((k0 == 2) && inB f 0 23)))) := ev_one fun k => by
  simp only [impl_ValidStep.j2, side_impl, within_eq, Option.bind_some]
  cases x3 <;> cases x4 <;> cases sideB s <;> by_cases h1 : f = 0 <;> by_cases h2 : k0 = 2 <;> simp [h1, h2, inB]
theorem j1_tells (x3 : Bool) : Ev (fun k => impl_ValidStep.j1 k x3 k0 n d a b c s f o) ((x3 || (nameB n && zeroB d a b c)) && (sideB s && ((f == 0) || ((k0 == 2) && inB f 0 23)))) := by
  refine ev_step (f := fun k => (impl_IsName.f k n).bind fun t152 => (if t152 = true then (impl_ValidStep.j2 k x3 (zeroB d a b c) k0 n d a b c s f o) else (impl_ValidStep.j2 k x3 false k0 n d a b c s f o))) (ev_bind (name_impl n hn) ?_) fun k => ?_
  · cases nameB n
    · rw [Bool.false_and]
      exact ev_neg (by simp) (j2_tells k0 n d a b c s f o x3 false)
    · rw [Bool.true_and]
      exact ev_pos rfl (j2_tells k0 n d a b c s f o x3 _)
  · simp only [impl_ValidStep.j1]
    rfl
theorem fold_tells (x7 : Int) : Ev (fun k => impl_ValidStep.j0 k x7 true k0 n d a b c s f o) (alongB n d a b c s && ((f == 0) || ((k0 == 2) && inB f 0 23))) := by
  by_cases he : n.toList = []
  · have h1 := j1_tells k0 n hn d a b c s f o (lineB d a b c)
    rw [empty_name he, Bool.false_and, Bool.or_false] at h1
    unfold alongB
    rw [if_pos ((empty_iff n).2 he), Bool.and_comm (sideB s), Bool.and_assoc]
    refine ev_step (f := fun k => (impl_ValidLine.f d a b c).bind fun t151 => (impl_ValidStep.j1 k t151 k0 n d a b c s f o)) (ev_use (line_impl d a b c) h1) fun k => ?_
    simp only [impl_ValidStep.j0]
    rw [if_pos trivial, if_pos he]
  · have h1 := j1_tells k0 n hn d a b c s f o false
    rw [Bool.false_or] at h1
    unfold alongB
    rw [if_neg (fun h => he ((empty_iff n).1 h)), Bool.and_comm (sideB s), Bool.and_assoc]
    refine ev_step h1 fun k => ?_
    simp only [impl_ValidStep.j0]
    rw [if_pos trivial, if_neg he]
theorem step_impl : Ev (fun k => impl_ValidStep.f k k0 n d a b c s f o) (stepB k0 n d a b c s f o) := by
  have hplain : Ev (fun k => impl_ValidStep.j3 k true k0 n d a b c s f o) (plainB n d a b c s f o) := ev_one fun k => by
    simp only [impl_ValidStep.j3]
    rw [if_pos trivial]
    rfl
  unfold impl_ValidStep.f stepB
  by_cases h1 : k0 = 1
  · rw [if_pos h1]
    have h := fold_tells k0 n hn d a b c s f o k0
    rw [show (k0 == 2) = false by simp [h1], Bool.false_and, Bool.or_false] at h
    refine ev_pos h1 ?_
    rw [show (k0 == 1) = true by simpa using h1]
    exact h
  · rw [if_neg h1]
    refine ev_neg h1 ?_
    by_cases h2 : k0 = 2
    · rw [if_pos h2]
      have h := fold_tells k0 n hn d a b c s f o k0
      have hf : ((f == 0) || ((k0 == 2) && inB f 0 23)) = inB f 0 23 := by
        rw [show (k0 == 2) = true by simpa using h2, Bool.true_and]
        by_cases h6 : f = 0
        · rw [h6]; rfl
        · rw [show (f == 0) = false by simpa using h6, Bool.false_or]
      rw [hf] at h
      rw [show (k0 == 2) = true by simpa using h2]
      exact h
    · rw [if_neg h2, show (k0 == 2) = false by simpa using h2]
      by_cases h4 : k0 = 4
      · rw [if_pos h4]
        refine ev_step (f := fun k => if (s == 0 && (f == 0 && (!o))) = true then ((impl_IsName.f k n).bind fun t160 => (if t160 = true then ((impl_ValidLine.f d a b c).bind fun t161 => (some t161)) else (some false))) else (some false)) ?_ fun k => ?_
        · cases h5 : (s == 0 && (f == 0 && (!o))) with
          | false =>
            rw [Bool.and_false, Bool.and_false]
            exact ev_neg (by simp) (ev_some _)
          | true =>
            rw [Bool.and_true]
            refine ev_pos rfl (ev_bind (name_impl n hn) ?_)
            cases nameB n
            · exact ev_neg (by simp) (ev_some _)
            · exact ev_pos rfl (ev_use (line_impl d a b c) (ev_some _))
        · simp only [impl_ValidStep.j0]
          rw [if_neg (by simp), if_pos h4, show (k0 == 4) = true by simpa using h4, Bool.true_and]
      · rw [if_neg h4]
        by_cases h3 : k0 = 3
        · rw [if_pos (Or.inl h3)]
          refine ev_step hplain fun k => ?_
          simp only [impl_ValidStep.j0]
          rw [if_neg (by simp), if_neg h4, if_pos h3, show (k0 == 3) = true by simpa using h3]
        · by_cases h5 : k0 = 5
          · rw [if_pos (Or.inr (Or.inl h5))]
            refine ev_step hplain fun k => ?_
            simp only [impl_ValidStep.j0]
            rw [if_neg (by simp), if_neg h4, if_neg h3, if_pos h5, show (k0 == 5) = true by simpa using h5]
          · by_cases h6 : k0 = 6
            · rw [if_pos (Or.inr (Or.inr h6))]
              refine ev_step hplain fun k => ?_
              simp only [impl_ValidStep.j0]
              rw [if_neg (by simp), if_neg h4, if_neg h3, if_neg h5, show (k0 == 6) = true by simpa using h6]
            · rw [if_neg (by omega)]
              have bad : Ev (fun k => impl_ValidStep.j3 k false k0 n d a b c s f o) false := ev_one fun k => by simp [impl_ValidStep.j3]
              refine ev_step bad fun k => ?_
              simp only [impl_ValidStep.j0]
              rw [if_neg (by simp), if_neg h4, if_neg h3, if_neg h5, show (k0 == 6) = false by simpa using h6]
end
end Go.Proofs.YteadienaeapaeaaDoor.StepY
