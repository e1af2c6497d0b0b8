-- Made by a program of this session (myprint.py) out of the translation.
import Derived.Test.YteadienaeapaeaaZssPTx0
import Derived.Test.YteadienaeapaeaaZssPTx5
import Derived.Shelf.SortM.Plain
import Derived.Shelf.SortM.SortNone
import Derived.Sort.OwnSortedInts
import Derived.Test.YteadienaeapaeaaZssLaySortI64
namespace Go.Proofs.Yteadienaeapaeaa.PT
open Go.Proofs.Yteadienaeapaeaa.Dyn
open Go.RowKit Go.Proofs.YteadienaeapaeaaW.PrintWords Go.Proofs.YteadienaeapaeaaW.PrintLast Go.Proofs.YteadienaeapaeaaW.PrintMore
attribute [local go_sem] max2_int min2_int max_two min_two max_three min_three max_four min_four   -- for this text's walks alone
set_option linter.unusedVariables false
set_option linter.unusedSimpArgs false

/-! ### impl_isPermutation: function 62 -/
def sortedL (l : List Int) : List Int := l.mergeSort fun x y => decide (x ≤ y)
theorem sortedL_length (l : List Int) : (sortedL l).length = l.length := List.length_mergeSort _
def firsts (n : Nat) : List Int := (List.range n).map fun (j : Nat) => (j : Int)
def impl_isPermutation.f (l0 : List Int) (a1 : Int) : Option Bool := if l0.length < 1000000000000 then some (decide (sortedL l0 = firsts l0.length) && decide ((l0.length : Int) = a1)) else none
theorem firsts_yes {l : List Int} {n : Nat} (hl : l.length = n) (h : ∀ j : Nat, j < n → rd l j = j) : l = firsts n := by
  apply List.ext_getElem (by simp [firsts, hl])
  intro j h1 h2
  have := h j (by omega)
  unfold rd at this
  rw [List.getD_eq_getElem?_getD, show ((j : Int)).toNat = j from rfl, List.getElem?_eq_getElem h1] at this
  simpa [firsts] using this
theorem firsts_no {l : List Int} {n : Nat} (j : Nat) (hj : j < n) (h : rd l j ≠ j) : l ≠ firsts n := by
  rintro rfl
  apply h
  unfold rd
  simp [firsts, hj]
theorem perm_end {l : List Int} {n : Nat} {a : Int} (h : sortedL l = firsts n) : ((n : Int) == a) = (decide (sortedL l = firsts n) && decide ((n : Int) = a)) := by
  rw [decide_eq_true h, Bool.true_and, Bool.eq_iff_iff]
  simp
theorem perm_not {l : List Int} {n : Nat} {a : Int} (h : sortedL l ≠ firsts n) : false = (decide (sortedL l = firsts n) && decide ((n : Int) = a)) := by
  rw [decide_eq_false h, Bool.false_and]
set_option maxRecDepth 100000 in
set_option maxHeartbeats 8000000 in
theorem impl_isPermutation.calls (A0 : Option Addr) (c0 : Nat) (l0 : List Int) (a1 : Int) (r : Bool) (w : World) (hr0 : Kd.C (Kd.int .i64) w A0 l0.length l0) (hc0 : l0.length ≤ c0) (h : impl_isPermutation.f l0 a1 = some r) :
    Calls Try.prog 62 #[.slice A0 l0.length c0, .int .i64 a1] w fun e w' => e = .returned (.bool r) ∧ Below w.heap.size w w' := by
  unfold impl_isPermutation.f at h
  by_cases hl : l0.length < 1000000000000
  · rw [if_pos hl] at h
    obtain rfl := Option.some.inj h
    clear h
    have HR := Aside0.mk hr0
    clear hr0
    have HC := Aside0.mk hc0
    clear hc0
    have HF : slices_Clone_int64_int64.f l0 = some l0 := by unfold slices_Clone_int64_int64.f; rw [if_pos hl]
    go_enter Try.func62, Try.ntmps62
    go_wp2_with (first | (go_at_call 120; (with_reducible refine (slices_Clone_int64_int64.calls _ _ l0 l0 _ HR.out HC.out HF).mono ?_); rintro e w1 ⟨v1, rfl, ho1, hb1⟩; have HO1 := Aside0.mk ho1; have HB1 := Aside0.mk hb1; clear ho1 hb1))
    have hown := (Kd.own_of_R HO1.out).2
    clear HO1 HF
    rcases hown with ⟨rfl, hn⟩ | ⟨g, cap, cur, rfl, hg, hb, h1, h2, h3, h4⟩
    · have hn0 : l0 = [] := List.eq_nil_of_length_eq_zero hn
      subst hn0
      have hs : Calls Try.prog 129 #[.slice none 0 0] w1 (fun e w' => e = .returned (.tuple #[]) ∧ w' = w1) := AnyM.slices_Sort_int_none Lay.SortI64 none 0 w1
      go_wp2_with (first | (go_at_call 129; refine hs.mono ?_; rintro e w2 ⟨rfl, rfl⟩))
      go_loopw [14] (fun v wr => v = .int .i64 0 ∧ wr = w2) (fun _ _ => 0)
      case atStart => exact ⟨rfl, rfl⟩
      case round =>
        obtain ⟨rfl, rfl⟩ := hrel
        go_wp2
        go_ret
        exact ⟨congrArg (fun b => Ending.returned (Value.bool b)) (perm_end (l := []) (n := 0) (a := a1) (by simp [sortedL, firsts])), HB1.out⟩
    · have hs : Calls Try.prog 129 #[.slice (some ⟨g, 0, none⟩) l0.length cap] w1 (fun e w' => e = .returned (.tuple #[]) ∧ ∃ n os, w' = Sort.grow (Sort.putRow (Value.int .i64) (Sort.ahead w1 n) g 0 (sortedL l0).toArray) os) := AnyM.slices_Sort_int Lay.SortI64 g 0 cap l0 w1 (holds_of_blockI hb (by simpa [encs] using h4)) (blk_lt hb) (by omega)
      go_wp2_with (first | (go_at_call 129; refine hs.mono ?_; rintro e w2 ⟨rfl, nd, os, hw2⟩))
      have HB2 : Below w.heap.size w (Sort.grow (Sort.putRow (Value.int .i64) (Sort.ahead w1 nd) g 0 (sortedL l0).toArray) os) := Below.grown HB1.out (grownBy_sortedI _) HB1.out.size (fun k e => by cases e; exact hg)
      have HO2 := ownsRow_sortedI (ts := sortedL l0) (n := nd) (os := os) (sortedL_length l0) hg hb h1 h2 h3
      generalize (Sort.grow (Sort.putRow (Value.int .i64) (Sort.ahead w1 nd) g 0 (sortedL l0).toArray) os) = W2 at HB2 HO2 ⊢
      have hsl := sortedL_length l0
      have HX : ∀ i : Int, 0 ≤ i → i < l0.length → W2.cell? ⟨g, i.toNat, none⟩ = some (.int .i64 (rd (sortedL l0) i)) := fun i hi0 hi => by
        have h := HO2.cellAt i.toNat (by omega)
        rw [h]
        unfold rd
        rw [List.getD_eq_getElem?_getD, List.getElem?_map, List.getElem?_eq_getElem (by omega : i.toNat < (sortedL l0).length)]
        rfl
      clear HO2 hs hb h4 h3 HB1
      have HB := Aside0.mk HB2
      clear HB2
      have HX := Aside0.mk HX
      go_loopw [14] (fun v wr => ∃ i : Int, 0 ≤ i ∧ i ≤ l0.length ∧ v = .int .i64 i ∧ wr = W2 ∧ Aside0 (∀ j : Nat, (j : Int) < i → rd (sortedL l0) j = j)) (fun v _ => l0.length - (intOf v).toNat)
      case atStart => exact ⟨0, by omega, by omega, by first | rfl | trivial, by first | rfl | trivial, ⟨fun j hj => by omega⟩⟩
      case round =>
        obtain ⟨i, hi0, hi, rfl, rfl, HP⟩ := hrel
        by_cases hlt : i < l0.length
        · have hx := HX.out i hi0 hlt
          by_cases hq : rd (sortedL l0) i = i
          · have hq1 : (rd (sortedL l0) i != i) = false := by rw [hq]; simp
            go_wp2
            go_roundw
            case rel => exact ⟨i + 1, by omega, by omega, by first | rfl | trivial, by first | rfl | trivial, ⟨fun j hj => by
              by_cases e : (j : Int) < i
              · exact HP.out j e
              · have e1 : (j : Int) = i := by omega
                rw [e1]; exact hq⟩⟩
            case measure => simp only [intOf]; omega
          · have hq1 : (rd (sortedL l0) i != i) = true := by simpa using hq
            go_wp2
            go_ret
            exact ⟨congrArg (fun b => Ending.returned (Value.bool b)) (perm_not (firsts_no i.toNat (by omega) (by rw [Int.toNat_of_nonneg hi0]; exact hq))), HB.out⟩
        · obtain rfl : i = l0.length := by omega
          go_wp2
          go_ret
          exact ⟨congrArg (fun b => Ending.returned (Value.bool b)) (perm_end (firsts_yes hsl (fun j hj => HP.out j (by omega)))), HB.out⟩
  · rw [if_neg hl] at h
    cases h

end Go.Proofs.Yteadienaeapaeaa.PT
