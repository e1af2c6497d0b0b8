/- What RimOf gives: the program's and the reference's. -/
import Derived.Test.YtfmkbcmoibhffaaGridR
import Derived.Test.YtfmkbcmoibhffaaPRx2
import Derived.Test.YtfmkbcmoibhffaaPRx5
namespace Go.Proofs.Ytfmkbcmoibhffaa.RimR
open Go Go.RowKit Go.Proofs.YtfmkbcmoibhffaaW.PrintWords Go.Proofs.YtfmkbcmoibhffaaW.PrintLast Go.Proofs.YtfmkbcmoibhffaaW.PrintMore Go.Proofs.Ytfmkbcmoibhffaa.Base Go.Proofs.Ytfmkbcmoibhffaa.GridR Go.Proofs.Ytfmkbcmoibhffaa.PR
/-- The list that both give. -/
noncomputable def rimB (l : List ByteArray) : List ByteArray := if gridB l = true then rimUpto l (rdOf ByteArray.empty l 0).size l.length else []
theorem rimB_len (l : List ByteArray) : (rimB l).length ≤ 32 := by
  unfold rimB
  by_cases g : gridB l = true
  · rw [if_pos g]
    simp only [rimUpto, List.length_map, List.length_range]
    exact (gridB_yes.1 g).2.1
  · rw [if_neg g]; simp
theorem impl_rim (l : List ByteArray) : Ev (fun k => impl_RimOf.f k l) (rimB l) := by
  unfold impl_RimOf.f rimB
  refine ev_bind (impl_grid l) ?_
  by_cases g : gridB l = true
  · rw [if_pos g, if_pos g]
    refine ev_pos ?_ (ev_some _)
    obtain ⟨h1, h2, h3⟩ := gridB_yes.1 g
    have h4 := h3 (by omega)
    have e : rdOf ByteArray.empty l 0 = l[0] := rdOf_at _ l 0 (by omega)
    simp only [rimOk, Bool.and_eq_true, decide_eq_true_eq, List.all_eq_true, beq_iff_eq]
    rw [e]
    exact ⟨h1, h2, h4.2.1, h4.2.2⟩
  · rw [if_neg g, if_neg g]
    exact ev_some _
section
variable (l : List ByteArray) (n : Nat) (hs : ∀ j : Int, 0 ≤ j → j < l.length → (rdOf ByteArray.empty l j).size = n) (hl : l.length ≤ 32) (hn : n ≤ 32)
include hs hl hn
omit hs hl in
theorem j3_step (x3 : List ByteArray) (i : Int) (x5 : List Int) (c : Nat) (v : Int) (b : Bool) (r : List ByteArray) (h5 : x5.length ≤ 32) (hc : c < n)
    (h : Ev (fun k => spec_RimOf.l1 k l x3 i (x5 ++ [if b = true then 32 else v]) ((c + 1 : Nat) : Int)) r) : Ev (fun k => spec_RimOf.j3 k l x3 i x5 c v b) r := by
  refine ev_step h fun k => ?_
  simp only [spec_RimOf.j3]
  cases b
  · rw [if_neg (by simp), if_pos (by omega), w64s hc (by omega)]; simp
  · rw [if_pos rfl, if_pos (by omega), w64s hc (by omega)]; simp
theorem j2_step (x3 : List ByteArray) (i : Int) (x5 : List Int) (c : Nat) (b : Bool) (r : List ByteArray) (h5 : x5.length ≤ 32) (hc : c < n) (hi0 : 0 ≤ i) (hi : i < l.length)
    (h : Ev (fun k => spec_RimOf.l1 k l x3 i (x5 ++ [if (b && (inT l n i c 2 && inT l n i c 3)) = true then 32 else bt (rdOf ByteArray.empty l i) c]) ((c + 1 : Nat) : Int)) r) :
    Ev (fun k => spec_RimOf.j2 k l x3 i x5 c (bt (rdOf ByteArray.empty l i) c) b) r := by
  have z : ∀ j : Int, 0 ≤ j → j < l.length → ((rdOf ByteArray.empty l j).size : Int) = n := fun j h0 h1 => by rw [hs j h0 h1]
  have w1 : wrap64 (i + 1) = i + 1 := w64 (by omega) (by omega)
  have w2 : wrap64 (i - 1) = i - 1 := w64 (by omega) (by omega)
  have w3 : i + -1 = i - 1 := by omega
  cases b with
  | false =>
    refine ev_step (j3_step l n hn x3 i x5 c (bt (rdOf ByteArray.empty l i) c) false r h5 hc (by simpa only [Bool.false_and] using h)) fun k => ?_
    simp only [spec_RimOf.j2]
    rw [if_neg (by simp)]
  | true =>
    simp only [Bool.true_and] at h
    have key : ∀ b', (inT l n i c 2 && inT l n i c 3) = b' → Ev (fun k => spec_RimOf.j3 k l x3 i x5 c (bt (rdOf ByteArray.empty l i) c) b') r := fun b' hb => j3_step l n hn x3 i x5 c _ b' r h5 hc (by rw [← hb]; exact h)
    simp only [inT, w3] at key
    by_cases h0 : i = 0
    · have d0 : decide (i < 1) = true := decide_eq_true (by omega)
      by_cases h1 : i + 1 = l.length
      · have d1 : decide ((l.length : Int) ≤ i + 1) = true := decide_eq_true (by omega)
        refine ev_step (key true (by rw [d0, d1]; rfl)) fun k => ?_
        simp only [spec_RimOf.j2]
        rw [if_pos trivial, if_pos h0, w1, if_pos h1]
      · have d1 : decide ((l.length : Int) ≤ i + 1) = false := decide_eq_false (by omega)
        refine ev_step (key (bt (rdOf ByteArray.empty l (i + 1)) c == bt (rdOf ByteArray.empty l i) c) (by rw [d0, d1]; simp; rfl)) fun k => ?_
        simp only [spec_RimOf.j2]
        rw [if_pos trivial, if_pos h0, w1, if_neg h1, if_pos (by omega), if_pos (by omega), if_pos (by omega), if_pos (by rw [z _ (by omega) (by omega)]; omega)]
    · have d0 : decide (i < 1) = false := decide_eq_false (by omega)
      by_cases h3 : bt (rdOf ByteArray.empty l (i - 1)) c = bt (rdOf ByteArray.empty l i) c
      · have d3 : decide (bt (rdOf ByteArray.empty l (i - 1)) c = bt (rdOf ByteArray.empty l i) c) = true := decide_eq_true h3
        by_cases h1 : i + 1 = l.length
        · have d1 : decide ((l.length : Int) ≤ i + 1) = true := decide_eq_true (by omega)
          refine ev_step (key true (by rw [d0, d1, d3]; rfl)) fun k => ?_
          simp only [spec_RimOf.j2]
          rw [if_pos trivial, if_neg h0, w2, if_pos (by omega), if_pos (by omega), if_pos (by omega), if_pos (by rw [z _ (by omega) (by omega)]; omega), if_pos h3, w1, if_pos h1]
        · have d1 : decide ((l.length : Int) ≤ i + 1) = false := decide_eq_false (by omega)
          refine ev_step (key (bt (rdOf ByteArray.empty l (i + 1)) c == bt (rdOf ByteArray.empty l i) c) (by rw [d0, d1, d3]; simp; rfl)) fun k => ?_
          simp only [spec_RimOf.j2]
          rw [if_pos trivial, if_neg h0, w2, if_pos (by omega), if_pos (by omega), if_pos (by omega), if_pos (by rw [z _ (by omega) (by omega)]; omega), if_pos h3, w1, if_neg h1, if_pos (by omega), if_pos (by omega), if_pos (by rw [z _ (by omega) (by omega)]; omega)]
      · have d3 : decide (bt (rdOf ByteArray.empty l (i - 1)) c = bt (rdOf ByteArray.empty l i) c) = false := decide_eq_false h3
        refine ev_step (key false (by rw [d0, d3]; rfl)) fun k => ?_
        simp only [spec_RimOf.j2]
        rw [if_pos trivial, if_neg h0, w2, if_pos (by omega), if_pos (by omega), if_pos (by omega), if_pos (by rw [z _ (by omega) (by omega)]; omega), if_neg h3]
theorem l1_step (x3 : List ByteArray) (i : Int) (x5 : List Int) (c : Nat) (r : List ByteArray) (h5 : x5.length ≤ 32) (hc : c < n) (hi0 : 0 ≤ i) (hi : i < l.length)
    (h : Ev (fun k => spec_RimOf.l1 k l x3 i (x5 ++ [rimV l n i c]) ((c + 1 : Nat) : Int)) r) :
    Ev (fun k => spec_RimOf.l1 k l x3 i x5 c) r := by
  have z : ((rdOf ByteArray.empty l i).size : Int) = n := by rw [hs i hi0 hi]
  have w1 : wrap64 ((c : Int) + 1) = c + 1 := w64 (by omega) (by omega)
  have w2 : wrap64 ((c : Int) - 1) = c - 1 := w64 (by omega) (by omega)
  have w3 : (c : Int) + -1 = c - 1 := by omega
  have go : ∀ b : Bool, (inT l n i c 0 && inT l n i c 1) = b → Ev (fun k => spec_RimOf.j2 k l x3 i x5 c (bt (rdOf ByteArray.empty l i) c) b) r := fun b hb => by
    refine j2_step l n hs hl hn x3 i x5 c b r h5 hc hi0 hi ?_
    rw [← hb, Bool.and_assoc]
    exact h
  simp only [inT, w3] at go
  by_cases h0 : (c : Int) = 0
  · have d0 : decide ((c : Int) < 1) = true := decide_eq_true (by omega)
    by_cases h1 : (c : Int) + 1 = n
    · have d1 : decide ((n : Int) ≤ (c : Int) + 1) = true := decide_eq_true (by omega)
      refine ev_step (go true (by rw [d0, d1]; rfl)) fun k => ?_
      simp only [spec_RimOf.l1]
      rw [if_pos hi0, if_pos hi, z, if_pos (by omega), if_pos (by omega), if_pos h0, w1, if_pos h1]
    · have d1 : decide ((n : Int) ≤ (c : Int) + 1) = false := decide_eq_false (by omega)
      refine ev_step (go (bt (rdOf ByteArray.empty l i) (c + 1) == bt (rdOf ByteArray.empty l i) c) (by rw [d0, d1]; simp; rfl)) fun k => ?_
      simp only [spec_RimOf.l1]
      rw [if_pos hi0, if_pos hi, z, if_pos (by omega), if_pos (by omega), if_pos h0, w1, if_neg h1, if_pos (by omega), if_pos (by omega)]
  · have d0 : decide ((c : Int) < 1) = false := decide_eq_false (by omega)
    by_cases h3 : bt (rdOf ByteArray.empty l i) (c - 1) = bt (rdOf ByteArray.empty l i) c
    · have d3 : decide (bt (rdOf ByteArray.empty l i) (c - 1) = bt (rdOf ByteArray.empty l i) c) = true := decide_eq_true h3
      by_cases h1 : (c : Int) + 1 = n
      · have d1 : decide ((n : Int) ≤ (c : Int) + 1) = true := decide_eq_true (by omega)
        refine ev_step (go true (by rw [d0, d1, d3]; rfl)) fun k => ?_
        simp only [spec_RimOf.l1]
        rw [if_pos hi0, if_pos hi, z, if_pos (by omega), if_pos (by omega), if_neg h0, w2, if_pos (by omega), if_pos (by omega), if_pos h3, w1, if_pos h1]
      · have d1 : decide ((n : Int) ≤ (c : Int) + 1) = false := decide_eq_false (by omega)
        refine ev_step (go (bt (rdOf ByteArray.empty l i) (c + 1) == bt (rdOf ByteArray.empty l i) c) (by rw [d0, d1, d3]; simp; rfl)) fun k => ?_
        simp only [spec_RimOf.l1]
        rw [if_pos hi0, if_pos hi, z, if_pos (by omega), if_pos (by omega), if_neg h0, w2, if_pos (by omega), if_pos (by omega), if_pos h3, w1, if_neg h1, if_pos (by omega), if_pos (by omega)]
    · have d3 : decide (bt (rdOf ByteArray.empty l i) (c - 1) = bt (rdOf ByteArray.empty l i) c) = false := decide_eq_false h3
      refine ev_step (go false (by rw [d0, d3]; rfl)) fun k => ?_
      simp only [spec_RimOf.l1]
      rw [if_pos hi0, if_pos hi, z, if_pos (by omega), if_pos (by omega), if_neg h0, w2, if_pos (by omega), if_pos (by omega), if_neg h3]
theorem row_loop (i : Nat) (hi : i < l.length) (r : List ByteArray)
    (h : Ev (fun k => spec_RimOf.l0 k l (rimUpto l n (i + 1)) ((i + 1 : Nat) : Int)) r) (d : Nat) : ∀ (c : Nat), c + d = n → Ev (fun k => spec_RimOf.l1 k l (rimUpto l n i) (i : Int) ((List.range c).map (rimV l n i)) (c : Int)) r := by
  induction d with
  | zero =>
    intro c hd
    obtain rfl : c = n := by omega
    refine ev_step h fun k => ?_
    simp only [spec_RimOf.l1]
    rw [if_pos (by omega), if_pos (by omega), if_neg (by rw [hs _ (by omega) (by omega)]; omega), if_pos (by simp [rimUpto]; omega), w64s hi (by omega)]
    congr 1
    rw [rimUpto, rimUpto, List.range_succ, List.map_append]
    rfl
  | succ d ih =>
    intro c hd
    refine l1_step l n hs hl hn _ _ _ c r (by simp; omega) (by omega) (by omega) (by omega) ?_
    have := ih (c + 1) (by omega)
    rw [List.range_succ, List.map_append] at this
    exact this
theorem rows_loop (d : Nat) : ∀ (i : Nat), i + d = l.length → Ev (fun k => spec_RimOf.l0 k l (rimUpto l n i) (i : Int)) (rimUpto l n l.length) := by
  induction d with
  | zero =>
    intro i hd
    obtain rfl : i = l.length := by omega
    refine ev_one fun k => ?_
    simp only [spec_RimOf.l0]
    rw [if_neg (by omega)]
  | succ d ih =>
    intro i hd
    refine ev_step (row_loop l n hs hl hn i (by omega) _ (ih (i + 1) (by omega)) n 0 (by omega)) fun k => ?_
    simp only [spec_RimOf.l0]
    rw [if_pos (by omega)]
    rfl
end
theorem spec_rim (l : List ByteArray) : Ev (fun k => spec_RimOf.f k l) (rimB l) := by
  unfold spec_RimOf.f rimB
  refine ev_use rfl (ev_bind (spec_grid l) ?_)
  by_cases g : gridB l = true
  · rw [if_pos g]
    obtain ⟨h1, h2, h3⟩ := gridB_yes.1 g
    have h4 := h3 (by omega)
    have e : rdOf ByteArray.empty l 0 = l[0] := rdOf_at _ l 0 (by omega)
    refine ev_pos g ?_
    rw [e]
    exact rows_loop l _ (fun j hj0 hj1 => by
      obtain ⟨m, rfl⟩ : ∃ m : Nat, j = m := ⟨j.toNat, by omega⟩
      rw [rdOf_at _ l m (by omega)]
      exact h4.2.2 _ (List.getElem_mem _)) h2 h4.2.1 l.length 0 (by omega)
  · rw [if_neg g]
    exact ev_neg g (ev_some _)
end Go.Proofs.Ytfmkbcmoibhffaa.RimR
