/- The reference's draws out of a text of bytes: every draw ends, and what is drawn lies within its bounds. -/
import Derived.Test.YteadienaeapaeaaDoorZprBase
import Derived.WalkSmall
import Derived.Test.YteadienaeapaeaaDoorZprPWx19
namespace Go.Proofs.YteadienaeapaeaaDoor.DrawW
open Go Go.RowKit Go.Proofs.YteadienaeapaeaaDoorW.PrintWords Go.Proofs.YteadienaeapaeaaDoorW.PrintLast Go.Proofs.YteadienaeapaeaaDoorW.PrintMore Go.Proofs.YteadienaeapaeaaDoor.Base Go.Proofs.YteadienaeapaeaaDoor.PW
/-- The numbers of a text of bytes. -/
def Bytes (s : List Int) : Prop := s.length ≤ 9223372036854775807 ∧ ∀ x ∈ s, 0 ≤ x ∧ x ≤ 255
theorem Bytes.at_ {s : List Int} (h : Bytes s) (i : Int) : 0 ≤ rd s i ∧ rd s i ≤ 255 := by
  unfold rd
  rw [List.getD_eq_getElem?_getD]
  cases e : s[i.toNat]? with
  | none => simp
  | some x => exact h.2 x (List.mem_of_getElem? e)
theorem and255 (a : Int) (h0 : 0 ≤ a) (h1 : a ≤ 18446744073709551615) : 0 ≤ bits .and .u64 a 255 ∧ bits .and .u64 a 255 ≤ 255 := by
  have h := bits_and_u64_nat a.toNat 255 (by omega) (by omega)
  rw [Int.toNat_of_nonneg h0] at h
  have h2 : a.toNat &&& 255 ≤ 255 := Nat.and_le_right
  have h3 : bits .and .u64 a 255 = ((a.toNat &&& 255 : Nat) : Int) := h
  omega
abbrev sd (q x : Int) : Int := IntKind.u64.wrap ((IntKind.u64.wrap ((IntKind.u64.wrap (q * 6364136223846793005)) + (IntKind.u64.wrap (x)))) + 1442695040888963407)
theorem sd_u64 (q x : Int) : 0 ≤ sd q x ∧ sd q x ≤ 18446744073709551615 := by
  unfold sd
  generalize IntKind.u64.wrap ((IntKind.u64.wrap (q * 6364136223846793005)) + (IntKind.u64.wrap (x))) = y
  rw [IntKind.wrap_u64]; omega
/-- One byte drawn: the place goes on by one. -/
theorem next_tells {s : List Int} (hs : Bytes s) (p q : Int) (h0 : 0 ≤ p) (h1 : p ≤ 4611686018427387904) : ∃ v q', Ev (fun k => spec_l00Src_next.f k s p q) (v, p + 1, q') ∧ 0 ≤ v ∧ v ≤ 255 := by
  have hw : wrap64 (p + 1) = p + 1 := w64 (by omega) (by omega)
  have hj : ∀ x : Int, 0 ≤ x → x ≤ 255 → ∃ v q', Ev (fun k => spec_l00Src_next.j0 k x s p q) (v, p + 1, q') ∧ 0 ≤ v ∧ v ≤ 255 := by
    intro x hx0 hx1
    have hu := sd_u64 q x
    by_cases hc : p + 1 ≤ s.length
    · refine ⟨x, sd q x, ev_one fun k => ?_, hx0, hx1⟩
      simp only [spec_l00Src_next.j0]
      rw [hw, if_pos hc]
    · have hb := and255 (sd q x / 1099511627776) (by omega) (by omega)
      refine ⟨bits .and .u64 (sd q x / 1099511627776) 255, sd q x, ev_one fun k => ?_, hb.1, hb.2⟩
      simp only [spec_l00Src_next.j0]
      rw [hw, if_neg hc, w64 (x := bits .and .u64 (sd q x / 1099511627776) 255) (by omega) (by omega)]
  by_cases hc : p < s.length
  · have hr := hs.at_ p
    obtain ⟨v, q', h, hv⟩ := hj (rd s p) hr.1 hr.2
    refine ⟨v, q', ?_, hv⟩
    unfold spec_l00Src_next.f
    refine ev_pos hc (ev_pos h0 ?_)
    rw [w64 (x := rd s p) (by omega) (by omega)]
    exact h
  · obtain ⟨v, q', h, hv⟩ := hj 0 (by omega) (by omega)
    refine ⟨v, q', ?_, hv⟩
    unfold spec_l00Src_next.f
    exact ev_neg hc h
/-- A number below m drawn. -/
theorem pick_tells {s : List Int} (hs : Bytes s) (p q m : Int) (h0 : 0 ≤ p) (h1 : p ≤ 4611686018427387900) : ∃ v p' q', Ev (fun k => spec_l00Src_pick.f k s p q m) (v, p', q') ∧ 0 ≤ v ∧ (1 ≤ m → v < m) ∧ p ≤ p' ∧ p' ≤ p + 2 := by
  unfold spec_l00Src_pick.f
  by_cases hm : m ≤ 1
  · exact ⟨0, p, q, ev_pos hm (ev_some _), by omega, by omega, by omega, by omega⟩
  · obtain ⟨v, q', h, hv0, hv1⟩ := next_tells hs p q h0 (by omega)
    by_cases hm2 : m > 200
    · obtain ⟨v2, q2, g, hg0, hg1⟩ := next_tells hs (p + 1) q' (by omega) (by omega)
      have hw1 : wrap64 (v * 256) = v * 256 := w64 (by omega) (by omega)
      have hw2 : wrap64 (v * 256 + v2) = v * 256 + v2 := w64 (by omega) (by omega)
      refine ⟨Int.tmod (v * 256 + v2) m, p + 1 + 1, q2, ev_neg hm (ev_bind h (ev_pos hm2 (ev_bind g (ev_neg (by omega) ?_)))), Int.tmod_nonneg _ (by omega), fun _ => Int.tmod_lt_of_pos _ (by omega), by omega, by omega⟩
      simp only [hw1, hw2]
      exact ev_some _
    · exact ⟨Int.tmod v m, p + 1, q', ev_neg hm (ev_bind h (ev_neg hm2 (ev_neg (by omega) (ev_some _)))), Int.tmod_nonneg _ (by omega), fun _ => Int.tmod_lt_of_pos _ (by omega), by omega, by omega⟩
theorem one_tells {s : List Int} (hs : Bytes s) (p q m : Int) (h0 : 0 ≤ p) (h1 : p ≤ 4611686018427387900) : ∃ v p' q', Ev (fun k => spec_l00Src_one.f k s p q m) (v, p', q') ∧ p ≤ p' ∧ p' ≤ p + 2 := by
  obtain ⟨v, p', q', h, _, _, h2, h3⟩ := pick_tells hs p q m h0 h1
  unfold spec_l00Src_one.f
  exact ⟨v == 0, p', q', ev_bind h (ev_some _), h2, h3⟩
theorem text_tells {s : List Int} (hs : Bytes s) (p q : Int) (l : List ByteArray) (hl : 1 ≤ l.length) (hl2 : l.length ≤ 9223372036854775807) (h0 : 0 ≤ p) (h1 : p ≤ 4611686018427387900) : ∃ v p' q', Ev (fun k => spec_l00Src_text.f k s p q l) (v, p', q') ∧ v ∈ l ∧ p ≤ p' ∧ p' ≤ p + 2 := by
  obtain ⟨v, p', q', h, hv0, hv1, h2, h3⟩ := pick_tells hs p q l.length h0 h1
  have hv := hv1 (by omega)
  obtain ⟨n, rfl⟩ : ∃ n : Nat, v = n := ⟨v.toNat, by omega⟩
  unfold spec_l00Src_text.f
  refine ⟨l[n]'(by omega), p', q', ev_bind h (ev_pos (by omega) (ev_pos (by omega) ?_)), List.getElem_mem _, h2, h3⟩
  rw [show rdOf ByteArray.empty l (n : Int) = l[n]'(by omega) from rdOf_at _ l n (by omega)]
  exact ev_some _
end Go.Proofs.YteadienaeapaeaaDoor.DrawW
