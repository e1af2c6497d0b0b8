-- Made by a program of this session (myprint.py) out of the translation.
import Derived.Test.YtfmkbcmoibhffaaPRx0
import Derived.Deep.QuietTactic
namespace Go.Proofs.Ytfmkbcmoibhffaa.PR
open Go.Proofs.Ytfmkbcmoibhffaa.Dyn
open Go.RowKit Go.Proofs.YtfmkbcmoibhffaaW.PrintWords Go.Proofs.YtfmkbcmoibhffaaW.PrintLast Go.Proofs.YtfmkbcmoibhffaaW.PrintMore
attribute [local go_sem] max2_int min2_int max_two min_two max_three min_three max_four min_four   -- for this text's walks alone
set_option linter.unusedVariables false
set_option linter.unusedSimpArgs false

/-! ### impl_isInner: function 48 -/
/-- The four neighbours of a byte of a grid: is each that there is equal to it? -/
def inT (l : List ByteArray) (n i k : Int) (j : Nat) : Bool :=
  match j with
  | 0 => decide (k < 1) || decide (bt (rdOf ByteArray.empty l i) (k + -1) = bt (rdOf ByteArray.empty l i) k)
  | 1 => decide (n ≤ k + 1) || decide (bt (rdOf ByteArray.empty l i) (k + 1) = bt (rdOf ByteArray.empty l i) k)
  | 2 => decide (i < 1) || decide (bt (rdOf ByteArray.empty l (i + -1)) k = bt (rdOf ByteArray.empty l i) k)
  | _ => decide ((l.length : Int) ≤ i + 1) || decide (bt (rdOf ByteArray.empty l (i + 1)) k = bt (rdOf ByteArray.empty l i) k)
def inner (l : List ByteArray) (n i k : Int) : Bool := inT l n i k 0 && (inT l n i k 1 && (inT l n i k 2 && inT l n i k 3))
theorem isInner_round {l : List ByteArray} {n i k : Int} {j : Nat} (hp : ∀ t, t < j → inT l n i k t = true) (h : inT l n i k j = true) : ∀ t, t < j + 1 → inT l n i k t = true := by
  intro t ht
  rcases Nat.lt_or_ge t j with h1 | h1
  · exact hp t h1
  · obtain rfl : t = j := by omega
    exact h
theorem inner_all {l : List ByteArray} {n i k : Int} (hp : ∀ t, t < 4 → inT l n i k t = true) : inner l n i k = true := by
  unfold inner
  rw [hp 0 (by omega), hp 1 (by omega), hp 2 (by omega), hp 3 (by omega)]
  rfl
theorem inner_no {l : List ByteArray} {n i k : Int} (j : Nat) (hj : j < 4) (h : inT l n i k j = false) : inner l n i k = false := by
  unfold inner
  rcases (show j = 0 ∨ j = 1 ∨ j = 2 ∨ j = 3 by omega) with rfl | rfl | rfl | rfl <;> simp [h]
theorem row_size {l : List ByteArray} {n : Int} (hs : ∀ y ∈ l, (y.size : Int) = n) (r : Int) (h0 : 0 ≤ r) (h1 : r < l.length) : ((rdOf ByteArray.empty l r).size : Int) = n := by
  unfold rdOf
  rw [List.getD_eq_getElem?_getD, List.getElem?_eq_getElem (by omega : r.toNat < l.length)]
  exact hs _ (List.getElem_mem _)
set_option maxRecDepth 100000 in
set_option maxHeartbeats 8000000 in
theorem impl_isInner_calls (ad : Addr) (c : Nat) (l : List ByteArray) (i k n : Int) (w : World) (hi0 : 0 ≤ i) (hi : i < l.length) (hl : l.length ≤ 32) (hk0 : 0 ≤ k) (hk : k < n) (hn : n ≤ 32) (hs : ∀ y ∈ l, (y.size : Int) = n) (hr : Kd.C Kd.string w (some ad) l.length l) (hc : l.length ≤ c) :
    Calls Try.prog 48 #[.slice (some ad) l.length c, .int .i64 i, .int .i64 k] w fun e w' => e = .returned (.bool (inner l n i k)) ∧ Below w.heap.size w w' := by
  have i0 : ∀ w, (Instr.index 78 (.agg #[.int .i64 0, .int .i64 (-1), .int .i64 0, .int .i64 1, .int .i64 (-1), .int .i64 0, .int .i64 1, .int .i64 0]) (.int .i64 0)).run Try.prog w = .ok (.agg #[.int .i64 0, .int .i64 (-1)]) w := fun _ => by kernel_rfl
  have i1 : ∀ w, (Instr.index 78 (.agg #[.int .i64 0, .int .i64 (-1), .int .i64 0, .int .i64 1, .int .i64 (-1), .int .i64 0, .int .i64 1, .int .i64 0]) (.int .i64 1)).run Try.prog w = .ok (.agg #[.int .i64 0, .int .i64 1]) w := fun _ => by kernel_rfl
  have i2 : ∀ w, (Instr.index 78 (.agg #[.int .i64 0, .int .i64 (-1), .int .i64 0, .int .i64 1, .int .i64 (-1), .int .i64 0, .int .i64 1, .int .i64 0]) (.int .i64 2)).run Try.prog w = .ok (.agg #[.int .i64 (-1), .int .i64 0]) w := fun _ => by kernel_rfl
  have i3 : ∀ w, (Instr.index 78 (.agg #[.int .i64 0, .int .i64 (-1), .int .i64 0, .int .i64 1, .int .i64 (-1), .int .i64 0, .int .i64 1, .int .i64 0]) (.int .i64 3)).run Try.prog w = .ok (.agg #[.int .i64 1, .int .i64 0]) w := fun _ => by kernel_rfl
  have hsz : ∀ r : Int, 0 ≤ r → r < l.length → ((rdOf ByteArray.empty l r).size : Int) = n := fun r h0 h1 => row_size hs r h0 h1
  have HS := Aside0.mk hsz
  clear hsz
  have HS0 := Aside0.mk hs
  clear hs
  have HR := Aside0.mk hr
  clear hr
  go_enter Try.func48, Try.ntmps48
  go_wp2
  go_loopw [16] (fun v wr => ∃ j : Int, 0 ≤ j ∧ j ≤ 4 ∧ v = .int .i64 j ∧ Aside0 (∀ t : Nat, t < j.toNat → inT l n i k t = true) ∧ Aside0 (Below w.heap.size w wr)) (fun v _ => 4 - (intOf v).toNat)
  case atStart => exact ⟨0, by omega, by omega, rfl, ⟨fun t ht => by simp at ht⟩, ⟨Below.refl _ _⟩⟩
  case round =>
    obtain ⟨j, hj0, hj, rfl, HP, HB⟩ := hrel
    have hj4 : j = 4 ∨ j = 0 ∨ j = 1 ∨ j = 2 ∨ j = 3 := by omega
    rcases hj4 with rfl | rfl | rfl | rfl | rfl
    · go_wp2
      go_ret
      exact ⟨by rw [inner_all HP.out]; rfl, HB.out⟩
    · go_wp2_with (first | ((with_reducible refine gate_dst (N := 8) rfl ?_); refine box_event ?hg (N := 8) ?hd (cs := #[.int .i64 0, .int .i64 0]) (t := 77) ?hr ?_; (case hd => rfl); (case hg => rfl); (case hr => first | (go_simp; done) | (go_simp; rfl)); intro gb hg w7 hbox hb; have hcz0 : w7.cell? ⟨gb, 0, none⟩ = some (.int .i64 0) := (blk_cell hbox 0).trans rfl; have hcz1 : w7.cell? ⟨gb, 1, none⟩ = some (.int .i64 0) := (blk_cell hbox 1).trans rfl; have hfz0 := blk_frozen hbox 0; have hfz1 := blk_frozen hbox 1; have hge : wr.heap.size ≤ gb := Nat.le_of_eq hg.symm; clear hg))
      have hBe : Below w.heap.size w ((w7.setCell ⟨gb, 0, none⟩ (.int .i64 0)).setCell ⟨gb, 1, none⟩ (.int .i64 (-1))) := by
        have := HB.out.size
        exact below_set (below_set (below_step HB.out hb) (by omega)) (by omega)
      have hd0 : ((w7.setCell ⟨gb, 0, none⟩ (.int .i64 0)).setCell ⟨gb, 1, none⟩ (.int .i64 (-1))).cell? ⟨gb, 0, none⟩ = some (.int .i64 0) := by go_simp
      have hd1 : ((w7.setCell ⟨gb, 0, none⟩ (.int .i64 0)).setCell ⟨gb, 1, none⟩ (.int .i64 (-1))).cell? ⟨gb, 1, none⟩ = some (.int .i64 (-1)) := by go_simp
      clear hcz0 hcz1 hfz0 hfz1 hbox hb
      generalize ((w7.setCell ⟨gb, 0, none⟩ (.int .i64 0)).setCell ⟨gb, 1, none⟩ (.int .i64 (-1))) = W at hBe hd0 hd1 ⊢
      clear HB
      have HB := Aside0.mk hBe
      clear hBe
      by_cases hskip : k < 1
      · go_quiet (fail)
        go_wp2
        go_roundw
        case rel => exact ⟨1, by omega, by omega, rfl, ⟨isInner_round (j := 0) HP.out (by simp [inT, hskip])⟩, ⟨by repeat (first | exact HB.out | apply pw_below_drewN | apply below_drew1)⟩⟩
        case measure => simp [intOf]
      · have h00 : 0 ≤ k + -1 := by omega
        have h01 : 0 ≤ i := by omega
        have h02 : i < (l.length : Int) := by omega
        have h03 : k + -1 < n := by omega
        obtain ⟨_, e1, x0⟩ := Kd.at_string (Kd.C_below HR.out HB.out) 0 (by omega) (by omega)
        cases e1
        (try rw [show ((0 : Int)).toNat = 0 from rfl] at x0)
        (try rw [Addr.add_zero'] at x0)
        have z0 := HS.out 0 (by omega) (by omega)
        obtain ⟨_, e2, x1⟩ := Kd.at_string (Kd.C_below HR.out HB.out) i hi0 hi
        cases e2
        have z1 := HS.out i hi0 hi
        have hbt0 := bt_at (rdOf ByteArray.empty l i) k
        have hbt1 := bt_at (rdOf ByteArray.empty l i) (k + -1)
        by_cases hq : bt (rdOf ByteArray.empty l i) (k + -1) = bt (rdOf ByteArray.empty l i) k
        · have hq1 : (bt (rdOf ByteArray.empty l i) (k + -1) != bt (rdOf ByteArray.empty l i) k) = false := bne_eq_false_iff_eq.mpr hq
          have HQ := Aside0.mk hq
          clear hq
          go_quiet (fail)
          go_wp2
          go_quiet (fail)
          go_wp2
          go_roundw
          case rel => exact ⟨1, by omega, by omega, rfl, ⟨isInner_round (j := 0) HP.out (by simp [inT, HQ.out])⟩, ⟨by repeat (first | exact HB.out | apply pw_below_drewN | apply below_drew1)⟩⟩
          case measure => simp [intOf]
        · have hq1 : (bt (rdOf ByteArray.empty l i) (k + -1) != bt (rdOf ByteArray.empty l i) k) = true := bne_iff_ne.mpr hq
          have HQ := Aside0.mk hq
          clear hq
          have HK := Aside0.mk hskip
          clear hskip
          go_quiet (fail)
          go_wp2
          go_quiet (fail)
          go_wp2
          go_ret
          exact ⟨by rw [inner_no 0 (by omega) (by simp [inT, HQ.out, HK.out])]; rfl, by repeat (first | exact HB.out | apply pw_below_drewN | apply below_drew1)⟩
    · go_wp2_with (first | ((with_reducible refine gate_dst (N := 8) rfl ?_); refine box_event ?hg (N := 8) ?hd (cs := #[.int .i64 0, .int .i64 0]) (t := 77) ?hr ?_; (case hd => rfl); (case hg => rfl); (case hr => first | (go_simp; done) | (go_simp; rfl)); intro gb hg w7 hbox hb; have hcz0 : w7.cell? ⟨gb, 0, none⟩ = some (.int .i64 0) := (blk_cell hbox 0).trans rfl; have hcz1 : w7.cell? ⟨gb, 1, none⟩ = some (.int .i64 0) := (blk_cell hbox 1).trans rfl; have hfz0 := blk_frozen hbox 0; have hfz1 := blk_frozen hbox 1; have hge : wr.heap.size ≤ gb := Nat.le_of_eq hg.symm; clear hg))
      have hBe : Below w.heap.size w ((w7.setCell ⟨gb, 0, none⟩ (.int .i64 0)).setCell ⟨gb, 1, none⟩ (.int .i64 1)) := by
        have := HB.out.size
        exact below_set (below_set (below_step HB.out hb) (by omega)) (by omega)
      have hd0 : ((w7.setCell ⟨gb, 0, none⟩ (.int .i64 0)).setCell ⟨gb, 1, none⟩ (.int .i64 1)).cell? ⟨gb, 0, none⟩ = some (.int .i64 0) := by go_simp
      have hd1 : ((w7.setCell ⟨gb, 0, none⟩ (.int .i64 0)).setCell ⟨gb, 1, none⟩ (.int .i64 1)).cell? ⟨gb, 1, none⟩ = some (.int .i64 1) := by go_simp
      clear hcz0 hcz1 hfz0 hfz1 hbox hb
      generalize ((w7.setCell ⟨gb, 0, none⟩ (.int .i64 0)).setCell ⟨gb, 1, none⟩ (.int .i64 1)) = W at hBe hd0 hd1 ⊢
      clear HB
      have HB := Aside0.mk hBe
      clear hBe
      by_cases hskip : n ≤ k + 1
      · obtain ⟨_, e1, x0⟩ := Kd.at_string (Kd.C_below HR.out HB.out) 0 (by omega) (by omega)
        cases e1
        (try rw [show ((0 : Int)).toNat = 0 from rfl] at x0)
        (try rw [Addr.add_zero'] at x0)
        have z0 := HS.out 0 (by omega) (by omega)
        go_quiet (fail)
        go_wp2
        go_roundw
        case rel => exact ⟨2, by omega, by omega, rfl, ⟨isInner_round (j := 1) HP.out (by simp [inT, hskip])⟩, ⟨by repeat (first | exact HB.out | apply pw_below_drewN | apply below_drew1)⟩⟩
        case measure => simp [intOf]
      · have h00 : 0 ≤ k + 1 := by omega
        have h01 : 0 ≤ i := by omega
        have h02 : i < (l.length : Int) := by omega
        have h03 : k + 1 < n := by omega
        obtain ⟨_, e1, x0⟩ := Kd.at_string (Kd.C_below HR.out HB.out) 0 (by omega) (by omega)
        cases e1
        (try rw [show ((0 : Int)).toNat = 0 from rfl] at x0)
        (try rw [Addr.add_zero'] at x0)
        have z0 := HS.out 0 (by omega) (by omega)
        obtain ⟨_, e2, x1⟩ := Kd.at_string (Kd.C_below HR.out HB.out) i hi0 hi
        cases e2
        have z1 := HS.out i hi0 hi
        have hbt0 := bt_at (rdOf ByteArray.empty l i) k
        have hbt1 := bt_at (rdOf ByteArray.empty l i) (k + 1)
        by_cases hq : bt (rdOf ByteArray.empty l i) (k + 1) = bt (rdOf ByteArray.empty l i) k
        · have hq1 : (bt (rdOf ByteArray.empty l i) (k + 1) != bt (rdOf ByteArray.empty l i) k) = false := bne_eq_false_iff_eq.mpr hq
          have HQ := Aside0.mk hq
          clear hq
          go_quiet (fail)
          go_wp2
          go_quiet (fail)
          go_wp2
          go_roundw
          case rel => exact ⟨2, by omega, by omega, rfl, ⟨isInner_round (j := 1) HP.out (by simp [inT, HQ.out])⟩, ⟨by repeat (first | exact HB.out | apply pw_below_drewN | apply below_drew1)⟩⟩
          case measure => simp [intOf]
        · have hq1 : (bt (rdOf ByteArray.empty l i) (k + 1) != bt (rdOf ByteArray.empty l i) k) = true := bne_iff_ne.mpr hq
          have HQ := Aside0.mk hq
          clear hq
          have HK := Aside0.mk hskip
          clear hskip
          go_quiet (fail)
          go_wp2
          go_quiet (fail)
          go_wp2
          go_ret
          exact ⟨by rw [inner_no 1 (by omega) (by simp [inT, HQ.out, HK.out])]; rfl, by repeat (first | exact HB.out | apply pw_below_drewN | apply below_drew1)⟩
    · go_wp2_with (first | ((with_reducible refine gate_dst (N := 8) rfl ?_); refine box_event ?hg (N := 8) ?hd (cs := #[.int .i64 0, .int .i64 0]) (t := 77) ?hr ?_; (case hd => rfl); (case hg => rfl); (case hr => first | (go_simp; done) | (go_simp; rfl)); intro gb hg w7 hbox hb; have hcz0 : w7.cell? ⟨gb, 0, none⟩ = some (.int .i64 0) := (blk_cell hbox 0).trans rfl; have hcz1 : w7.cell? ⟨gb, 1, none⟩ = some (.int .i64 0) := (blk_cell hbox 1).trans rfl; have hfz0 := blk_frozen hbox 0; have hfz1 := blk_frozen hbox 1; have hge : wr.heap.size ≤ gb := Nat.le_of_eq hg.symm; clear hg))
      have hBe : Below w.heap.size w ((w7.setCell ⟨gb, 0, none⟩ (.int .i64 (-1))).setCell ⟨gb, 1, none⟩ (.int .i64 0)) := by
        have := HB.out.size
        exact below_set (below_set (below_step HB.out hb) (by omega)) (by omega)
      have hd0 : ((w7.setCell ⟨gb, 0, none⟩ (.int .i64 (-1))).setCell ⟨gb, 1, none⟩ (.int .i64 0)).cell? ⟨gb, 0, none⟩ = some (.int .i64 (-1)) := by go_simp
      have hd1 : ((w7.setCell ⟨gb, 0, none⟩ (.int .i64 (-1))).setCell ⟨gb, 1, none⟩ (.int .i64 0)).cell? ⟨gb, 1, none⟩ = some (.int .i64 0) := by go_simp
      clear hcz0 hcz1 hfz0 hfz1 hbox hb
      generalize ((w7.setCell ⟨gb, 0, none⟩ (.int .i64 (-1))).setCell ⟨gb, 1, none⟩ (.int .i64 0)) = W at hBe hd0 hd1 ⊢
      clear HB
      have HB := Aside0.mk hBe
      clear hBe
      by_cases hskip : i < 1
      · go_quiet (fail)
        go_wp2
        go_roundw
        case rel => exact ⟨3, by omega, by omega, rfl, ⟨isInner_round (j := 2) HP.out (by simp [inT, hskip])⟩, ⟨by repeat (first | exact HB.out | apply pw_below_drewN | apply below_drew1)⟩⟩
        case measure => simp [intOf]
      · have h00 : 0 ≤ k := by omega
        have h01 : 0 ≤ i + -1 := by omega
        have h02 : i + -1 < (l.length : Int) := by omega
        have h03 : k < n := by omega
        obtain ⟨_, e1, x0⟩ := Kd.at_string (Kd.C_below HR.out HB.out) 0 (by omega) (by omega)
        cases e1
        (try rw [show ((0 : Int)).toNat = 0 from rfl] at x0)
        (try rw [Addr.add_zero'] at x0)
        have z0 := HS.out 0 (by omega) (by omega)
        obtain ⟨_, e2, x1⟩ := Kd.at_string (Kd.C_below HR.out HB.out) i hi0 hi
        cases e2
        have z1 := HS.out i hi0 hi
        obtain ⟨_, e3, x2⟩ := Kd.at_string (Kd.C_below HR.out HB.out) (i + -1) h01 h02
        cases e3
        have z2 := HS.out (i + -1) h01 h02
        have hbt0 := bt_at (rdOf ByteArray.empty l i) k
        have hbt1 := bt_at (rdOf ByteArray.empty l (i + -1)) k
        by_cases hq : bt (rdOf ByteArray.empty l (i + -1)) k = bt (rdOf ByteArray.empty l i) k
        · have hq1 : (bt (rdOf ByteArray.empty l (i + -1)) k != bt (rdOf ByteArray.empty l i) k) = false := bne_eq_false_iff_eq.mpr hq
          have HQ := Aside0.mk hq
          clear hq
          go_quiet (fail)
          go_wp2
          go_quiet (fail)
          go_wp2
          go_roundw
          case rel => exact ⟨3, by omega, by omega, rfl, ⟨isInner_round (j := 2) HP.out (by simp [inT, HQ.out])⟩, ⟨by repeat (first | exact HB.out | apply pw_below_drewN | apply below_drew1)⟩⟩
          case measure => simp [intOf]
        · have hq1 : (bt (rdOf ByteArray.empty l (i + -1)) k != bt (rdOf ByteArray.empty l i) k) = true := bne_iff_ne.mpr hq
          have HQ := Aside0.mk hq
          clear hq
          have HK := Aside0.mk hskip
          clear hskip
          go_quiet (fail)
          go_wp2
          go_quiet (fail)
          go_wp2
          go_ret
          exact ⟨by rw [inner_no 2 (by omega) (by simp [inT, HQ.out, HK.out])]; rfl, by repeat (first | exact HB.out | apply pw_below_drewN | apply below_drew1)⟩
    · go_wp2_with (first | ((with_reducible refine gate_dst (N := 8) rfl ?_); refine box_event ?hg (N := 8) ?hd (cs := #[.int .i64 0, .int .i64 0]) (t := 77) ?hr ?_; (case hd => rfl); (case hg => rfl); (case hr => first | (go_simp; done) | (go_simp; rfl)); intro gb hg w7 hbox hb; have hcz0 : w7.cell? ⟨gb, 0, none⟩ = some (.int .i64 0) := (blk_cell hbox 0).trans rfl; have hcz1 : w7.cell? ⟨gb, 1, none⟩ = some (.int .i64 0) := (blk_cell hbox 1).trans rfl; have hfz0 := blk_frozen hbox 0; have hfz1 := blk_frozen hbox 1; have hge : wr.heap.size ≤ gb := Nat.le_of_eq hg.symm; clear hg))
      have hBe : Below w.heap.size w ((w7.setCell ⟨gb, 0, none⟩ (.int .i64 1)).setCell ⟨gb, 1, none⟩ (.int .i64 0)) := by
        have := HB.out.size
        exact below_set (below_set (below_step HB.out hb) (by omega)) (by omega)
      have hd0 : ((w7.setCell ⟨gb, 0, none⟩ (.int .i64 1)).setCell ⟨gb, 1, none⟩ (.int .i64 0)).cell? ⟨gb, 0, none⟩ = some (.int .i64 1) := by go_simp
      have hd1 : ((w7.setCell ⟨gb, 0, none⟩ (.int .i64 1)).setCell ⟨gb, 1, none⟩ (.int .i64 0)).cell? ⟨gb, 1, none⟩ = some (.int .i64 0) := by go_simp
      clear hcz0 hcz1 hfz0 hfz1 hbox hb
      generalize ((w7.setCell ⟨gb, 0, none⟩ (.int .i64 1)).setCell ⟨gb, 1, none⟩ (.int .i64 0)) = W at hBe hd0 hd1 ⊢
      clear HB
      have HB := Aside0.mk hBe
      clear hBe
      by_cases hskip : (l.length : Int) ≤ i + 1
      · go_quiet (fail)
        go_wp2
        go_roundw
        case rel => exact ⟨4, by omega, by omega, rfl, ⟨isInner_round (j := 3) HP.out (by simp [inT, hskip])⟩, ⟨by repeat (first | exact HB.out | apply pw_below_drewN | apply below_drew1)⟩⟩
        case measure => simp [intOf]
      · have h00 : 0 ≤ k := by omega
        have h01 : 0 ≤ i + 1 := by omega
        have h02 : i + 1 < (l.length : Int) := by omega
        have h03 : k < n := by omega
        obtain ⟨_, e1, x0⟩ := Kd.at_string (Kd.C_below HR.out HB.out) 0 (by omega) (by omega)
        cases e1
        (try rw [show ((0 : Int)).toNat = 0 from rfl] at x0)
        (try rw [Addr.add_zero'] at x0)
        have z0 := HS.out 0 (by omega) (by omega)
        obtain ⟨_, e2, x1⟩ := Kd.at_string (Kd.C_below HR.out HB.out) i hi0 hi
        cases e2
        have z1 := HS.out i hi0 hi
        obtain ⟨_, e3, x2⟩ := Kd.at_string (Kd.C_below HR.out HB.out) (i + 1) h01 h02
        cases e3
        have z2 := HS.out (i + 1) h01 h02
        have hbt0 := bt_at (rdOf ByteArray.empty l i) k
        have hbt1 := bt_at (rdOf ByteArray.empty l (i + 1)) k
        by_cases hq : bt (rdOf ByteArray.empty l (i + 1)) k = bt (rdOf ByteArray.empty l i) k
        · have hq1 : (bt (rdOf ByteArray.empty l (i + 1)) k != bt (rdOf ByteArray.empty l i) k) = false := bne_eq_false_iff_eq.mpr hq
          have HQ := Aside0.mk hq
          clear hq
          go_quiet (fail)
          go_wp2
          go_quiet (fail)
          go_wp2
          go_roundw
          case rel => exact ⟨4, by omega, by omega, rfl, ⟨isInner_round (j := 3) HP.out (by simp [inT, HQ.out])⟩, ⟨by repeat (first | exact HB.out | apply pw_below_drewN | apply below_drew1)⟩⟩
          case measure => simp [intOf]
        · have hq1 : (bt (rdOf ByteArray.empty l (i + 1)) k != bt (rdOf ByteArray.empty l i) k) = true := bne_iff_ne.mpr hq
          have HQ := Aside0.mk hq
          clear hq
          have HK := Aside0.mk hskip
          clear hskip
          go_quiet (fail)
          go_wp2
          go_quiet (fail)
          go_wp2
          go_ret
          exact ⟨by rw [inner_no 3 (by omega) (by simp [inT, HQ.out, HK.out])]; rfl, by repeat (first | exact HB.out | apply pw_below_drewN | apply below_drew1)⟩

end Go.Proofs.Ytfmkbcmoibhffaa.PR
