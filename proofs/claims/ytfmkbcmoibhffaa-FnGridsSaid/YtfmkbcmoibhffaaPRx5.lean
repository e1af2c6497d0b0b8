-- Made by a program of this session (myprint.py) out of the translation.
import Derived.Test.YtfmkbcmoibhffaaPRx0
import Derived.Test.YtfmkbcmoibhffaaPRx3
import Derived.Test.YtfmkbcmoibhffaaPRx4
import Derived.Lib.ConvBytes
namespace Go.Proofs.Ytfmkbcmoibhffaa.PR
open Go.Proofs.Ytfmkbcmoibhffaa.Dyn
open Go.RowKit Go.Proofs.YtfmkbcmoibhffaaW.PrintWords Go.Proofs.YtfmkbcmoibhffaaW.PrintLast Go.Proofs.YtfmkbcmoibhffaaW.PrintMore
attribute [local go_sem] max2_int min2_int max_two min_two max_three min_three max_four min_four   -- for this text's walks alone
set_option linter.unusedVariables false
set_option linter.unusedSimpArgs false

/-! ### impl_RimOf: function 29 -/
/-- A row of bytes that a conversion of a string has made: its cells, and that it may be written. -/
def LineAt (W : World) (g n : Nat) (lv : Nat → Int) : Prop := ∃ (cells : Array Value) (t c : Nat), W.heap[g]? = some (.cells cells t (c, c + 1)) ∧ n ≤ c ∧ 0 < c + 1 ∧ ∀ j : Nat, j < n → cells[j]? = some (.int .u8 (lv j))
theorem LineAt.cell {W : World} {g n : Nat} {lv : Nat → Int} (h : LineAt W g n lv) (j : Nat) (hj : j < n) : W.cell? ⟨g, j, none⟩ = some (.int .u8 (lv j)) := by
  obtain ⟨cells, t, c, hb, hc, _, hv⟩ := h
  rw [cell_of_row W g j cells t (c, c + 1) hb]
  exact hv j hj
theorem LineAt.frozen {W : World} {g n : Nat} {lv : Nat → Int} (h : LineAt W g n lv) (j : Nat) (hj : j < n) : W.frozen? ⟨g, j, none⟩ = false := by
  obtain ⟨cells, t, c, hb, hc, _, _⟩ := h
  simp [World.frozen?, hb]
  omega
theorem LineAt.set {W : World} {g n : Nat} {lv : Nat → Int} (h : LineAt W g n lv) (k : Nat) (x : Int) : LineAt (W.setCell ⟨g, k, none⟩ (.int .u8 x)) g n (fun j => if j = k then x else lv j) := by
  obtain ⟨cells, t, c, hb, hc, h0, hv⟩ := h
  refine ⟨cells.setIfInBounds k (.int .u8 x), t, c, by simp [World.setCell, Array.getElem?_modify, hb], hc, h0, fun j hj => ?_⟩
  have h1 := hv j hj
  rw [Array.getElem?_setIfInBounds]
  by_cases e : k = j
  · subst e
    have : k < cells.size := (Array.getElem?_eq_some_iff.1 h1).1
    simp [this]
  · rw [if_neg e, h1]
    simp [Ne.symm e]
theorem LineAt.lt {W : World} {g n : Nat} {lv : Nat → Int} (h : LineAt W g n lv) : g < W.heap.size := by
  obtain ⟨cells, t, c, hb, _⟩ := h
  exact blk_lt hb
theorem LineAt.below {W W' : World} {g n : Nat} {lv : Nat → Int} (h : LineAt W g n lv) (hb : Below W.heap.size W W') : LineAt W' g n lv := by
  obtain ⟨cells, t, c, h1, h2⟩ := h
  exact ⟨cells, t, c, (hb.block g (blk_lt h1)).trans h1, h2⟩
theorem LineAt.congr {W : World} {g n : Nat} {lv lv' : Nat → Int} (h : LineAt W g n lv) (he : ∀ j, j < n → lv j = lv' j) : LineAt W g n lv' := by
  obtain ⟨cells, t, c, h1, h2, h3, h4⟩ := h
  exact ⟨cells, t, c, h1, h2, h3, fun j hj => by rw [h4 j hj, he j hj]⟩
theorem LineAt.apart {W : World} {g n : Nat} {lv : Nat → Int} (h : LineAt W g n lv) {α : Type} {d : Kd α} {e base : Nat} {ok : Nat → Prop} {v : Value} {xs : List α} (hR : d.R e W base ok v xs) : d.R e W base (fun k => ok k ∧ k ≠ g) v xs :=
  Kd.R_mono (Kd.R_bound hR) (fun k hk => ⟨hk.1, by
    obtain ⟨_, _, _, q, _, cells', hc⟩ := hk
    obtain ⟨cells, t, c, hb, _⟩ := h
    rintro rfl
    rw [hc] at hb
    injection hb with hb
    injection hb with _ _ hb
    injection hb with h1 h2
    omega⟩)
theorem LineAt.far {W : World} {g n : Nat} {lv : Nat → Int} (h : LineAt W g n lv) {α : Type} {d : Kd α} {e base : Nat} {ok : Nat → Prop} {v : Value} {xs : List α} (hR : d.R e W base ok v xs) (j : Nat) (u : Value) : d.R e (W.setCell ⟨g, j, none⟩ u) base ok v xs :=
  Kd.R_mono (Kd.R_far (p := ⟨g, j, none⟩) (LineAt.apart h hR) (fun _ hk => hk.2) u) (fun _ hk => hk.1)
theorem LineAt.made (W : World) (e : TypeId) (s : ByteArray) : LineAt (Lib.bytesWorld W e s) W.heap.size s.size (fun j => bt s j) := by
  refine ⟨Lib.bytesCells W e s, e, (Lib.bytesCells W e s).size, Lib.bytesWorld_at_new W e s, ?_, by omega, fun j hj => ?_⟩
  · have : s.data.size = s.size := rfl
    simp [Lib.bytesCells]
  · have : s.data.size = s.size := rfl
    simp only [Lib.bytesCells]
    rw [Array.getElem?_append_left (by simpa using hj)]
    simp [bt, hj]
    rfl
theorem LineAt.reads {W : World} {g n : Nat} {lv : Nat → Int} (h : LineAt W g n lv) (hn : n ≤ 9223372036854775807) : Kd.C (Kd.int .u8) W (some ⟨g, 0, none⟩) n ((List.range n).map lv) := by
  refine ⟨by simp, hn, fun _ => ⟨_, rfl, fun j p hj => ?_⟩⟩
  obtain ⟨h1, h2⟩ := List.getElem?_eq_some_iff.1 hj
  have h3 : j < n := by simpa using h1
  have h4 : lv j = p := by simpa using h2
  subst h4
  refine ⟨[.int .u8 (lv j)], rfl, rfl, fun i u hu => ?_⟩
  match i, hu with
  | 0, hu =>
    obtain rfl : Value.int .u8 (lv j) = u := by simpa using hu
    have h5 := LineAt.cell h j h3
    have h6 : (⟨g, 0, none⟩ : Addr).add (j * 1 + 0) = ⟨g, j, none⟩ := by rw [add_plain]; congr 1; omega
    show W.cell? ((⟨g, 0, none⟩ : Addr).add (j * 1 + 0)) = _
    rw [h6]
    exact h5
theorem LineAt.kept (W : World) (e : TypeId) (s : ByteArray) : Below W.heap.size W (Lib.bytesWorld W e s) := ⟨rfl, rfl, rfl, by rw [Lib.bytesWorld_size]; omega, fun k hk => Lib.bytesWorld_at_old W e s k hk⟩
def rimV (l : List ByteArray) (n i : Int) (k : Nat) : Int := if inner l n i k = true then 32 else bt (rdOf ByteArray.empty l i) k
def rimRow (l : List ByteArray) (n : Nat) (i : Int) : ByteArray := strOfNums ((List.range n).map (rimV l n i))
def rimUpto (l : List ByteArray) (n : Nat) (i : Nat) : List ByteArray := (List.range i).map fun (j : Nat) => rimRow l n (j : Int)
theorem rimUpto_succ (l : List ByteArray) (n : Nat) (i : Int) (h0 : 0 ≤ i) : rimUpto l n (i + 1).toNat = rimUpto l n i.toNat ++ [rimRow l n i] := by
  have h1 : (i + 1).toNat = i.toNat + 1 := by omega
  rw [h1, rimUpto, rimUpto, List.range_succ, List.map_append]
  simp only [List.map_cons, List.map_nil]
  rw [Int.toNat_of_nonneg h0]
def rimOk (l : List ByteArray) : Bool := decide (1 ≤ l.length) && (decide (l.length ≤ 32) && (decide ((rdOf ByteArray.empty l 0).size ≤ 32) && l.all fun y => y.size == (rdOf ByteArray.empty l 0).size))
def impl_RimOf.f (k : Nat) (l0 : List ByteArray) : Option (List ByteArray) := (impl_isGrid.f k l0).bind fun b => if b = true then (if rimOk l0 = true then some (rimUpto l0 (rdOf ByteArray.empty l0 0).size l0.length) else none) else some []
theorem impl_RimOf.mono : ∀ a0 k, LeO (impl_RimOf.f k a0) (impl_RimOf.f (k + 1) a0) := fun a0 k => LeO.bind (impl_isGrid.mono a0 k) (fun _ => LeO.refl _)
set_option maxRecDepth 100000 in
set_option maxHeartbeats 8000000 in
theorem impl_RimOf_yes (k : Nat) (ad : Addr) (c0 : Nat) (l : List ByteArray) (n : Nat) (w : World) (hr0 : Kd.C Kd.string w (some ad) l.length l) (hc0 : l.length ≤ c0) (hg : impl_isGrid.f k l = some true) (h0 : 1 ≤ l.length) (hl : l.length ≤ 32) (hn : n ≤ 32) (hs : ∀ y ∈ l, (y.size : Int) = n) :
    Calls Try.prog 29 #[.slice (some ad) l.length c0] w fun e w' => ∃ v0_ : Value, e = .returned (v0_) ∧ Kd.R Kd.string 9 w' w.heap.size (fun _ => True) v0_ (rimUpto l n l.length) ∧ Below w.heap.size w w' := by
  have HS0 := Aside0.mk hs
  clear hs
  have HR := Aside0.mk hr0
  clear hr0
  have HC := Aside0.mk hc0
  clear hc0
  have HG := Aside0.mk hg
  clear hg
  go_enter Try.func29, Try.ntmps29
  go_wp2_with (first | (go_at_call 44; (with_reducible refine (impl_isGrid.calls k _ _ l true _ HR.out HC.out HG.out).mono ?_); rintro e w1 ⟨rfl, hb⟩; have HB := Aside0.mk hb; clear hb))
  go_loopw [3, 13] (fun v3 v13 wr => ∃ i : Int, 0 ≤ i ∧ i ≤ l.length ∧ v13 = .int .i64 i ∧ Aside0 (Kd.R Kd.string 9 wr w.heap.size (fun _ => True) v3 (rimUpto l n i.toNat)) ∧ Aside0 (Below w.heap.size w wr)) (fun _ v _ => l.length - (intOf v).toNat)
  case atStart => exact ⟨0, by omega, by omega, rfl, ⟨Kd.R_nil Kd.string _ _ _ _⟩, HB⟩
  case round =>
    clear HB
    obtain ⟨i, hi0, hi, rfl, HO, HB⟩ := hrel
    by_cases hlt : i < l.length
    · obtain ⟨_, e1, x1⟩ := Kd.at_string (Kd.C_below HR.out HB.out) i hi0 hlt
      cases e1
      have z1 : (rdOf ByteArray.empty l i).size = n := by
        have := row_size HS0.out i hi0 hlt
        omega
      have hconv : ∀ W : World, (convert 9 49 (.string (rdOf ByteArray.empty l i))).run Try.prog W = .ok (.slice (some ⟨W.heap.size, 0, none⟩) n (grownCap W n 0 5)) (Lib.bytesWorld W 5 (rdOf ByteArray.empty l i)) := fun W => by
        have h := Lib.run_convert_string_bytes (P := Try.prog) W 9 49 5 (rdOf ByteArray.empty l i) Try.underlying9 Try.underlying49 Try.underlying5
        rw [z1] at h
        exact h
      have HL0 := LineAt.made wr 5 (rdOf ByteArray.empty l i)
      rw [z1] at HL0
      have hB2 := LineAt.kept wr 5 (rdOf ByteArray.empty l i)
      have HO2 := Aside0.mk (Kd.R_below HO.out hB2)
      have HB2 := Aside0.mk (below_step HB.out hB2)
      have hgb : w.heap.size ≤ wr.heap.size := HB.out.size
      have HL := Aside0.mk HL0
      clear HL0 hB2 HO z1
      go_wp2
      clear hconv x1
      clear HB
      generalize grownCap wr n 0 5 = cc at *
      generalize Lib.bytesWorld wr 5 (rdOf ByteArray.empty l i) = W2 at *
      generalize wr.heap.size = gb at *
      go_loopw [22] (fun v22 W => ∃ k : Int, 0 ≤ k ∧ k ≤ n ∧ v22 = .int .i64 k ∧ Aside0 (LineAt W gb n (fun j => if (j : Int) < k then rimV l n i j else bt (rdOf ByteArray.empty l i) j)) ∧ Aside0 (Kd.R Kd.string 9 W w.heap.size (fun _ => True) u3 (rimUpto l n i.toNat)) ∧ Aside0 (Below w.heap.size w W)) (fun v _ => n - (intOf v).toNat)
      case atStart => exact ⟨0, by omega, by omega, rfl, ⟨LineAt.congr HL.out (fun j _ => by rw [if_neg (by omega)])⟩, HO2, HB2⟩
      case round =>
        clear HL HO2 HB2
        obtain ⟨k1, hk0, hk, rfl, HL, HO, HB⟩ := hrel
        by_cases hkn : k1 < n
        · by_cases hin : inner l n i k1 = true
          · have HIN := Aside0.mk hin
            clear hin
            go_wp2_with (first | (go_at_call 48; (with_reducible refine (impl_isInner_calls ad c0 l i k1 n _ hi0 hlt hl hk0 hkn (by omega) HS0.out (Kd.C_below HR.out HB.out) HC.out).mono ?_); rintro e w4 ⟨rfl, hb4⟩; rw [HIN.out]; have hHO4 := Aside0.mk (Kd.R_below HO.out hb4); have hHL4 := Aside0.mk (LineAt.below HL.out hb4); have hHB4 := Aside0.mk (below_step HB.out hb4); have hc4 := LineAt.cell hHL4.out k1.toNat (by omega); have hf4 := LineAt.frozen hHL4.out k1.toNat (by omega); clear HO HB HL hb4; have HO := hHO4; have HL := hHL4; have HB := hHB4; clear hHO4 hHL4 hHB4))
            go_roundw
            case rel => exact ⟨k1 + 1, by omega, by omega, rfl, ⟨LineAt.congr (LineAt.set HL.out k1.toNat 32) (fun j hj => by
              by_cases e : j = k1.toNat
              · subst e
                rw [if_pos rfl, if_pos (by omega), rimV, if_pos (by rw [Int.toNat_of_nonneg hk0]; exact HIN.out)]
              · rw [if_neg e]
                by_cases e2 : (j : Int) < k1
                · rw [if_pos e2, if_pos (by omega)]
                · rw [if_neg e2, if_neg (by omega)])⟩, ⟨LineAt.far HL.out HO.out _ _⟩, ⟨below_set HB.out hgb⟩⟩
            case measure => simp only [intOf]; omega
          · have HIN := Aside0.mk (Bool.eq_false_iff.mpr hin)
            clear hin
            go_wp2_with (first | (go_at_call 48; (with_reducible refine (impl_isInner_calls ad c0 l i k1 n _ hi0 hlt hl hk0 hkn (by omega) HS0.out (Kd.C_below HR.out HB.out) HC.out).mono ?_); rintro e w4 ⟨rfl, hb4⟩; rw [HIN.out]; have hHO4 := Aside0.mk (Kd.R_below HO.out hb4); have hHL4 := Aside0.mk (LineAt.below HL.out hb4); have hHB4 := Aside0.mk (below_step HB.out hb4);  clear HO HB HL hb4; have HO := hHO4; have HL := hHL4; have HB := hHB4; clear hHO4 hHL4 hHB4))
            go_roundw
            case rel => exact ⟨k1 + 1, by omega, by omega, rfl, ⟨LineAt.congr HL.out (fun j hj => by
              by_cases e : j = k1.toNat
              · subst e
                rw [if_neg (by omega), if_pos (by omega), rimV, if_neg (by rw [Int.toNat_of_nonneg hk0, HIN.out]; simp), Int.toNat_of_nonneg hk0]
              · by_cases e2 : (j : Int) < k1
                · rw [if_pos e2, if_pos (by omega)]
                · rw [if_neg e2, if_neg (by omega)])⟩, HO, HB⟩
            case measure => simp only [intOf]; omega
        · obtain rfl : k1 = n := by omega
          have HL5 := LineAt.reads (LineAt.congr HL.out (lv' := fun j => rimV l n i j) (fun j hj => by rw [if_pos (by omega)])) (by omega)
          have hcv : ∀ C : Nat, (convert 49 9 (.slice (some ⟨gb, 0, none⟩) n C)).run Try.prog wr = .ok (.string (rimRow l n i)) wr := fun C => by
            have h := Kd.C_string (P := Try.prog) (c := C) Try.underlying49 Try.underlying5 Try.underlying9 HL5
            exact h
          clear HL5
          have hlen : Aside0 ((rimUpto l n i.toNat).length = i.toNat) := ⟨by simp [rimUpto]⟩
          go_wp2_with (first | ((with_reducible refine gate_builtin (b := .append) (xs := #[.tmp 33, .tmp 36]) rfl ?_); (try (refine gate_guard (by rfl) ?_; dsimp only)); at_builtin; refine Kd.R_append Kd.string (w0 := w) w.heap.size rfl (.tmp 33) (.tmp 36) 37 9 (.string ⟨#[]⟩) 16 rfl Try.underlying37 info9 rfl (by decide) (by omega) u3 (rimUpto l n i.toNat) (rimRow l n i) [.string (rimRow l n i)] (fun _ => True) (fun _ => False) rfl rfl ?aP (fun _ hk => hk.elim) ?aF ?aO ?aB ?aS ?aL ?_; (case aP => exact rfl); (case aB => exact HB.out); (case aF => exact (fun _ _ => trivial)); (case aO => exact HO.out); (case aS => exact (below_size HB.out)); (case aL => rw [hlen.out]; omega); intro v6 w6 ho hb hg hat; rw [← rimUpto_succ l n i hi0] at ho; have n1_ := Aside0.mk hb; have n2_ := Aside0.mk ho; clear HB HO; have HB := n1_; have HO := n2_; clear n1_ n2_; clear ho hb hg hat))
          go_roundw
          case rel => exact ⟨i + 1, by omega, by omega, rfl, HO, HB⟩
          case measure => simp only [intOf]; omega
    · obtain rfl : i = l.length := by omega
      go_wp2
      go_ret
      exact ⟨_, rfl, HO.out, HB.out⟩
set_option maxRecDepth 100000 in
set_option maxHeartbeats 8000000 in
theorem impl_RimOf.calls (k : Nat) (A0 : Option Addr) (c0 : Nat) (l0 : List ByteArray) (r : List ByteArray) (w : World) (hr0 : Kd.C Kd.string w A0 l0.length l0) (hc0 : l0.length ≤ c0) (h : impl_RimOf.f k l0 = some r) :
    Calls Try.prog 29 #[.slice A0 l0.length c0] w fun e w' => ∃ v0_ : Value, e = .returned (v0_) ∧ Kd.R Kd.string 9 w' w.heap.size (fun _ => True) v0_ r ∧ Below w.heap.size w w' := by
  obtain ⟨b, hb, h⟩ := Option.bind_eq_some_iff.mp h
  cases b with
  | true =>
    rw [if_pos rfl] at h
    by_cases ho : rimOk l0 = true
    · rw [if_pos ho] at h
      obtain rfl := Option.some.inj h
      simp only [rimOk, Bool.and_eq_true, decide_eq_true_eq, List.all_eq_true, beq_iff_eq] at ho
      obtain ⟨h1, h2, h3, h4⟩ := ho
      obtain ⟨ad, e1, _⟩ := Kd.at_string hr0 0 (by omega) (by omega)
      cases e1
      exact impl_RimOf_yes k ad c0 l0 _ w hr0 hc0 hb h1 h2 h3 (fun y hy => by rw [h4 y hy])
    · rw [if_neg ho] at h
      cases h
  | false =>
    rw [if_neg (by simp)] at h
    obtain rfl := Option.some.inj h
    have HR := Aside0.mk hr0
    clear hr0
    have HC := Aside0.mk hc0
    clear hc0
    have HG := Aside0.mk hb
    clear hb
    go_enter Try.func29, Try.ntmps29
    go_wp2_with (first | (go_at_call 44; (with_reducible refine (impl_isGrid.calls k _ _ l0 false _ HR.out HC.out HG.out).mono ?_); rintro e w1 ⟨rfl, hb⟩; have HB := Aside0.mk hb; clear hb))
    go_ret
    exact ⟨_, rfl, Kd.R_nil Kd.string _ _ _ _, HB.out⟩

end Go.Proofs.Ytfmkbcmoibhffaa.PR
