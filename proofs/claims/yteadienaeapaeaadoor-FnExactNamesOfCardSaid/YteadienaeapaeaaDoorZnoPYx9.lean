-- Made by a program of this session (myprint.py) out of the translation.
import Derived.Test.YteadienaeapaeaaDoorZnoPYx0
import Derived.Test.YteadienaeapaeaaDoorZnoPYx8
import Derived.Shelf.SortM.Plain
import Derived.Shelf.SortM.SortNone
import Derived.Shelf.SlicesG.CompactS
import Derived.Sort.OwnSorted
import Derived.Lib.RowBridge
import Derived.Test.YteadienaeapaeaaDoorZnoLaySortStr
import Derived.Test.YteadienaeapaeaaDoorZnoLayCompactStr
import Derived.Test.YteadienaeapaeaaDoorZnoShort
namespace Go.Proofs.YteadienaeapaeaaDoor.PY
open Go.Proofs.YteadienaeapaeaaDoor.Short
open Go.Proofs.YteadienaeapaeaaDoor.Dyn
open Go.RowKit Go.Proofs.YteadienaeapaeaaDoorW.PrintWords Go.Proofs.YteadienaeapaeaaDoorW.PrintLast Go.Proofs.YteadienaeapaeaaDoorW.PrintMore
attribute [local go_sem] max2_int min2_int max_two min_two max_three min_three max_four min_four   -- for this text's walks alone
set_option linter.unusedVariables false
set_option linter.unusedSimpArgs false

/-! ### impl_NamesOf: function 33 -/
def bsOf (b : ByteArray) : List UInt8 := b.data.toList
def strOf (l : List UInt8) : ByteArray := ⟨l.toArray⟩
theorem map_bsOf (xs : List ByteArray) : (xs.map bsOf).map encStr = encs Value.string xs := by
  unfold encs
  rw [List.map_map]
  rfl
/-- The names in ascending order, each once. -/
def namesEnd (x : List ByteArray) : List ByteArray := (Lib.compact ((x.map bsOf).mergeSort fun x y => decide (x ≤ y))).map strOf
theorem names_heap {w w3 : World} {g q : Nat} {cur : Array Value} {e : TypeId} {d : Array (List UInt8)} (hb : w.heap[g]? = some (.cells cur e (0, 0))) (hw : w3 = Go.Sort.putRow encStr (Go.Sort.ahead w q) g 0 d) :
    w3.heap[g]? = some (.cells (Go.Sort.putCells encStr 0 d cur) e (0, 0)) := by
  have h := heap_sorted (n := q) (os := #[]) d hb
  rw [Go.Sort.grow_empty, ← hw] at h
  exact h
theorem names_row {w3 : World} {base g cap m : Nat} {e : Nat} {cur : Array Value} {cs : List (List UInt8)} (hcl : cs.length ≤ m) (hg : base ≤ g)
    (hb : w3.heap[g]? = some (.cells (Go.Sort.putCells encStr 0 (cs ++ List.replicate (m - cs.length) []).toArray cur) e (0, 0))) (h1 : cs.length ≤ cap) (h2 : cap ≤ maxLen)
    (h3 : (Go.Sort.putCells encStr 0 (cs ++ List.replicate (m - cs.length) []).toArray cur).size = cap * 1) (h4 : m ≤ cur.size) :
    Kd.R Kd.string e w3 base (fun _ => True) (.slice (some ⟨g, 0, none⟩) cs.length cap) (cs.map strOf) := by
  refine Kd.R_of_own (enc := Value.string) (h1 := fun _ => rfl) ?_ (fun _ _ => trivial)
  rw [List.length_map]
  refine ⟨by simp [encs], .inr ⟨g, cap, _, rfl, hg, hb, h1, h2, h3, ?_⟩⟩
  have ht := take_putCells cur (cs ++ List.replicate (m - cs.length) []) (by simp; omega)
  have h5 : cs.length * 1 ≤ (cs ++ List.replicate (m - cs.length) []).length := by simp
  have h6 : encs Value.string (cs.map strOf) = cs.map encStr := by
    unfold encs
    rw [List.map_map]
    rfl
  rw [← Nat.min_eq_left h5, ← List.take_take, ht, h6, List.map_append, Nat.mul_one, List.take_left' (by simp)]
theorem namesEnd_nil : namesEnd [] = [] := by unfold namesEnd; rw [List.map_nil, List.mergeSort_nil]; rfl
def namesSq (x : List ByteArray) : List (List UInt8) := (x.map bsOf).mergeSort fun x y => decide (x ≤ y)
theorem namesSq_length (x : List ByteArray) : (namesSq x).length = x.length := by rw [namesSq, List.length_mergeSort, List.length_map]
theorem names_sort {w1 : World} {g cap : Nat} {e : TypeId} {cur : Array Value} {xs : List ByteArray} (hb : w1.heap[g]? = some (.cells cur e (0, 0))) (h4 : cur.toList.take (xs.length * 1) = encs Value.string xs)
    (hz : xs.length < 4611686018427387904) (h1 : xs.length ≤ cap) (h3 : cur.size = cap * 1) :
    Calls Tryd.prog 73 #[.slice (some ⟨g, 0, none⟩) xs.length cap] w1 (fun e' w2 => e' = .returned (.tuple #[]) ∧ w1.grownBy w2 (some g) ∧ ∃ cur2, w2.heap[g]? = some (.cells cur2 e (0, 0)) ∧ Aside0 (cur2.toList.take (namesSq xs).length = (namesSq xs).map encStr ∧ cur2.size = cap * 1)) := by
  have hH : Go.Sort.Holds encStr w1 g 0 (xs.map bsOf).toArray := holds_of_block hb (by rw [List.length_map, map_bsOf, ← h4, Nat.mul_one])
  have hq := AnyM.slices_Sort_string Lay.SortStr g 0 cap (xs.map bsOf) w1 hH (blk_lt hb) (by simpa using hz)
  rw [List.length_map] at hq
  refine hq.mono ?_
  rintro e' w2 ⟨rfl, nd, os, rfl⟩
  refine ⟨rfl, grownBy_sorted _, _, heap_sorted _ hb, ⟨take_putCells cur (namesSq xs) ?_, by simp [Go.Sort.putCells, h3]⟩⟩
  rw [namesSq_length, h3]; omega
theorem names_compact {w2 : World} {g cap n base : Nat} {e : TypeId} {cur2 : Array Value} {sq : List (List UInt8)} (hb : w2.heap[g]? = some (.cells cur2 e (0, 0))) (ht : cur2.toList.take sq.length = sq.map encStr)
    (hn : sq.length = n) (hz : n < 4611686018427387904) (h1 : n ≤ cap) (h2 : cap ≤ maxLen) (h3 : cur2.size = cap * 1) (hg : base ≤ g) :
    Calls Tryd.prog 74 #[.slice (some ⟨g, 0, none⟩) n cap] w2 (fun e' w3 => e' = .returned (.slice (some ⟨g, 0, none⟩) (Lib.compact sq).length cap) ∧ w2.grownBy w3 (some g) ∧ Kd.R Kd.string e w3 base (fun _ => True) (.slice (some ⟨g, 0, none⟩) (Lib.compact sq).length cap) ((Lib.compact sq).map strOf)) := by
  subst hn
  refine (AnyG.slices_Compact_string Lay.CompactStr g 0 cap sq w2 (holds_of_block hb ht) (by omega) h1).mono ?_
  rintro e' w3 ⟨rfl, q, hw⟩
  have hcl := Go.Lib.compact_length_le sq
  have hb3 := names_heap hb hw
  refine ⟨rfl, ?_, names_row hcl hg hb3 (by omega) h2 (by simpa [Go.Sort.putCells] using h3) (by rw [h3]; omega)⟩
  rw [hw, ← Go.Sort.grow_empty (Go.Sort.putRow _ _ _ _ _)]
  exact grownBy_sorted _
def impl_NamesOf.l0 : Nat → List ByteArray → List (S34) → Int → Int → Option (List ByteArray)
  | 0, _, _, _, _ => none
  | k + 1, x3, x9, x10, x11 => if x11 < x10 then (if 0 ≤ x11 then (if x11 < (x9.length : Int) then (if ((rd_T34 x9 x11).f0) = 4 then (if x3.length < 8796093022208 then (impl_NamesOf.l0 k (x3 ++ [(rd_T34 x9 x11).f1]) x9 x10 (wrap64 (x11 + 1))) else (none)) else (impl_NamesOf.l0 k x3 x9 x10 (wrap64 (x11 + 1)))) else (none)) else (none)) else (if x3.length < 4611686018427387904 then some (namesEnd x3) else none)
def impl_NamesOf.f (k : Nat) (l0 : List (S34)) : Option (List ByteArray) := (impl_ValidProgram.f k l0).bind fun t174 => (if t174 = true then (impl_NamesOf.l0 k ([] : List ByteArray) l0 (l0.length : Int) 0) else (some ([] : List ByteArray)))
theorem impl_NamesOf.mono_l : ∀ k, (∀ y0 y1 y2 y3, LeO (impl_NamesOf.l0 k y0 y1 y2 y3) (impl_NamesOf.l0 (k + 1) y0 y1 y2 y3))
  | 0 => fun _ _ _ _ r h => by simp [impl_NamesOf.l0] at h
  | k + 1 => by
    have ih0 := impl_NamesOf.mono_l k
    · intro y0 y1 y2 y3
      unfold impl_NamesOf.l0
      repeat' first
      | (with_reducible exact ih0 _ _ _ _)
      | (with_reducible exact impl_ValidProgram.mono _ _)
      | (with_reducible exact LeO.refl _)
      | (with_reducible exact LeO.none _)
      | (with_reducible refine LeO.ite ?_ ?_)
      | (with_reducible refine LeO.bind ?_ (fun _ => ?_))
      | exact ih0 _ _ _ _
      | exact impl_ValidProgram.mono _ _
      | exact LeO.none _
      | refine LeO.ite ?_ ?_
      | refine LeO.bind ?_ (fun _ => ?_)
theorem impl_NamesOf.mono : ∀ a0 k, LeO (impl_NamesOf.f k a0) (impl_NamesOf.f (k + 1) a0) := by
  intro a0 k
  have ih0 := impl_NamesOf.mono_l k
  unfold impl_NamesOf.f
  repeat' first
      | (with_reducible exact ih0 _ _ _ _)
      | (with_reducible exact impl_ValidProgram.mono _ _)
      | (with_reducible exact LeO.refl _)
      | (with_reducible exact LeO.none _)
      | (with_reducible refine LeO.ite ?_ ?_)
      | (with_reducible refine LeO.bind ?_ (fun _ => ?_))
      | exact ih0 _ _ _ _
      | exact impl_ValidProgram.mono _ _
      | exact LeO.none _
      | refine LeO.ite ?_ ?_
      | refine LeO.bind ?_ (fun _ => ?_)
set_option maxHeartbeats 8000000 in
set_option maxRecDepth 100000 in
theorem impl_NamesOf.calls (k : Nat) (A0 : Option Addr) (c0 : Nat) (l0 : List (S34)) (r : List ByteArray) (w : World) (hr0 : Kd.C k34 w A0 l0.length l0) (hc0 : l0.length ≤ c0) (h : impl_NamesOf.f k l0 = some r) :
    Calls Tryd.prog 33 #[.slice A0 l0.length c0] w fun e w' => ∃ v0_ : Value, e = .returned (v0_) ∧ Kd.R Kd.string 9 w' w.heap.size (fun _ => True) v0_ r ∧ Below w.heap.size w w' := by
  have hu34 := Tryd.underlying34
  have HR0 := Aside0.mk hr0
  have HC0 := Aside0.mk hc0
  clear hr0 hc0
  have HB := Aside0.mk (Below.refl w.heap.size w)
  have H : ((impl_ValidProgram.f k l0).bind fun t174 => (if t174 = true then (impl_NamesOf.l0 k ([] : List ByteArray) l0 (l0.length : Int) 0) else (some ([] : List ByteArray)))) = some r := h
  clear h
  replace H := Option.bind_eq_some_iff.mp H
  obtain ⟨t174, A20, H⟩ := H
  replace H : (if t174 = true then (impl_NamesOf.l0 k ([] : List ByteArray) l0 (l0.length : Int) 0) else (some ([] : List ByteArray))) = some r := H
  have A2 := Aside0.mk A20
  clear A20
  by_cases c3 : t174 = true
  · subst c3
    rw [if_pos rfl] at H
    have H' := Aside0.mk H
    clear H
    go_enter Tryd.func33, Tryd.ntmps33
    go_wp2_with (first | ((with_reducible refine gate_callee (f := 18) rfl ?_); refine gl (some 7) Tryd.func18 #[.slice A0 l0.length c0] ?_; (with_reducible refine (impl_ValidProgram.calls k _ _ l0 true _ ?side1 ?side2 A2.out).mono ?_); (case side1 => repeat (first | exact HR0.out | (with_reducible refine Kd.C_alloc ?_ _) | (with_reducible refine Kd.C_drewN ?_ _) | (with_reducible refine Kd.C_drew ?_))); (case side2 => exact HC0.out); rintro e w4 ⟨rfl, hb⟩; refine ⟨_, rfl, ?_⟩; replace HB := bs hb; (try clear hb); (try clear hb2); (try clear hk); (try clear hi)))
    go_loopg [3, 11] k (fun kq v3 v11 w' => ∃ (x3_1 : List ByteArray) (x11_1 : Int), v11 = .int .i64 x11_1 ∧ Aside0 (impl_NamesOf.l0 kq x3_1 l0 (l0.length : Int) x11_1 = some r) ∧ Aside0 (kq ≤ k) ∧ Aside0 (Kd.R Kd.string 9 w' w.heap.size (fun _ => True) v3 x3_1) ∧ Aside0 (Below w.heap.size w w'))
    case atStart => exact ⟨(([] : List ByteArray)), (0), (by first | rfl | (simp; done) | (simp [*]; done)), H', ⟨Nat.le_refl _⟩, ⟨by first | exact Kd.R_nil _ _ _ _ _ | exact Kd.N_nil _ _ _ _ _ | exact Kd.V_nil _ _ _ _ _ | exact Kd.Q_nil _ _ _ _ _ | exact Kd.S_nil _ _ _ _ _⟩, ⟨bw⟩⟩
    case round =>
      clear H'
      try clear c1
      try clear p2
      try clear c3
      obtain ⟨x3_1, x11_1, rfl, HA, HK1, HO_3, HB⟩ := hrel
      cases gk with
      | zero => exact absurd HA.out (by simp [impl_NamesOf.l0])
      | succ k1 =>
        have H := HA.out
        clear HA
        simp only [impl_NamesOf.l0] at H
        by_cases c5 : x11_1 < (l0.length : Int)
        · rw [if_pos c5] at H
          have c5b0 : decide (x11_1 < (l0.length : Int)) = true := decide_eq_true c5
          clear c5
          by_cases c6 : 0 ≤ x11_1
          · rw [if_pos c6] at H
            have c6b0 : decide (0 ≤ x11_1) = true := decide_eq_true c6
            clear c6
            by_cases c7 : x11_1 < (l0.length : Int)
            · rw [if_pos c7] at H
              have c7b0 : decide (x11_1 < (l0.length : Int)) = true := decide_eq_true c7
              clear c7
              by_cases c8 : ((rd_T34 l0 x11_1).f0) = 4
              · rw [if_pos c8] at H
                have c8b0 : (((rd_T34 l0 x11_1).f0) == 4) = true := beq_iff_eq.mpr c8
                have c8b1 : (((rd_T34 l0 x11_1).f0) != 4) = false := bne_eq_false_iff_eq.mpr c8
                clear c8
                by_cases c9 : x3_1.length < 8796093022208
                · rw [if_pos c9] at H
                  have LMc9 := Aside0.mk c9
                  clear c9
                  obtain ⟨y177, hy177⟩ : ∃ y_ : List ByteArray, y_ = (x3_1 ++ [(rd_T34 l0 x11_1).f1]) := ⟨_, rfl⟩
                  replace H : (impl_NamesOf.l0 k1 y177 l0 (l0.length : Int) (wrap64 (x11_1 + 1))) = some r := by first | (rw [hy177]; with_reducible exact H) | (have H2_ := (Option.bind_some _ _).symm.trans H; rw [hy177]; with_reducible exact H2_) | (have H2_ := (Option.bind_some _ _).symm.trans H; with_reducible exact H2_) | with_reducible exact H | (rw [hy177]; exact H) | exact H
                  have Ny177 := Aside0.mk hy177
                  clear hy177
                  have H' := Aside0.mk H
                  clear H
                  have p175 : 0 ≤ (x11_1 : Int) := od
                  have q175 : x11_1 < (l0.length : Int) := od
                  obtain ⟨ad175, e175, hx175_0, hx175_1, hx175_2, hx175_3, hx175_4, hx175_5, hx175_6, hx175_7, hx175_8⟩ := at_T34 HR0.out x11_1 p175 q175
                  cases e175
                  replace hx175_0 := bc hx175_0
                  replace hx175_1 := bc hx175_1
                  replace hx175_2 := bc hx175_2
                  replace hx175_3 := bc hx175_3
                  replace hx175_4 := bc hx175_4
                  replace hx175_5 := bc hx175_5
                  replace hx175_6 := bc hx175_6
                  replace hx175_7 := bc hx175_7
                  replace hx175_8 := bc hx175_8
                  replace p175 := eq_true p175
                  replace q175 := eq_true q175
                  go_wp2_with (first | ((with_reducible refine gate_dst (N := 5) rfl ?_); refine bx #[.int .i64 0, .string (⟨#[]⟩ : ByteArray), .int .i64 0, .int .i64 0, .int .i64 0, .int .i64 0, .int .i64 0, .int .i64 0, .bool false] 34 ?_; intro gb176 hg w10 hbox hb; have BK176 := Aside0.mk hbox; have GW176 := bg hg; have GE176 := bg hg; replace HO_3 := Aside0.mk (Kd.R_below (ra (h := HO_3.out)) hb); replace HB := bs hb; clear hb hbox hg; obtain ⟨z11_0, z11_1, z11_2, z11_3, z11_4, z11_5, z11_6, z11_7, z11_8, y11_0, y11_1, y11_2, y11_3, y11_4, y11_5, y11_6, y11_7, y11_8⟩ := bq9 BK176) | ((with_reducible refine gate_builtin (b := .append) (xs := #[.tmp 18, .tmp 21]) rfl ?_); at_builtin; refine Kd.R_append Kd.string (w0 := w) w.heap.size rfl (.tmp 18) (.tmp 21) 63 9 (.string ⟨#[]⟩) 16 rfl Tryd.underlying63 info9 rfl (by decide) (by omega) u3 x3_1 ((rd_T34 l0 x11_1).f1) [.string ((rd_T34 l0 x11_1).f1)] (fun _ => True) (fun _ => False) rfl (by first | (go_simp; done) | (go_simp; rfl)) ?aP (fun _ hk => hk.elim) ?aF ?aO ?aB ?aS ?aL ?_; (case aP => exact rfl); (case aB => exact bw); (case aF => exact (fun _ _ => trivial)); (case aO => exact (by refine ra (h := ?_); exact Kd.R_mono (Kd.R_far (p := ⟨gb176, 8, none⟩) (Kd.R_far (p := ⟨gb176, 7, none⟩) (Kd.R_far (p := ⟨gb176, 6, none⟩) (Kd.R_far (p := ⟨gb176, 5, none⟩) (Kd.R_far (p := ⟨gb176, 4, none⟩) (Kd.R_far (p := ⟨gb176, 3, none⟩) (Kd.R_far (p := ⟨gb176, 2, none⟩) (Kd.R_far (p := ⟨gb176, 1, none⟩) (Kd.R_far (p := ⟨gb176, 0, none⟩) (Kd.R_types HO_3.out BK176.out (by decide)) (fun _ hk => hk.2) (.int .i64 ((rd_T34 l0 x11_1).f0))) (fun _ hk => hk.2) (.string ((rd_T34 l0 x11_1).f1))) (fun _ hk => hk.2) (.int .i64 ((rd_T34 l0 x11_1).f2.f0))) (fun _ hk => hk.2) (.int .i64 ((rd_T34 l0 x11_1).f2.f1.f0))) (fun _ hk => hk.2) (.int .i64 ((rd_T34 l0 x11_1).f2.f1.f1))) (fun _ hk => hk.2) (.int .i64 ((rd_T34 l0 x11_1).f2.f1.f2))) (fun _ hk => hk.2) (.int .i64 ((rd_T34 l0 x11_1).f3))) (fun _ hk => hk.2) (.int .i64 ((rd_T34 l0 x11_1).f4))) (fun _ hk => hk.2) (.bool ((rd_T34 l0 x11_1).f5))) (fun _ hk => trivial))); (case aS => exact (below_size bw)); (case aL => have := LMc9.out; omega); intro v178 w12 ho hb hg hat; rw [← Ny177.out] at ho; have HO179 := Aside0.mk (ho); replace BK176 := Aside0.mk (blk_grown (g := gb176) (o := .cells #[.int .i64 ((rd_T34 l0 x11_1).f0), .string ((rd_T34 l0 x11_1).f1), .int .i64 ((rd_T34 l0 x11_1).f2.f0), .int .i64 ((rd_T34 l0 x11_1).f2.f1.f0), .int .i64 ((rd_T34 l0 x11_1).f2.f1.f1), .int .i64 ((rd_T34 l0 x11_1).f2.f1.f2), .int .i64 ((rd_T34 l0 x11_1).f3), .int .i64 ((rd_T34 l0 x11_1).f4), .bool ((rd_T34 l0 x11_1).f5)] 34 (0, 0)) (by refine bk (h := ?_); refine blk_put (cs := #[.int .i64 ((rd_T34 l0 x11_1).f0), .string ((rd_T34 l0 x11_1).f1), .int .i64 ((rd_T34 l0 x11_1).f2.f0), .int .i64 ((rd_T34 l0 x11_1).f2.f1.f0), .int .i64 ((rd_T34 l0 x11_1).f2.f1.f1), .int .i64 ((rd_T34 l0 x11_1).f2.f1.f2), .int .i64 ((rd_T34 l0 x11_1).f3), .int .i64 ((rd_T34 l0 x11_1).f4), .bool false]) ?_ 8 _ rfl; refine bk (h := ?_); refine blk_put (cs := #[.int .i64 ((rd_T34 l0 x11_1).f0), .string ((rd_T34 l0 x11_1).f1), .int .i64 ((rd_T34 l0 x11_1).f2.f0), .int .i64 ((rd_T34 l0 x11_1).f2.f1.f0), .int .i64 ((rd_T34 l0 x11_1).f2.f1.f1), .int .i64 ((rd_T34 l0 x11_1).f2.f1.f2), .int .i64 ((rd_T34 l0 x11_1).f3), .int .i64 0, .bool false]) ?_ 7 _ rfl; refine bk (h := ?_); refine blk_put (cs := #[.int .i64 ((rd_T34 l0 x11_1).f0), .string ((rd_T34 l0 x11_1).f1), .int .i64 ((rd_T34 l0 x11_1).f2.f0), .int .i64 ((rd_T34 l0 x11_1).f2.f1.f0), .int .i64 ((rd_T34 l0 x11_1).f2.f1.f1), .int .i64 ((rd_T34 l0 x11_1).f2.f1.f2), .int .i64 0, .int .i64 0, .bool false]) ?_ 6 _ rfl; refine bk (h := ?_); refine blk_put (cs := #[.int .i64 ((rd_T34 l0 x11_1).f0), .string ((rd_T34 l0 x11_1).f1), .int .i64 ((rd_T34 l0 x11_1).f2.f0), .int .i64 ((rd_T34 l0 x11_1).f2.f1.f0), .int .i64 ((rd_T34 l0 x11_1).f2.f1.f1), .int .i64 0, .int .i64 0, .int .i64 0, .bool false]) ?_ 5 _ rfl; refine bk (h := ?_); refine blk_put (cs := #[.int .i64 ((rd_T34 l0 x11_1).f0), .string ((rd_T34 l0 x11_1).f1), .int .i64 ((rd_T34 l0 x11_1).f2.f0), .int .i64 ((rd_T34 l0 x11_1).f2.f1.f0), .int .i64 0, .int .i64 0, .int .i64 0, .int .i64 0, .bool false]) ?_ 4 _ rfl; refine bk (h := ?_); refine blk_put (cs := #[.int .i64 ((rd_T34 l0 x11_1).f0), .string ((rd_T34 l0 x11_1).f1), .int .i64 ((rd_T34 l0 x11_1).f2.f0), .int .i64 0, .int .i64 0, .int .i64 0, .int .i64 0, .int .i64 0, .bool false]) ?_ 3 _ rfl; refine bk (h := ?_); refine blk_put (cs := #[.int .i64 ((rd_T34 l0 x11_1).f0), .string ((rd_T34 l0 x11_1).f1), .int .i64 0, .int .i64 0, .int .i64 0, .int .i64 0, .int .i64 0, .int .i64 0, .bool false]) ?_ 2 _ rfl; refine bk (h := ?_); refine blk_put (cs := #[.int .i64 ((rd_T34 l0 x11_1).f0), .string (⟨#[]⟩ : ByteArray), .int .i64 0, .int .i64 0, .int .i64 0, .int .i64 0, .int .i64 0, .int .i64 0, .bool false]) ?_ 1 _ rfl; refine bk (h := ?_); refine blk_put (cs := #[.int .i64 0, .string (⟨#[]⟩ : ByteArray), .int .i64 0, .int .i64 0, .int .i64 0, .int .i64 0, .int .i64 0, .int .i64 0, .bool false]) ?_ 0 _ rfl; refine bk (h := ?_); exact BK176.out) hg (Kd.R_ne HO_3.out BK176.out (by decide))); replace HB := Aside0.mk (hb); clear HO_3; clear ho hb hg hat))
                  go_roundg k1
                  case measure => have := HK1.out; omega
                  case rel => exact ⟨(y177), (wrap64 (x11_1 + 1)), (by first | rfl | (simp; done) | (simp [*]; done)), H', ⟨by have := HK1.out; omega⟩, ⟨by refine ra (h := ?_); exact HO179.out⟩, ⟨bw⟩⟩
                · rw [if_neg c9] at H
                  exact absurd H (by simp)
              · rw [if_neg c8] at H
                have c8b0 : (((rd_T34 l0 x11_1).f0) == 4) = false := beq_eq_false_iff_ne.mpr c8
                have c8b1 : (((rd_T34 l0 x11_1).f0) != 4) = true := bne_iff_ne.mpr c8
                have H' := Aside0.mk H
                clear H
                have p175 : 0 ≤ (x11_1 : Int) := od
                have q175 : x11_1 < (l0.length : Int) := od
                obtain ⟨ad175, e175, hx175_0, hx175_1, hx175_2, hx175_3, hx175_4, hx175_5, hx175_6, hx175_7, hx175_8⟩ := at_T34 HR0.out x11_1 p175 q175
                cases e175
                replace hx175_0 := bc hx175_0
                replace hx175_1 := bc hx175_1
                replace hx175_2 := bc hx175_2
                replace hx175_3 := bc hx175_3
                replace hx175_4 := bc hx175_4
                replace hx175_5 := bc hx175_5
                replace hx175_6 := bc hx175_6
                replace hx175_7 := bc hx175_7
                replace hx175_8 := bc hx175_8
                replace p175 := eq_true p175
                replace q175 := eq_true q175
                go_wp2_with (first | ((with_reducible refine gate_dst (N := 5) rfl ?_); refine bx #[.int .i64 0, .string (⟨#[]⟩ : ByteArray), .int .i64 0, .int .i64 0, .int .i64 0, .int .i64 0, .int .i64 0, .int .i64 0, .bool false] 34 ?_; intro gb176 hg w13 hbox hb; have BK176 := Aside0.mk hbox; have GW176 := bg hg; have GE176 := bg hg; replace HO_3 := Aside0.mk (Kd.R_below (ra (h := HO_3.out)) hb); replace HB := bs hb; clear hb hbox hg; obtain ⟨z14_0, z14_1, z14_2, z14_3, z14_4, z14_5, z14_6, z14_7, z14_8, y14_0, y14_1, y14_2, y14_3, y14_4, y14_5, y14_6, y14_7, y14_8⟩ := bq9 BK176))
                go_roundg k1
                case measure => have := HK1.out; omega
                case rel => exact ⟨(x3_1), (wrap64 (x11_1 + 1)), (by first | rfl | (simp; done) | (simp [*]; done)), H', ⟨by have := HK1.out; omega⟩, ⟨by refine ra (h := ?_); exact Kd.R_mono (Kd.R_far (p := ⟨gb176, 8, none⟩) (Kd.R_far (p := ⟨gb176, 7, none⟩) (Kd.R_far (p := ⟨gb176, 6, none⟩) (Kd.R_far (p := ⟨gb176, 5, none⟩) (Kd.R_far (p := ⟨gb176, 4, none⟩) (Kd.R_far (p := ⟨gb176, 3, none⟩) (Kd.R_far (p := ⟨gb176, 2, none⟩) (Kd.R_far (p := ⟨gb176, 1, none⟩) (Kd.R_far (p := ⟨gb176, 0, none⟩) (Kd.R_types HO_3.out BK176.out (by decide)) (fun _ hk => hk.2) (.int .i64 ((rd_T34 l0 x11_1).f0))) (fun _ hk => hk.2) (.string ((rd_T34 l0 x11_1).f1))) (fun _ hk => hk.2) (.int .i64 ((rd_T34 l0 x11_1).f2.f0))) (fun _ hk => hk.2) (.int .i64 ((rd_T34 l0 x11_1).f2.f1.f0))) (fun _ hk => hk.2) (.int .i64 ((rd_T34 l0 x11_1).f2.f1.f1))) (fun _ hk => hk.2) (.int .i64 ((rd_T34 l0 x11_1).f2.f1.f2))) (fun _ hk => hk.2) (.int .i64 ((rd_T34 l0 x11_1).f3))) (fun _ hk => hk.2) (.int .i64 ((rd_T34 l0 x11_1).f4))) (fun _ hk => hk.2) (.bool ((rd_T34 l0 x11_1).f5))) (fun _ hk => trivial)⟩, ⟨bw⟩⟩
            · rw [if_neg c7] at H
              exact absurd H (by simp)
          · rw [if_neg c6] at H
            exact absurd H (by simp)
        · rw [if_neg c5] at H
          have c5b0 : decide (x11_1 < (l0.length : Int)) = false := decide_eq_false c5
          clear c5
          by_cases cz : x3_1.length < 4611686018427387904
          · rw [if_pos cz] at H
            obtain rfl := Option.some.inj H
            have hown := (Kd.own_of_R HO_3.out).2
            rcases hown with ⟨rfl, hn⟩ | ⟨g, cap, cur, rfl, hg, hb, h1, h2, h3, h4⟩
            · have hn0 : x3_1 = [] := List.eq_nil_of_length_eq_zero hn
              subst hn0
              have hs : ∀ w1, Calls Tryd.prog 73 #[.slice none 0 0] w1 (fun e w' => e = .returned (.tuple #[]) ∧ w' = w1) := fun w1 => AnyM.slices_Sort_string_none Lay.SortStr none 0 w1
              have hc : ∀ w1, Calls Tryd.prog 74 #[.slice none 0 0] w1 (fun e w' => e = .returned (.slice none 0 0) ∧ w' = w1) := fun w1 => AnyG.slices_Compact_string_empty Lay.CompactStr none 0 w1
              go_wp2_with (first | (go_at_call 73; refine (hs _).mono ?_; rintro e w2 ⟨rfl, rfl⟩) | (go_at_call 74; refine (hc _).mono ?_; rintro e w3 ⟨rfl, rfl⟩))
              go_ret
              exact ⟨_, rfl, by rw [namesEnd_nil]; exact Kd.R_nil _ _ _ _ _, HB.out⟩
            · clear HO_3
              have hx := Aside0.mk (names_sort hb h4 cz h1 h3)
              clear h4 hb
              go_wp2_with (first | (go_at_call 73; refine hx.out.mono ?_; rintro e w2 ⟨rfl, hgr, cur2, hb2, hA2⟩; have HB2 := Aside0.mk (HB.out.grown hgr HB.out.size (fun k e => by cases e; exact hg)); have hy := Aside0.mk (names_compact (base := w.heap.size) hb2 hA2.out.1 (namesSq_length _) cz h1 h2 hA2.out.2 hg); clear hgr hb2) | (go_at_call 74; refine hy.out.mono ?_; rintro e w3 ⟨rfl, hgr3, hR⟩; have HB3 := Aside0.mk (HB2.out.grown hgr3 HB2.out.size (fun k e => by cases e; exact hg)); have HR3 := Aside0.mk hR; clear hgr3 hR))
              go_ret
              exact ⟨_, rfl, HR3.out, HB3.out⟩
          · rw [if_neg cz] at H
            cases H
  · replace c3 := Bool.eq_false_iff.mpr c3
    subst c3
    rw [if_neg nf] at H
    obtain rfl := Option.some.inj H
    go_enter Tryd.func33, Tryd.ntmps33
    go_wp2_with (first | ((with_reducible refine gate_callee (f := 18) rfl ?_); refine gl (some 7) Tryd.func18 #[.slice A0 l0.length c0] ?_; (with_reducible refine (impl_ValidProgram.calls k _ _ l0 false _ ?side1 ?side2 A2.out).mono ?_); (case side1 => repeat (first | exact HR0.out | (with_reducible refine Kd.C_alloc ?_ _) | (with_reducible refine Kd.C_drewN ?_ _) | (with_reducible refine Kd.C_drew ?_))); (case side2 => exact HC0.out); rintro e w15 ⟨rfl, hb⟩; refine ⟨_, rfl, ?_⟩; replace HB := bs hb; (try clear hb); (try clear hb2); (try clear hk); (try clear hi)))
    go_ret
    exact ⟨_, er, by first | exact Kd.R_nil _ _ _ _ _ | exact Kd.N_nil _ _ _ _ _ | exact Kd.V_nil _ _ _ _ _ | exact Kd.Q_nil _ _ _ _ _ | exact Kd.S_nil _ _ _ _ _, bw⟩

end Go.Proofs.YteadienaeapaeaaDoor.PY
