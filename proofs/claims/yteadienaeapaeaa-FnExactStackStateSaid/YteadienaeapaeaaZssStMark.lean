/- The marks of a row of faces and of a state, walked by hand: rows of rows that are written (the kit's printer leaves these). -/
import Derived.Test.YteadienaeapaeaaZssPTx10
namespace Go.Proofs.Yteadienaeapaeaa.PT
open Go.Proofs.Yteadienaeapaeaa.Dyn
open Go.RowKit Go.Proofs.YteadienaeapaeaaW.PrintWords Go.Proofs.YteadienaeapaeaaW.PrintLast Go.Proofs.YteadienaeapaeaaW.PrintMore
attribute [local go_sem] max2_int min2_int max_two min_two max_three min_three max_four min_four
set_option linter.unusedVariables false
set_option linter.unusedSimpArgs false
/-- The cells of a face. -/
def faceCells (v : Value) (y : S118) : List Value := [v, .int .i64 y.f0, .bool y.f1, .int .i64 y.f2.f0, .int .i64 y.f2.f1, .int .i64 y.f2.f2, .int .i64 y.f3.f0, .int .i64 y.f3.f1, .int .i64 y.f3.f2]
/-- A row of faces while element i is written: the list is xs with x at the place i. -/
structure MF (w0 w : World) (P : Nat → Prop) (g cap : Nat) (i : Int) (xs : List S121) (x : S121) (W : World) : Prop where
  i0 : 0 ≤ i
  i1 : i < (xs.length : Int)
  s : Kd.S k121 121 W w0.heap.size P (.slice (some ⟨g, 0, none⟩) xs.length cap) (xs.set i.toNat x)
  b : Below w0.heap.size w0 W
  k : Kept w W P
  ge : w0.heap.size ≤ g
section
variable {w0 w W : World} {P : Nat → Prop} {g cap : Nat} {i : Int} {xs : List S121} {x : S121}
theorem MF.at_ (h : MF w0 w P g cap i xs x W) : (xs.set i.toNat x).getD i.toNat z121 = x := by
  have := h.i0; have := h.i1
  rw [List.getD_eq_getElem?_getD, List.getElem?_set_self (by omega)]; rfl
theorem MF.elem (h : MF w0 w P g cap i xs x W) : ∃ (oki : Nat → Prop) (v0 : Value), Kd.R k130 130 W w0.heap.size oki v0 x.f0 ∧ (∀ j u, (faceCells v0 x.f1)[j]? = some u → W.cell? ⟨g, i.toNat * 9 + j, none⟩ = some u) ∧ (∀ j, W.frozen? ⟨g, i.toNat * 9 + j, none⟩ = false) ∧ (∀ k, oki k → P k ∧ k ≠ g) ∧ Kd.H k121 121 W w0.heap.size P (.slice (some ⟨g, 0, none⟩) xs.length cap) (xs.set i.toNat x) i oki (faceCells v0 x.f1) := by
  obtain ⟨oki, c, hcl, hM, hcc, hfr, hoki, hH⟩ := Kd.S_elem h.s z121 i h.i0 h.i1
  rw [h.at_] at hM
  obtain ⟨v0, rfl, g0⟩ := k121_openM hM
  exact ⟨oki, v0, g0, hcc, hfr, hoki, hH⟩
theorem MF.store (h : MF w0 w P g cap i xs x W) (y : S118) (j : Nat) (u : Value) (hj : j + 1 ≤ 9) (hc : ∀ v0, (faceCells v0 x.f1).take j ++ [u] ++ (faceCells v0 x.f1).drop (j + 1) = faceCells v0 y) :
    MF w0 w P g cap i xs ⟨x.f0, y⟩ (W.setCell ⟨g, i.toNat * 9 + j, none⟩ u) := by
  obtain ⟨oki, v0, g0, hcc, hfr, hoki, hH⟩ := h.elem
  obtain ⟨hs, hg⟩ := Kd.S_seg0 hH h.i0 h.i1 (seg := [u]) (j := j) hj (okp := oki) (x' := (⟨x.f0, y⟩ : S121)) (by rw [show [u].length = 1 from rfl, hc v0]; exact k121_mkM _ _ _ (⟨x.f0, y⟩ : S121) g0) (fun _ hk => hk)
  rw [List.set_set] at hs
  exact ⟨h.i0, h.i1, hs, below_set h.b h.ge, Kept.of_grown hg h.k (fun k e => by injection e with e; subst e; exact .inl ((Kd.S_R h.s).1 _ rfl)), h.ge⟩
theorem MF.lend (h : MF w0 w P g cap i xs x W) : ∃ (A0 : Option Addr) (c0 : Nat) (oki : Nat → Prop), W.cell? ⟨g, i.toNat * 9, none⟩ = some (.slice A0 x.f0.length c0) ∧ Kd.R k130 130 W w0.heap.size oki (.slice A0 x.f0.length c0) x.f0 ∧
    ∀ (W' : World) (p' : List S130), Kd.R k130 130 W' w0.heap.size (fun k => oki k ∨ W.heap.size ≤ k) (.slice A0 x.f0.length c0) p' → Below w0.heap.size w0 W' → Kept W W' oki → MF w0 w P g cap i xs ⟨p', x.f1⟩ W' := by
  obtain ⟨oki, v0, g0, hcc, hfr, hoki, hH⟩ := h.elem
  obtain ⟨A0, c0, rfl⟩ := Kd.R_slice g0
  refine ⟨A0, c0, oki, hcc 0 _ rfl, g0, fun W' p' hr hb hk => ?_⟩
  have hs := Kd.H_back (Kd.H_step hH (fun k _ hn hlt => hk.2 k hlt hn)) (okp := oki) (x' := (⟨p', x.f1⟩ : S121)) (k121_mkM _ _ _ (⟨p', x.f1⟩ : S121) (Kd.R_reok rfl hr (fun k e => g0.1 k e))) (fun _ hk => hk)
  rw [List.set_set] at hs
  exact ⟨h.i0, h.i1, hs, hb, h.k.then_ hk (fun k hk => .inl (hoki k hk).1), h.ge⟩
theorem MF.cells (h : MF w0 w P g cap i xs x W) : W.cell? ⟨g, i.toNat * 9 + 1, none⟩ = some (.int .i64 x.f1.f0) ∧ W.cell? ⟨g, i.toNat * 9 + 2, none⟩ = some (.bool x.f1.f1) ∧ W.cell? ⟨g, i.toNat * 9 + 3, none⟩ = some (.int .i64 x.f1.f2.f0) ∧ W.cell? ⟨g, i.toNat * 9 + 4, none⟩ = some (.int .i64 x.f1.f2.f1) ∧ W.cell? ⟨g, i.toNat * 9 + 5, none⟩ = some (.int .i64 x.f1.f2.f2) ∧ W.cell? ⟨g, i.toNat * 9 + 6, none⟩ = some (.int .i64 x.f1.f3.f0) ∧ W.cell? ⟨g, i.toNat * 9 + 7, none⟩ = some (.int .i64 x.f1.f3.f1) ∧ W.cell? ⟨g, i.toNat * 9 + 8, none⟩ = some (.int .i64 x.f1.f3.f2) := by
  obtain ⟨oki, v0, g0, hcc, hfr, hoki, hH⟩ := h.elem
  exact ⟨hcc 1 _ rfl, hcc 2 _ rfl, hcc 3 _ rfl, hcc 4 _ rfl, hcc 5 _ rfl, hcc 6 _ rfl, hcc 7 _ rfl, hcc 8 _ rfl⟩
theorem MF.free (h : MF w0 w P g cap i xs x W) (j : Nat) : W.frozen? ⟨g, i.toNat * 9 + j, none⟩ = false := by
  obtain ⟨oki, v0, g0, hcc, hfr, hoki, hH⟩ := h.elem
  exact hfr j
end
/-! ### laws_markFaceS: function 100, by hand -/
def faceMark (t1 : Int) : S118 := ⟨t1, (Int.tmod (wrap64 (t1 + 1)) 3 == 0), ⟨(wrap64 ((wrap64 (t1 + 1)) + 1)), (wrap64 ((wrap64 ((wrap64 (t1 + 1)) + 1)) + 1)), (wrap64 ((wrap64 ((wrap64 ((wrap64 (t1 + 1)) + 1)) + 1)) + 1))⟩, ⟨(wrap64 ((wrap64 ((wrap64 ((wrap64 ((wrap64 (t1 + 1)) + 1)) + 1)) + 1)) + 1)), (wrap64 ((wrap64 ((wrap64 ((wrap64 ((wrap64 ((wrap64 (t1 + 1)) + 1)) + 1)) + 1)) + 1)) + 1)), (wrap64 ((wrap64 ((wrap64 ((wrap64 ((wrap64 ((wrap64 ((wrap64 (t1 + 1)) + 1)) + 1)) + 1)) + 1)) + 1)) + 1))⟩⟩
def faceNext (t1 : Int) : Int := wrap64 ((wrap64 ((wrap64 ((wrap64 ((wrap64 ((wrap64 ((wrap64 ((wrap64 (t1 + 1)) + 1)) + 1)) + 1)) + 1)) + 1)) + 1)) + 1)
def laws_markFaceS.l0 : Nat → List S121 → Int → Int → Option (Int × List S121)
  | 0, _, _, _ => none
  | k + 1, x0, x1, x5 => if x5 < (x0.length : Int) then (if 0 ≤ x5 then ((laws_markPointS.f k (rd_T121 x0 x5).f0 x1).bind fun bt => (laws_markFaceS.l0 k (x0.set x5.toNat ⟨bt.2, faceMark bt.1⟩) (faceNext bt.1) (wrap64 (x5 + 1)))) else (none)) else (some (x1, x0))
def laws_markFaceS.f (k : Nat) (l0 : List S121) (a1 : Int) : Option (Int × List S121) := laws_markFaceS.l0 k l0 a1 0
set_option maxHeartbeats 8000000 in
set_option maxRecDepth 100000 in
theorem laws_markFaceS.calls (k : Nat) (P : Nat → Prop) (A : Option Addr) (c : Nat) (l : List S121) (a1 : Int) (r1 : Int) (r2 : List S121) (w0 w : World) (hB : Below w0.heap.size w0 w) (ho : Kd.S k121 121 w w0.heap.size P (.slice A l.length c) l) (h : laws_markFaceS.f k l a1 = some (r1, r2)) :
    Calls Try.prog 100 #[.slice A l.length c, .int .i64 a1] w fun e w' => e = .returned (.int .i64 r1) ∧ Kd.S k121 121 w' w0.heap.size P (.slice A l.length c) r2 ∧ Below w0.heap.size w0 w' ∧ Kept w w' P := by
  have HO0 := Aside0.mk ho
  have HK := Aside0.mk (Kept.refl w P)
  have HB := Aside0.mk hB
  clear hB ho
  have H' : Aside0 (laws_markFaceS.l0 k l a1 0 = some (r1, r2)) := ⟨h⟩
  clear h
  go_enter Try.func100, Try.ntmps100
  go_wp2
  go_loopg [1, 5] k (fun kq v1 v5 w' => ∃ (x0_1 : List (S121)) (x1_1 : Int) (x5_1 : Int), v1 = .int .i64 x1_1 ∧ v5 = .int .i64 x5_1 ∧ Aside0 (laws_markFaceS.l0 kq x0_1 x1_1 x5_1 = some (r1, r2)) ∧ Aside0 (kq ≤ k) ∧ Aside0 (x0_1.length = l.length) ∧ Aside0 (Kd.S k121 121 w' w0.heap.size P (.slice A l.length c) x0_1) ∧ Aside0 (Kept w w' P) ∧ Aside0 (Below w0.heap.size w0 w'))
  case atStart => exact ⟨l, a1, 0, rfl, rfl, H', ⟨Nat.le_refl _⟩, ⟨rfl⟩, HO0, HK, HB⟩
  case round =>
    clear H'
    try clear p2
    obtain ⟨x0_1, x1_1, x5_1, rfl, rfl, HA, HK1, HL, HO_0, HK, HB⟩ := hrel
    cases gk with
    | zero => exact absurd HA.out (by simp [laws_markFaceS.l0])
    | succ k1 =>
      have H := HA.out
      clear HA
      simp only [laws_markFaceS.l0] at H
      rw [HL.out] at H
      by_cases c3 : x5_1 < (l.length : Int)
      · rw [if_pos c3] at H
        have c3b0 : decide (x5_1 < (l.length : Int)) = true := decide_eq_true c3
        by_cases c4 : 0 ≤ x5_1
        · rw [if_pos c4] at H
          have c4b0 : decide (0 ≤ x5_1) = true := decide_eq_true c4
          obtain ⟨⟨t1, t2⟩, hcall, H⟩ := Option.bind_eq_some_iff.mp H
          have A1 := Aside0.mk hcall
          have H' : Aside0 (laws_markFaceS.l0 k1 (x0_1.set x5_1.toNat ⟨t2, faceMark t1⟩) (faceNext t1) (wrap64 (x5_1 + 1)) = some (r1, r2)) := ⟨H⟩
          clear H hcall
          obtain ⟨go, co, eo, gb, gl, cl, HG⟩ := Kd.S_form HO_0.out (by have := HL.out; omega)
          injection eo with ea en ec
          subst ea ec
          have M0 : MF w0 w P go c x5_1 x0_1 (rd_T121 x0_1 x5_1) wr := ⟨c4, by have := HL.out; omega, by
            have hq : x0_1.set x5_1.toNat (rd_T121 x0_1 x5_1) = x0_1 := by
              have hlt : x5_1.toNat < x0_1.length := by have := HL.out; omega
              rw [show rd_T121 x0_1 x5_1 = x0_1[x5_1.toNat] by unfold rd_T121; rw [List.getD_eq_getElem?_getD, List.getElem?_eq_getElem hlt]; rfl]
              exact List.set_getElem_self hlt
            rw [hq, HL.out]; exact HO_0.out, HB.out, HK.out, gb⟩
          have HL2 := Aside0.mk HL.out
          clear en HL
          clear cl HG gl HO_0 HB HK
          obtain ⟨A0, c0, oki, hcz, hr0, hback⟩ := M0.lend
          have HR0 := Aside0.mk hr0
          have HBK := Aside0.mk hback
          have HBB := Aside0.mk M0.b
          have p5 := eq_true c4
          have q5 := eq_true c3
          clear M0 hr0 hback c3 c4
          go_wp2_with (first | ((with_reducible refine gate_callee (f := 99) rfl ?_); refine goesL_ (some 18) rfl rfl Try.func99 (by kernel_rfl) rfl #[.slice A0 (rd_T121 x0_1 x5_1).f0.length c0, .int .i64 x1_1] rfl (by (try simp only [List.map_toArray, List.map_cons, List.map_nil]); first | done | rfl) ?_; (with_reducible refine (laws_markPointS.calls k1 oki _ _ x1_1 t1 t2 w0 _ ?side1 ?side2 A1.out).mono ?_); (case side1 => exact HBB.out); (case side2 => exact HR0.out); rintro e w13 ⟨rfl, hy, hb, hkp⟩; refine ⟨_, rfl, ?_⟩; have M1 := Aside0.mk (HBK.out w13 t2 hy hb hkp); clear hy hb hkp hcz HR0 HBK HBB; obtain ⟨hx1, hx2, hx3, hx4, hx5, hx6, hx7, hx8⟩ := M1.out.cells; have hf := M1.out.free 1) | ((with_reducible refine gate_store (t := 2) (p := 24) rfl ?_); refine store_event (t := 2) (p := 24) (v := ?vo_w14) (w1 := (w13.setCell ⟨go, (x5_1 : Int).toNat * 9 + 1, none⟩ (.int .i64 t1))) ?hg ?ho ?hn ?hr ?_; (case ho => rfl); (case hg => rfl); (case hn => rfl); (case hr => first | (go_simp; done) | (go_simp; rfl)); intro w14 hw; have M2 := Aside0.mk (show MF w0 w P go c x5_1 x0_1 ⟨t2, (⟨t1, (rd_T121 x0_1 x5_1).f1.f1, ⟨(rd_T121 x0_1 x5_1).f1.f2.f0, (rd_T121 x0_1 x5_1).f1.f2.f1, (rd_T121 x0_1 x5_1).f1.f2.f2⟩, ⟨(rd_T121 x0_1 x5_1).f1.f3.f0, (rd_T121 x0_1 x5_1).f1.f3.f1, (rd_T121 x0_1 x5_1).f1.f3.f2⟩⟩ : S118)⟩ w14 from (by rw [hw]; exact MF.store M1.out (⟨t1, (rd_T121 x0_1 x5_1).f1.f1, ⟨(rd_T121 x0_1 x5_1).f1.f2.f0, (rd_T121 x0_1 x5_1).f1.f2.f1, (rd_T121 x0_1 x5_1).f1.f2.f2⟩, ⟨(rd_T121 x0_1 x5_1).f1.f3.f0, (rd_T121 x0_1 x5_1).f1.f3.f1, (rd_T121 x0_1 x5_1).f1.f3.f2⟩⟩ : S118) 1 (.int .i64 t1) (by decide) (fun _ => rfl))); clear hw M1 hf hx1 hx2 hx3 hx4 hx5 hx6 hx7 hx8; obtain ⟨hx1, hx2, hx3, hx4, hx5, hx6, hx7, hx8⟩ := M2.out.cells; have hf := M2.out.free 2) | ((with_reducible refine gate_store (t := 4) (p := 34) rfl ?_); refine store_event (t := 4) (p := 34) (v := ?vo_w15) (w1 := (w14.setCell ⟨go, (x5_1 : Int).toNat * 9 + 2, none⟩ (.bool ((Int.tmod (wrap64 (t1 + 1)) 3 == 0))))) ?hg ?ho ?hn ?hr ?_; (case ho => rfl); (case hg => rfl); (case hn => rfl); (case hr => first | (go_simp; done) | (go_simp; rfl)); intro w15 hw; have M3 := Aside0.mk (show MF w0 w P go c x5_1 x0_1 ⟨t2, (⟨t1, (Int.tmod (wrap64 (t1 + 1)) 3 == 0), ⟨(rd_T121 x0_1 x5_1).f1.f2.f0, (rd_T121 x0_1 x5_1).f1.f2.f1, (rd_T121 x0_1 x5_1).f1.f2.f2⟩, ⟨(rd_T121 x0_1 x5_1).f1.f3.f0, (rd_T121 x0_1 x5_1).f1.f3.f1, (rd_T121 x0_1 x5_1).f1.f3.f2⟩⟩ : S118)⟩ w15 from (by rw [hw]; exact MF.store M2.out (⟨t1, (Int.tmod (wrap64 (t1 + 1)) 3 == 0), ⟨(rd_T121 x0_1 x5_1).f1.f2.f0, (rd_T121 x0_1 x5_1).f1.f2.f1, (rd_T121 x0_1 x5_1).f1.f2.f2⟩, ⟨(rd_T121 x0_1 x5_1).f1.f3.f0, (rd_T121 x0_1 x5_1).f1.f3.f1, (rd_T121 x0_1 x5_1).f1.f3.f2⟩⟩ : S118) 2 (.bool ((Int.tmod (wrap64 (t1 + 1)) 3 == 0))) (by decide) (fun _ => rfl))); clear hw M2 hf hx1 hx2 hx3 hx4 hx5 hx6 hx7 hx8; obtain ⟨hx1, hx2, hx3, hx4, hx5, hx6, hx7, hx8⟩ := M3.out.cells; have hf := M3.out.free 3) | ((with_reducible refine gate_store (t := 2) (p := 43) rfl ?_); refine store_event (t := 2) (p := 43) (v := ?vo_w16) (w1 := (w15.setCell ⟨go, (x5_1 : Int).toNat * 9 + 3, none⟩ (.int .i64 (wrap64 ((wrap64 (t1 + 1)) + 1))))) ?hg ?ho ?hn ?hr ?_; (case ho => rfl); (case hg => rfl); (case hn => rfl); (case hr => first | (go_simp; done) | (go_simp; rfl)); intro w16 hw; have M4 := Aside0.mk (show MF w0 w P go c x5_1 x0_1 ⟨t2, (⟨t1, (Int.tmod (wrap64 (t1 + 1)) 3 == 0), ⟨(wrap64 ((wrap64 (t1 + 1)) + 1)), (rd_T121 x0_1 x5_1).f1.f2.f1, (rd_T121 x0_1 x5_1).f1.f2.f2⟩, ⟨(rd_T121 x0_1 x5_1).f1.f3.f0, (rd_T121 x0_1 x5_1).f1.f3.f1, (rd_T121 x0_1 x5_1).f1.f3.f2⟩⟩ : S118)⟩ w16 from (by rw [hw]; exact MF.store M3.out (⟨t1, (Int.tmod (wrap64 (t1 + 1)) 3 == 0), ⟨(wrap64 ((wrap64 (t1 + 1)) + 1)), (rd_T121 x0_1 x5_1).f1.f2.f1, (rd_T121 x0_1 x5_1).f1.f2.f2⟩, ⟨(rd_T121 x0_1 x5_1).f1.f3.f0, (rd_T121 x0_1 x5_1).f1.f3.f1, (rd_T121 x0_1 x5_1).f1.f3.f2⟩⟩ : S118) 3 (.int .i64 (wrap64 ((wrap64 (t1 + 1)) + 1))) (by decide) (fun _ => rfl))); clear hw M3 hf hx1 hx2 hx3 hx4 hx5 hx6 hx7 hx8; obtain ⟨hx1, hx2, hx3, hx4, hx5, hx6, hx7, hx8⟩ := M4.out.cells; have hf := M4.out.free 4) | ((with_reducible refine gate_store (t := 2) (p := 52) rfl ?_); refine store_event (t := 2) (p := 52) (v := ?vo_w17) (w1 := (w16.setCell ⟨go, (x5_1 : Int).toNat * 9 + 4, none⟩ (.int .i64 (wrap64 ((wrap64 ((wrap64 (t1 + 1)) + 1)) + 1))))) ?hg ?ho ?hn ?hr ?_; (case ho => rfl); (case hg => rfl); (case hn => rfl); (case hr => first | (go_simp; done) | (go_simp; rfl)); intro w17 hw; have M5 := Aside0.mk (show MF w0 w P go c x5_1 x0_1 ⟨t2, (⟨t1, (Int.tmod (wrap64 (t1 + 1)) 3 == 0), ⟨(wrap64 ((wrap64 (t1 + 1)) + 1)), (wrap64 ((wrap64 ((wrap64 (t1 + 1)) + 1)) + 1)), (rd_T121 x0_1 x5_1).f1.f2.f2⟩, ⟨(rd_T121 x0_1 x5_1).f1.f3.f0, (rd_T121 x0_1 x5_1).f1.f3.f1, (rd_T121 x0_1 x5_1).f1.f3.f2⟩⟩ : S118)⟩ w17 from (by rw [hw]; exact MF.store M4.out (⟨t1, (Int.tmod (wrap64 (t1 + 1)) 3 == 0), ⟨(wrap64 ((wrap64 (t1 + 1)) + 1)), (wrap64 ((wrap64 ((wrap64 (t1 + 1)) + 1)) + 1)), (rd_T121 x0_1 x5_1).f1.f2.f2⟩, ⟨(rd_T121 x0_1 x5_1).f1.f3.f0, (rd_T121 x0_1 x5_1).f1.f3.f1, (rd_T121 x0_1 x5_1).f1.f3.f2⟩⟩ : S118) 4 (.int .i64 (wrap64 ((wrap64 ((wrap64 (t1 + 1)) + 1)) + 1))) (by decide) (fun _ => rfl))); clear hw M4 hf hx1 hx2 hx3 hx4 hx5 hx6 hx7 hx8; obtain ⟨hx1, hx2, hx3, hx4, hx5, hx6, hx7, hx8⟩ := M5.out.cells; have hf := M5.out.free 5) | ((with_reducible refine gate_store (t := 2) (p := 61) rfl ?_); refine store_event (t := 2) (p := 61) (v := ?vo_w18) (w1 := (w17.setCell ⟨go, (x5_1 : Int).toNat * 9 + 5, none⟩ (.int .i64 (wrap64 ((wrap64 ((wrap64 ((wrap64 (t1 + 1)) + 1)) + 1)) + 1))))) ?hg ?ho ?hn ?hr ?_; (case ho => rfl); (case hg => rfl); (case hn => rfl); (case hr => first | (go_simp; done) | (go_simp; rfl)); intro w18 hw; have M6 := Aside0.mk (show MF w0 w P go c x5_1 x0_1 ⟨t2, (⟨t1, (Int.tmod (wrap64 (t1 + 1)) 3 == 0), ⟨(wrap64 ((wrap64 (t1 + 1)) + 1)), (wrap64 ((wrap64 ((wrap64 (t1 + 1)) + 1)) + 1)), (wrap64 ((wrap64 ((wrap64 ((wrap64 (t1 + 1)) + 1)) + 1)) + 1))⟩, ⟨(rd_T121 x0_1 x5_1).f1.f3.f0, (rd_T121 x0_1 x5_1).f1.f3.f1, (rd_T121 x0_1 x5_1).f1.f3.f2⟩⟩ : S118)⟩ w18 from (by rw [hw]; exact MF.store M5.out (⟨t1, (Int.tmod (wrap64 (t1 + 1)) 3 == 0), ⟨(wrap64 ((wrap64 (t1 + 1)) + 1)), (wrap64 ((wrap64 ((wrap64 (t1 + 1)) + 1)) + 1)), (wrap64 ((wrap64 ((wrap64 ((wrap64 (t1 + 1)) + 1)) + 1)) + 1))⟩, ⟨(rd_T121 x0_1 x5_1).f1.f3.f0, (rd_T121 x0_1 x5_1).f1.f3.f1, (rd_T121 x0_1 x5_1).f1.f3.f2⟩⟩ : S118) 5 (.int .i64 (wrap64 ((wrap64 ((wrap64 ((wrap64 (t1 + 1)) + 1)) + 1)) + 1))) (by decide) (fun _ => rfl))); clear hw M5 hf hx1 hx2 hx3 hx4 hx5 hx6 hx7 hx8; obtain ⟨hx1, hx2, hx3, hx4, hx5, hx6, hx7, hx8⟩ := M6.out.cells; have hf := M6.out.free 6) | ((with_reducible refine gate_store (t := 2) (p := 70) rfl ?_); refine store_event (t := 2) (p := 70) (v := ?vo_w19) (w1 := (w18.setCell ⟨go, (x5_1 : Int).toNat * 9 + 6, none⟩ (.int .i64 (wrap64 ((wrap64 ((wrap64 ((wrap64 ((wrap64 (t1 + 1)) + 1)) + 1)) + 1)) + 1))))) ?hg ?ho ?hn ?hr ?_; (case ho => rfl); (case hg => rfl); (case hn => rfl); (case hr => first | (go_simp; done) | (go_simp; rfl)); intro w19 hw; have M7 := Aside0.mk (show MF w0 w P go c x5_1 x0_1 ⟨t2, (⟨t1, (Int.tmod (wrap64 (t1 + 1)) 3 == 0), ⟨(wrap64 ((wrap64 (t1 + 1)) + 1)), (wrap64 ((wrap64 ((wrap64 (t1 + 1)) + 1)) + 1)), (wrap64 ((wrap64 ((wrap64 ((wrap64 (t1 + 1)) + 1)) + 1)) + 1))⟩, ⟨(wrap64 ((wrap64 ((wrap64 ((wrap64 ((wrap64 (t1 + 1)) + 1)) + 1)) + 1)) + 1)), (rd_T121 x0_1 x5_1).f1.f3.f1, (rd_T121 x0_1 x5_1).f1.f3.f2⟩⟩ : S118)⟩ w19 from (by rw [hw]; exact MF.store M6.out (⟨t1, (Int.tmod (wrap64 (t1 + 1)) 3 == 0), ⟨(wrap64 ((wrap64 (t1 + 1)) + 1)), (wrap64 ((wrap64 ((wrap64 (t1 + 1)) + 1)) + 1)), (wrap64 ((wrap64 ((wrap64 ((wrap64 (t1 + 1)) + 1)) + 1)) + 1))⟩, ⟨(wrap64 ((wrap64 ((wrap64 ((wrap64 ((wrap64 (t1 + 1)) + 1)) + 1)) + 1)) + 1)), (rd_T121 x0_1 x5_1).f1.f3.f1, (rd_T121 x0_1 x5_1).f1.f3.f2⟩⟩ : S118) 6 (.int .i64 (wrap64 ((wrap64 ((wrap64 ((wrap64 ((wrap64 (t1 + 1)) + 1)) + 1)) + 1)) + 1))) (by decide) (fun _ => rfl))); clear hw M6 hf hx1 hx2 hx3 hx4 hx5 hx6 hx7 hx8; obtain ⟨hx1, hx2, hx3, hx4, hx5, hx6, hx7, hx8⟩ := M7.out.cells; have hf := M7.out.free 7) | ((with_reducible refine gate_store (t := 2) (p := 79) rfl ?_); refine store_event (t := 2) (p := 79) (v := ?vo_w20) (w1 := (w19.setCell ⟨go, (x5_1 : Int).toNat * 9 + 7, none⟩ (.int .i64 (wrap64 ((wrap64 ((wrap64 ((wrap64 ((wrap64 ((wrap64 (t1 + 1)) + 1)) + 1)) + 1)) + 1)) + 1))))) ?hg ?ho ?hn ?hr ?_; (case ho => rfl); (case hg => rfl); (case hn => rfl); (case hr => first | (go_simp; done) | (go_simp; rfl)); intro w20 hw; have M8 := Aside0.mk (show MF w0 w P go c x5_1 x0_1 ⟨t2, (⟨t1, (Int.tmod (wrap64 (t1 + 1)) 3 == 0), ⟨(wrap64 ((wrap64 (t1 + 1)) + 1)), (wrap64 ((wrap64 ((wrap64 (t1 + 1)) + 1)) + 1)), (wrap64 ((wrap64 ((wrap64 ((wrap64 (t1 + 1)) + 1)) + 1)) + 1))⟩, ⟨(wrap64 ((wrap64 ((wrap64 ((wrap64 ((wrap64 (t1 + 1)) + 1)) + 1)) + 1)) + 1)), (wrap64 ((wrap64 ((wrap64 ((wrap64 ((wrap64 ((wrap64 (t1 + 1)) + 1)) + 1)) + 1)) + 1)) + 1)), (rd_T121 x0_1 x5_1).f1.f3.f2⟩⟩ : S118)⟩ w20 from (by rw [hw]; exact MF.store M7.out (⟨t1, (Int.tmod (wrap64 (t1 + 1)) 3 == 0), ⟨(wrap64 ((wrap64 (t1 + 1)) + 1)), (wrap64 ((wrap64 ((wrap64 (t1 + 1)) + 1)) + 1)), (wrap64 ((wrap64 ((wrap64 ((wrap64 (t1 + 1)) + 1)) + 1)) + 1))⟩, ⟨(wrap64 ((wrap64 ((wrap64 ((wrap64 ((wrap64 (t1 + 1)) + 1)) + 1)) + 1)) + 1)), (wrap64 ((wrap64 ((wrap64 ((wrap64 ((wrap64 ((wrap64 (t1 + 1)) + 1)) + 1)) + 1)) + 1)) + 1)), (rd_T121 x0_1 x5_1).f1.f3.f2⟩⟩ : S118) 7 (.int .i64 (wrap64 ((wrap64 ((wrap64 ((wrap64 ((wrap64 ((wrap64 (t1 + 1)) + 1)) + 1)) + 1)) + 1)) + 1))) (by decide) (fun _ => rfl))); clear hw M7 hf hx1 hx2 hx3 hx4 hx5 hx6 hx7 hx8; obtain ⟨hx1, hx2, hx3, hx4, hx5, hx6, hx7, hx8⟩ := M8.out.cells; have hf := M8.out.free 8) | ((with_reducible refine gate_store (t := 2) (p := 88) rfl ?_); refine store_event (t := 2) (p := 88) (v := ?vo_w21) (w1 := (w20.setCell ⟨go, (x5_1 : Int).toNat * 9 + 8, none⟩ (.int .i64 (wrap64 ((wrap64 ((wrap64 ((wrap64 ((wrap64 ((wrap64 ((wrap64 (t1 + 1)) + 1)) + 1)) + 1)) + 1)) + 1)) + 1))))) ?hg ?ho ?hn ?hr ?_; (case ho => rfl); (case hg => rfl); (case hn => rfl); (case hr => first | (go_simp; done) | (go_simp; rfl)); intro w21 hw; have M9 := Aside0.mk (show MF w0 w P go c x5_1 x0_1 ⟨t2, (⟨t1, (Int.tmod (wrap64 (t1 + 1)) 3 == 0), ⟨(wrap64 ((wrap64 (t1 + 1)) + 1)), (wrap64 ((wrap64 ((wrap64 (t1 + 1)) + 1)) + 1)), (wrap64 ((wrap64 ((wrap64 ((wrap64 (t1 + 1)) + 1)) + 1)) + 1))⟩, ⟨(wrap64 ((wrap64 ((wrap64 ((wrap64 ((wrap64 (t1 + 1)) + 1)) + 1)) + 1)) + 1)), (wrap64 ((wrap64 ((wrap64 ((wrap64 ((wrap64 ((wrap64 (t1 + 1)) + 1)) + 1)) + 1)) + 1)) + 1)), (wrap64 ((wrap64 ((wrap64 ((wrap64 ((wrap64 ((wrap64 ((wrap64 (t1 + 1)) + 1)) + 1)) + 1)) + 1)) + 1)) + 1))⟩⟩ : S118)⟩ w21 from (by rw [hw]; exact MF.store M8.out (⟨t1, (Int.tmod (wrap64 (t1 + 1)) 3 == 0), ⟨(wrap64 ((wrap64 (t1 + 1)) + 1)), (wrap64 ((wrap64 ((wrap64 (t1 + 1)) + 1)) + 1)), (wrap64 ((wrap64 ((wrap64 ((wrap64 (t1 + 1)) + 1)) + 1)) + 1))⟩, ⟨(wrap64 ((wrap64 ((wrap64 ((wrap64 ((wrap64 (t1 + 1)) + 1)) + 1)) + 1)) + 1)), (wrap64 ((wrap64 ((wrap64 ((wrap64 ((wrap64 ((wrap64 (t1 + 1)) + 1)) + 1)) + 1)) + 1)) + 1)), (wrap64 ((wrap64 ((wrap64 ((wrap64 ((wrap64 ((wrap64 ((wrap64 (t1 + 1)) + 1)) + 1)) + 1)) + 1)) + 1)) + 1))⟩⟩ : S118) 8 (.int .i64 (wrap64 ((wrap64 ((wrap64 ((wrap64 ((wrap64 ((wrap64 ((wrap64 (t1 + 1)) + 1)) + 1)) + 1)) + 1)) + 1)) + 1))) (by decide) (fun _ => rfl))); clear hw M8 hf hx1 hx2 hx3 hx4 hx5 hx6 hx7 hx8))
          go_roundg k1
          case measure => have := HK1.out; omega
          case rel => exact ⟨(x0_1.set x5_1.toNat ⟨t2, faceMark t1⟩), faceNext t1, (wrap64 (x5_1 + 1)), (by first | rfl | (simp; done) | (simp [*]; done)), (by first | rfl | (simp; done) | (simp [*]; done)), H', ⟨by have := HK1.out; omega⟩, ⟨by rw [List.length_set]; exact HL2.out⟩, ⟨by have h_ := M9.out.s; rw [HL2.out] at h_; exact h_⟩, ⟨M9.out.k⟩, ⟨M9.out.b⟩⟩
        · rw [if_neg c4] at H
          exact absurd H (by simp)
      · rw [if_neg c3] at H
        have c3b0 : decide (x5_1 < (l.length : Int)) = false := decide_eq_false c3
        simp only [Option.some.injEq, Prod.mk.injEq] at H
        obtain ⟨rfl, rfl⟩ := H
        clear c3
        go_wp2
        go_ret
        exact ⟨by first | rfl | (simp [errW_none, errW_some] <;> rfl), HO_0.out, HB.out, HK.out⟩
/-! ### A state in memory: its three rows, their blocks told apart (Pp, Pf, Po), all below b. -/
structure St (n b : Nat) (W : World) (Pp Pf Po : Nat → Prop) (vp vf vo : Value) (p : List S130) (f : List S121) (o : List Int) : Prop where
  hp : Kd.R k130 130 W n Pp vp p
  hf : Kd.S k121 121 W n Pf vf f
  ho : Kd.R (Kd.int .i64) 2 W n Po vo o
  d1 : ∀ k, Pp k → ¬ Pf k
  d2 : ∀ k, Pp k → ¬ Po k
  d3 : ∀ k, Pf k → ¬ Po k
  bd : ∀ k, Pp k ∨ Pf k ∨ Po k → k < b
  sz : b ≤ W.heap.size
section
variable {n b : Nat} {w0 W W2 : World} {Pp Pf Po : Nat → Prop} {vp vf vo : Value} {p p' : List S130} {f f' : List S121} {o o' : List Int}
theorem St.step (h : St n b W Pp Pf Po vp vf vo p f o) (hs : W.heap.size ≤ W2.heap.size) (hm : ∀ k, Pp k ∨ Pf k ∨ Po k → k < W.heap.size → W2.heap[k]? = W.heap[k]?) : St n b W2 Pp Pf Po vp vf vo p f o :=
  ⟨Kd.R_step h.hp (fun k hk hl => hm k (.inl hk) hl), Kd.S_step h.hf (fun k hk hl => hm k (.inr (.inl hk)) hl), Kd.R_step h.ho (fun k hk hl => hm k (.inr (.inr hk)) hl), h.d1, h.d2, h.d3, h.bd, Nat.le_trans h.sz hs⟩
theorem St.below (h : St n b W Pp Pf Po vp vf vo p f o) (hb : Below W.heap.size W W2) : St n b W2 Pp Pf Po vp vf vo p f o := h.step hb.size (fun k _ hl => hb.block k hl)
theorem St.kept {S : Nat → Prop} (h : St n b W Pp Pf Po vp vf vo p f o) (hk : Kept W W2 S) (hs : ∀ k, Pp k ∨ Pf k ∨ Po k → ¬ S k) : St n b W2 Pp Pf Po vp vf vo p f o := h.step hk.1 (fun k hp hl => hk.2 k hl (hs k hp))
theorem St.mark1 (h : St n b W Pp Pf Po vp vf vo p f o) (hy : Kd.R k130 130 W2 n (fun k => Pp k ∨ W.heap.size ≤ k) vp p') (hk : Kept W W2 Pp) : St n b W2 Pp Pf Po vp vf vo p' f o :=
  ⟨Kd.R_reok rfl hy (fun k e => h.hp.1 k e), Kd.S_step h.hf (fun k hf hl => hk.2 k hl (fun hp => h.d1 k hp hf)), Kd.R_step h.ho (fun k ho hl => hk.2 k hl (fun hp => h.d2 k hp ho)), h.d1, h.d2, h.d3, h.bd, Nat.le_trans h.sz hk.1⟩
theorem St.mark2 (h : St n b W Pp Pf Po vp vf vo p f o) (hy : Kd.S k121 121 W2 n Pf vf f') (hk : Kept W W2 Pf) : St n b W2 Pp Pf Po vp vf vo p f' o :=
  ⟨Kd.R_step h.hp (fun k hp hl => hk.2 k hl (h.d1 k hp)), hy, Kd.R_step h.ho (fun k ho hl => hk.2 k hl (fun hf => h.d3 k hf ho)), h.d1, h.d2, h.d3, h.bd, Nat.le_trans h.sz hk.1⟩
theorem St.mark3 (h : St n b W Pp Pf Po vp vf vo p f o) (hy : Kd.R (Kd.int .i64) 2 W2 n (fun k => Po k ∨ W.heap.size ≤ k) vo o') (hk : Kept W W2 Po) : St n b W2 Pp Pf Po vp vf vo p f o' :=
  ⟨Kd.R_step h.hp (fun k hp hl => hk.2 k hl (h.d2 k hp)), Kd.S_step h.hf (fun k hf hl => hk.2 k hl (h.d3 k hf)), Kd.R_reok rfl hy (fun k e => h.ho.1 k e), h.d1, h.d2, h.d3, h.bd, Nat.le_trans h.sz hk.1⟩
/-- As a call has made it. -/
theorem St.made (hp : Kd.R k130 130 W2 W.heap.size (fun _ => True) vp p) (hf : Kd.S k121 121 W2 W.heap.size (fun k => some k ≠ vp.ownBlock) vf f) (ho : Kd.R (Kd.int .i64) 2 W2 W.heap.size (fun _ => True) vo o) (hn : n ≤ W.heap.size) :
    ∃ Pp Pf Po : Nat → Prop, St n W2.heap.size W2 Pp Pf Po vp vf vo p f o ∧ ∀ k, Pp k ∨ Pf k ∨ Po k → W.heap.size ≤ k := by
  refine ⟨fun k => some k = vp.ownBlock, fun k => some k ≠ vp.ownBlock ∧ W.heap.size ≤ k ∧ k < W2.heap.size ∧ ∃ q, q ∈ 121 :: k121.E ∧ ∃ cells, W2.heap[k]? = some (.cells cells q (0, 0)), fun k => some k = vo.ownBlock, ⟨Kd.R_lower (Kd.R_tight rfl hp) hn, Kd.S_lower (Kd.S_bound hf) hn, Kd.R_lower (Kd.R_tight rfl ho) hn, fun k e h => h.1 e, fun k e1 e2 => ?_, fun k h e => ?_, fun k h => ?_, Nat.le_refl _⟩, fun k h => ?_⟩
  · obtain ⟨c1, h1⟩ := Kd.R_typed hp k e1.symm
    obtain ⟨c2, h2⟩ := Kd.R_typed ho k e2.symm
    rw [h1] at h2
    injection h2 with h2
    injection h2 with _ h2
    exact absurd h2 (by decide)
  · obtain ⟨c2, h2⟩ := Kd.R_typed ho k e.symm
    obtain ⟨_, _, _, q, hq, c1, h1⟩ := h
    rw [h1] at h2
    injection h2 with h2
    injection h2 with _ h2
    subst h2
    exact absurd hq (by decide)
  · rcases h with h | h | h
    · exact Kd.R_lt hp k h.symm
    · exact h.2.2.1
    · exact Kd.R_lt ho k h.symm
  · rcases h with h | h | h
    · exact Kd.R_base hp k h.symm
    · exact h.2.1
    · exact Kd.R_base ho k h.symm
end
/-! ### laws_markState: function 42, by hand -/
def laws_markState.f (k : Nat) (p : List S130) (f : List S121) (o : List Int) (a1 : Int) : Option (Int × List S130 × List S121 × List Int) := (laws_markPointS.f k p a1).bind fun x => (laws_markFaceS.f k f x.1).bind fun y => (laws_markInt64S.f k o y.1).bind fun z => some (z.1, x.2, y.2, z.2)
set_option maxHeartbeats 8000000 in
set_option maxRecDepth 100000 in
theorem laws_markState.calls (k b : Nat) (Pp Pf Po : Nat → Prop) (vp vf vo : Value) (p : List S130) (f : List S121) (o : List Int) (a1 r : Int) (p' : List S130) (f' : List S121) (o' : List Int) (w0 w : World) (hB : Below w0.heap.size w0 w) (hS : St w0.heap.size b w Pp Pf Po vp vf vo p f o) (h : laws_markState.f k p f o a1 = some (r, p', f', o')) :
    Calls Try.prog 42 #[.agg #[vp, vf, vo], .int .i64 a1] w fun e w' => e = .returned (.int .i64 r) ∧ St w0.heap.size b w' Pp Pf Po vp vf vo p' f' o' ∧ Below w0.heap.size w0 w' ∧ Kept w w' (fun k => Pp k ∨ Pf k ∨ Po k) := by
  have hu65 := Try.underlying65
  unfold laws_markState.f at h
  obtain ⟨⟨t1, q1⟩, h1, h⟩ := Option.bind_eq_some_iff.mp h
  obtain ⟨⟨t2, q2⟩, h2, h⟩ := Option.bind_eq_some_iff.mp h
  obtain ⟨⟨t3, q3⟩, h3, h⟩ := Option.bind_eq_some_iff.mp h
  simp only [Option.some.injEq, Prod.mk.injEq] at h
  obtain ⟨rfl, rfl, rfl, rfl⟩ := h
  have A1 := Aside0.mk h1
  have A2 := Aside0.mk h2
  have A3 := Aside0.mk h3
  obtain ⟨Ap, cp, rfl⟩ := Kd.R_slice hS.hp
  obtain ⟨Af, cf, rfl⟩ := Kd.S_slice hS.hf
  obtain ⟨Ao, co, rfl⟩ := Kd.R_slice hS.ho
  have HS := Aside0.mk hS
  have HB := Aside0.mk hB
  have HK := Aside0.mk (Kept.refl w (fun k => Pp k ∨ Pf k ∨ Po k))
  clear h1 h2 h3 hS hB
  go_enter Try.func42, Try.ntmps42
  go_wp2_with (first | ((with_reducible refine gate_dst (N := 2) rfl ?_); refine box_event ?hg (N := 2) ?hd (cs := #[.slice Ap p.length cp, .slice Af f.length cf, .slice Ao o.length co]) (t := 65) ?hr ?_; (case hd => rfl); (case hg => rfl); (case hr => first | (go_simp; done) | (go_simp; rfl)); intro gb hg w9 hbox hb; have HG := Aside0.mk (show b ≤ gb from by rw [hg]; exact HS.out.sz); replace HS := Aside0.mk (HS.out.below hb); replace HB := Aside0.mk (below_step HB.out hb); replace HK := Aside0.mk (Kept.below HK.out hb); have BK := Aside0.mk hbox; clear hg hbox hb; have hcz0 : w9.cell? ⟨gb, 0, none⟩ = some (.slice Ap p.length cp) := (blk_cell BK.out 0).trans rfl; have hfz0 := blk_frozen BK.out 0) | ((with_reducible refine gate_callee (f := 99) rfl ?_); refine goesL_ (some 8) rfl rfl Try.func99 (by kernel_rfl) rfl #[.slice Ap p.length cp, .int .i64 a1] rfl (by (try simp only [List.map_toArray, List.map_cons, List.map_nil]); first | done | rfl) ?_; (with_reducible refine (laws_markPointS.calls k Pp _ _ a1 _ _ w0 _ ?side1 ?side2 A1.out).mono ?_); (case side1 => exact HB.out); (case side2 => exact HS.out.hp); rintro e w10 ⟨rfl, hy, hb, hkp⟩; refine ⟨_, rfl, ?_⟩; have hne : ¬ Pp gb := fun hk => absurd (HS.out.bd gb (.inl hk)) (Nat.not_lt.2 HG.out); replace BK := Aside0.mk (blk_kept BK.out hkp hne); replace HS := Aside0.mk (HS.out.mark1 hy hkp); replace HB := Aside0.mk hb; replace HK := Aside0.mk (Kept.then_ HK.out hkp (fun k hk => .inl (.inl hk))); clear hy hb hkp hne hcz0 hfz0; have hcz1 : w10.cell? ⟨gb, 1, none⟩ = some (.slice Af f.length cf) := (blk_cell BK.out 1).trans rfl; have hfz1 := blk_frozen BK.out 1) | ((with_reducible refine gate_callee (f := 100) rfl ?_); refine goesL_ (some 12) rfl rfl Try.func100 (by kernel_rfl) rfl #[.slice Af f.length cf, .int .i64 t1] rfl (by (try simp only [List.map_toArray, List.map_cons, List.map_nil]); first | done | rfl) ?_; (with_reducible refine (laws_markFaceS.calls k Pf _ _ _ t1 _ _ w0 _ ?side1 ?side2 A2.out).mono ?_); (case side1 => exact HB.out); (case side2 => exact HS.out.hf); rintro e w11 ⟨rfl, hy, hb, hkp⟩; refine ⟨_, rfl, ?_⟩; have hne : ¬ Pf gb := fun hk => absurd (HS.out.bd gb (.inr (.inl hk))) (Nat.not_lt.2 HG.out); replace BK := Aside0.mk (blk_kept BK.out hkp hne); replace HS := Aside0.mk (HS.out.mark2 hy hkp); replace HB := Aside0.mk hb; replace HK := Aside0.mk (Kept.then_ HK.out hkp (fun k hk => .inl (.inr (.inl hk)))); clear hy hb hkp hne hcz1 hfz1; have hcz2 : w11.cell? ⟨gb, 2, none⟩ = some (.slice Ao o.length co) := (blk_cell BK.out 2).trans rfl; have hfz2 := blk_frozen BK.out 2) | ((with_reducible refine gate_callee (f := 33) rfl ?_); refine goesL_ (some 16) rfl rfl Try.func33 (by kernel_rfl) rfl #[.slice Ao o.length co, .int .i64 t2] rfl (by (try simp only [List.map_toArray, List.map_cons, List.map_nil]); first | done | rfl) ?_; (with_reducible refine (laws_markInt64S.calls k Po _ _ t2 _ _ w0 _ ?side1 ?side2 A3.out).mono ?_); (case side1 => exact HB.out); (case side2 => exact HS.out.ho); rintro e w12 ⟨rfl, hy, hb, hkp⟩; refine ⟨_, rfl, ?_⟩; replace HS := Aside0.mk (HS.out.mark3 hy hkp); replace HB := Aside0.mk hb; replace HK := Aside0.mk (Kept.then_ HK.out hkp (fun k hk => .inl (.inr (.inr hk)))); clear hy hb hkp hcz2 hfz2))
  go_ret
  exact ⟨by first | rfl | (simp [errW_none, errW_some] <;> rfl), HS.out, HB.out, HK.out⟩

end Go.Proofs.Yteadienaeapaeaa.PT
