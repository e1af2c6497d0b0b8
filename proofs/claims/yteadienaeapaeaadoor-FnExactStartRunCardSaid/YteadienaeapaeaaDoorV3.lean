/- The statement FnExactStartRun, as its card says, holds of the given program: no conditions. Part 3. -/
import Derived.Test.YteadienaeapaeaaDoorV2
import Derived.Laws.StructEq
import Derived.ChangeKeysEq
import Derived.Deep.Slices
import Derived.ProofKit
import Derived.Carry
import Derived.Below
import Derived.OpenShut
import Derived.LaidMore
import Derived.KernelRfl
import Derived.Test.YteadienaeapaeaaDoorProg
set_option linter.unusedSectionVars false
set_option linter.unusedVariables false
set_option linter.unusedSimpArgs false
section
namespace Go.Vk
open Go
set_option linter.unusedVariables false
set_option linter.unusedSimpArgs false

/-- The cells of a type's zero value. -/
def zc (P : Program) : Nat → Nat → List V
  | 0, _ => []
  | n + 1, t => match P.underlying t with
    | some (.int k) => [.int k 0]
    | some .bool => [.bool false]
    | some .string => [.str ByteArray.empty]
    | some (.pointer _) => [.nilp]
    | some (.func _ _ _) => [.nilf]
    | some (.interface _) => [.nili]
    | some (.slice e) => [.sl (zc P n e).length ((zc P n e).all V.leaf) (some 0) none 0 (fun _ => (zc P n e).map strip1)]
    | some (.struct fs) => fs.toList.flatMap fun f => zc P n f.type
    | some (.array k e) => (List.replicate k (zc P n e)).flatten
    | _ => []

def fieldTI (P : Program) (f : Field) : Nat × Nat × Bool := match P.info? f.type, P.underlying f.type with
  | some fi, some fd => (f.offset, fi.size, aggB fd)
  | _, _ => (0, 0, false)
def fieldOk (P : Program) (f : Field) : Bool := match P.info? f.type, P.underlying f.type with
  | some fi, some fd => Nat.blt 0 fi.size
  | _, _ => false

def kindOf : TypeDesc → Option IntKind
  | .int k => some k
  | _ => none
def strOf : TypeDesc → Bool
  | .string => true
  | _ => false
def boolOf : TypeDesc → Bool
  | .bool => true
  | _ => false
def offsOf (P : Program) : TypeDesc → List (Nat × Nat × Bool)
  | .struct fs => fs.toList.map (fieldTI P)
  | _ => []
def elemOf (P : Program) : TypeDesc → Nat × Nat × List V
  | .slice e => match P.info? e with
    | some ie => (ie.size, ie.bytes, (zc P 12 e).map strip1)
    | none => (0, 0, [])
  | _ => (0, 0, [])
def arrOf (P : Program) : TypeDesc → Option (Nat × Nat)
  | .array n e => match P.info? e with
    | some ie => bif Nat.blt 0 ie.size then some (n, ie.size) else none
    | none => none
  | _ => none
def descOk (P : Program) : TypeDesc → Bool
  | .slice e => match P.info? e with
    | some ie => match ie.zero with
      | some ze => zeroOk ((zc P 12 e).map strip1) ze.cells.toList && Nat.beq ((zc P 12 e).map strip1).length ie.size && Nat.blt 0 ie.size
      | none => false
    | none => false
  | .struct fs => fs.toList.all (fieldOk P)
  | _ => true

/-- The kinds of the cells of a value that '==' takes, field by field. -/
def eqFs (P : Program) (rc : Nat → Option (List Nat)) : List Field → Nat → Option (List Nat)
  | [], _ => some []
  | f :: fs, off => bif f.name == "_" then none else bif !Nat.beq f.offset off then none else
    match rc f.type, P.info? f.type with
    | some ks, some i => bif !Nat.beq i.size ks.length then none else match eqFs P rc fs (off + ks.length) with
      | some l => some (ks ++ l)
      | none => none
    | _, _ => none
def eqK (P : Program) : Nat → Nat → Option (List Nat)
  | 0, _ => none
  | d + 1, t => match P.underlying t with
    | some (.int k) => some [kn k]
    | some .bool => some [8]
    | some .string => some [9]
    | some (.struct fs) => bif P.stoodInHeld t then none else eqFs P (eqK P d) fs.toList 0
    | _ => none

def vcode : Value → Nat
  | .int k _ => kn k
  | .bool _ => 8
  | .string _ => 9
  | _ => 10
def VK : List Nat → List Value → Prop
  | [], [] => True
  | k :: ks, x :: xs => k = vcode x ∧ k < 10 ∧ VK ks xs
  | _, _ => False
def eqVals : List Value → List Value → Option Bool
  | [], [] => some true
  | a :: az, b :: bs => match eqVals az bs with
    | some r => match a, b with
      | .int _ x, .int _ y => some ((x == y) && r)
      | .bool x, .bool y => some ((x == y) && r)
      | .string x, .string y => some ((x == y) && r)
      | _, _ => none
    | none => none
  | _, _ => none

def eq1 : Value → Value → Option Bool
  | .int _ x, .int _ y => some (x == y)
  | .bool x, .bool y => some (x == y)
  | .string x, .string y => some (x == y)
  | _, _ => none
theorem eqVals_cons (a b : Value) (az bs : List Value) : eqVals (a :: az) (b :: bs) = match eqVals az bs with | some r => (eq1 a b).map (· && r) | none => none := by
  simp only [eqVals]
  split
  · cases a <;> cases b <;> rfl
  · rfl

theorem VK.len : ∀ {ks : List Nat} {xs : List Value}, VK ks xs → xs.length = ks.length
  | [], [], _ => rfl
  | k :: ks, x :: xs, h => by simp [VK.len h.2.2]
  | [], _ :: _, h => h.elim
  | _ :: _, [], h => h.elim
theorem VK.split : ∀ {ks ls : List Nat} {xs : List Value}, VK (ks ++ ls) xs → VK ks (xs.take ks.length) ∧ VK ls (xs.drop ks.length)
  | [], ls, xs, h => ⟨by simp [VK], by simpa using h⟩
  | k :: ks, ls, x :: xs, h => by
    obtain ⟨h1, h2⟩ := VK.split (ks := ks) (ls := ls) h.2.2
    exact ⟨⟨h.1, h.2.1, by simpa using h1⟩, by simpa using h2⟩
  | k :: ks, ls, [], h => h.elim
theorem eqVals_split : ∀ {n : Nat} {xs ys : List Value} {r : Bool}, n ≤ xs.length → xs.length = ys.length → eqVals xs ys = some r → ∃ r1 r2, eqVals (xs.take n) (ys.take n) = some r1 ∧ eqVals (xs.drop n) (ys.drop n) = some r2 ∧ r = (r1 && r2)
  | 0, xs, ys, r, _, _, h => ⟨true, r, by simp [eqVals], by simpa using h, by simp⟩
  | n + 1, x :: xs, y :: ys, r, h1, h2, h => by
    rw [eqVals_cons] at h
    cases he : eqVals xs ys with
    | none => rw [he] at h; cases h
    | some q =>
      rw [he] at h
      obtain ⟨r1, r2, e1, e2, e3⟩ := eqVals_split (n := n) (by simpa using h1) (by simpa using h2) he
      simp only [List.take_succ_cons, List.drop_succ_cons, eqVals_cons, e1]
      cases hq : eq1 x y with
      | none => rw [hq] at h; cases h
      | some p =>
        rw [hq] at h
        cases h
        exact ⟨_, r2, rfl, e2, by rw [e3, Bool.and_assoc]⟩
  | n + 1, [], ys, r, h1, _, h => by simp at h1
  | n + 1, x :: xs, [], r, _, h2, h => by simp at h2

/-- A value out of its cells. -/
def packV (d : TypeDesc) (cs : List Value) : Value := if aggB d = true then .agg cs.toArray else cs.headD default

def EqRuns (P : Program) (D : Nat) (t : Nat) (ks : List Nat) : Prop := P.eqGuardType D t = false ∧ ∃ d, P.underlying t = some d ∧ (aggB d = false → ks.length = 1) ∧
  ∀ (xs ys : List Value) (r : Bool), VK ks xs → VK ks ys → eqVals xs ys = some r → ∀ w : World, (Op.equalIn D t (packV d xs) (packV d ys)).run P w = .ok r w

theorem part_pack {P : Program} {t n : Nat} {d : TypeDesc} {i : TypeInfo} {off : Nat} {xs : Array Value} {w : World} (hu : P.underlying t = some d) (hi : P.info? t = some i) (hn : i.size = n) (h1 : aggB d = false → n = 1) (hl : off + n ≤ xs.size) : (part t xs off).run P w = .ok (packV d ((xs.toList.drop off).take n)) w := by
  have hag : (isAgg t).run P w = .ok (aggB d) w := by
    unfold isAgg
    simp only [Sem.run_bind, run_underlying hu, Result.andThen_ok]
    cases d <;> rfl
  unfold part
  simp only [Sem.run_bind, hag, Result.andThen_ok]
  cases ha : aggB d with
  | true =>
    have hz : (Go.sizeOf t).run P w = .ok n w := by
      have := run_sizeOf (P := P) (w := w) hi
      simpa [Program.cellsOf, hi, hn] using this
    simp only [if_true, Sem.run_bind, hz, Result.andThen_ok, Sem.run_pure, packV, ha]
    congr 2
    rw [← Array.toList_inj]
    simp [Array.toList_extract]
  | false =>
    have h1 := h1 ha
    subst h1
    have hlt : off < xs.size := by omega
    simp only [Bool.false_eq_true, if_false, packV, ha, Array.getElem?_eq_getElem hlt, Sem.run_pure]
    congr 1
    have : (xs.toList.drop off).take 1 = [xs[off]] := by
      rw [List.drop_eq_getElem_cons (by simpa using hlt)]
      simp
    rw [this]; rfl

theorem eqFs_run {P : Program} {D : Nat} {rc : Nat → Option (List Nat)} (ih : ∀ t ks, rc t = some ks → EqRuns P D t ks) : ∀ (fs : List Field) (off : Nat) (ks : List Nat), eqFs P rc fs off = some ks → (fs.any fun f => f.name != "_" && P.eqGuardType D f.type) = false ∧
    ∀ (xs ys : Array Value) (r : Bool), VK ks (xs.toList.drop off) → VK ks (ys.toList.drop off) → off ≤ xs.size → off ≤ ys.size → eqVals (xs.toList.drop off) (ys.toList.drop off) = some r → ∀ w : World, (Op.eqFields D xs ys fs).run P w = .ok r w
  | [], off, ks, h => by
    cases h
    refine ⟨rfl, fun xs ys r h1 h2 _ _ h w => ?_⟩
    have e1 : xs.toList.drop off = [] := by have := h1.len; exact List.eq_nil_of_length_eq_zero this
    have e2 : ys.toList.drop off = [] := by have := h2.len; exact List.eq_nil_of_length_eq_zero this
    rw [e1, e2] at h
    cases h
    simp [Op.eqFields]
  | f :: fs, off, ks, h => by
    unfold eqFs at h
    obtain ⟨hn, h⟩ := bif_none h
    obtain ⟨ho, h⟩ := bif_none h
    simp only [Bool.not_eq_false'] at ho
    have ho := Nat.eq_of_beq_eq_true ho
    cases hr : rc f.type with
    | none => rw [hr] at h; cases h
    | some k1 =>
      cases hi : P.info? f.type with
      | none => rw [hr, hi] at h; cases h
      | some i =>
        rw [hr, hi] at h
        simp only at h
        obtain ⟨hz, h⟩ := bif_none h
        simp only [Bool.not_eq_false'] at hz
        have hz := Nat.eq_of_beq_eq_true hz
        cases hl : eqFs P rc fs (off + k1.length) with
        | none => rw [hl] at h; cases h
        | some k2 =>
          rw [hl] at h
          cases h
          obtain ⟨g1, d, hu, hone, hrun⟩ := ih _ _ hr
          obtain ⟨g2, hrun2⟩ := eqFs_run ih fs _ _ hl
          have hname : (f.name != "_") = true := by simp only [bne, hn, Bool.not_false]
          refine ⟨by simp only [List.any_cons, g1, Bool.and_false, g2, Bool.or_false], fun xs ys r h1 h2 b1 b2 h w => ?_⟩
          obtain ⟨v1, v1'⟩ := h1.split
          obtain ⟨v2, v2'⟩ := h2.split
          have l1 := h1.len
          have l2 := h2.len
          simp only [List.length_append, List.length_drop, Array.length_toList] at l1 l2
          obtain ⟨r1, r2, e1, e2, e3⟩ := eqVals_split (n := k1.length) (by simp; omega) (by simp; omega) h
          rw [List.drop_drop] at v1' v2'
          rw [List.drop_drop, List.drop_drop] at e2
          have pa := part_pack (w := w) hu hi hz (fun ha => hone ha) (off := off) (xs := xs) (by omega)
          have pb := part_pack (w := w) hu hi hz (fun ha => hone ha) (off := off) (xs := ys) (by omega)
          have he := hrun _ _ _ v1 v2 e1 w
          have hr2 := hrun2 xs ys r2 v1' v2' (by omega) (by omega) e2 w
          have hn' : f.name ≠ "_" := by simpa using hn
          rw [Op.eqFields]
          simp only [if_pos hn', ho, Sem.run_bind, pa, pb, he, Result.andThen_ok]
          subst e3
          cases r1
          · simp
          · simpa using hr2

theorem VK.one {k : Nat} {xs : List Value} (h : VK [k] xs) : ∃ x, xs = [x] ∧ k = vcode x := by
  match xs, h with
  | [x], h => exact ⟨x, rfl, h.1⟩
  | [], h => exact h.elim
  | _ :: _ :: _, h => exact h.2.2.elim

theorem kn_lt (k : IntKind) : kn k < 8 := by cases k <;> decide
theorem kn_inj' {a b : IntKind} (h : kn a = kn b) : a = b := by cases a <;> cases b <;> first | rfl | (simp [kn] at h)

theorem eqK_run {P : Program} : ∀ (d t : Nat) (ks : List Nat), eqK P d t = some ks → ∀ D, d ≤ D → EqRuns P D t ks
  | 0, t, ks, h => by cases h
  | d + 1, t, ks, h => by
    intro D hD
    obtain ⟨D', rfl⟩ : ∃ D', D = D' + 1 := ⟨D - 1, by omega⟩
    unfold eqK at h
    cases hu : P.underlying t with
    | none => rw [hu] at h; cases h
    | some ds =>
      rw [hu] at h
      cases ds with
      | int k =>
        cases h
        refine ⟨by simp [Program.eqGuardType, hu], _, hu, fun _ => rfl, fun xs ys r h1 h2 h w => ?_⟩
        obtain ⟨x, rfl, e1⟩ := h1.one
        obtain ⟨y, rfl, e2⟩ := h2.one
        have b := kn_lt k
        cases x <;> simp only [vcode] at e1 <;> first | omega | skip
        cases y <;> simp only [vcode] at e2 <;> first | omega | skip
        cases kn_inj' e1
        cases kn_inj' e2
        simp only [eqVals, Bool.and_true, Option.some.injEq] at h
        subst h
        exact run_equalIn_int w D' t _ _ _ _ hu
      | bool =>
        cases h
        refine ⟨by simp [Program.eqGuardType, hu], _, hu, fun _ => rfl, fun xs ys r h1 h2 h w => ?_⟩
        obtain ⟨x, rfl, e1⟩ := h1.one
        obtain ⟨y, rfl, e2⟩ := h2.one
        cases x <;> simp only [vcode] at e1 <;> first | omega | (rename_i q _; have := kn_lt q; omega) | skip
        cases y <;> simp only [vcode] at e2 <;> first | omega | (rename_i q _; have := kn_lt q; omega) | skip
        simp only [eqVals, Bool.and_true, Option.some.injEq] at h
        subst h
        exact run_equalIn_bool' w D' t _ _ hu
      | string =>
        cases h
        refine ⟨by simp [Program.eqGuardType, hu], _, hu, fun _ => rfl, fun xs ys r h1 h2 h w => ?_⟩
        obtain ⟨x, rfl, e1⟩ := h1.one
        obtain ⟨y, rfl, e2⟩ := h2.one
        cases x <;> simp only [vcode] at e1 <;> first | omega | (rename_i q _; have := kn_lt q; omega) | skip
        cases y <;> simp only [vcode] at e2 <;> first | omega | (rename_i q _; have := kn_lt q; omega) | skip
        simp only [eqVals, Bool.and_true, Option.some.injEq] at h
        subst h
        rw [beq_toListBytes]
        exact run_equalIn_string w D' t _ _ hu
      | struct fs =>
        simp only at h
        obtain ⟨hp, h⟩ := bif_none h
        obtain ⟨g, hr⟩ := eqFs_run (P := P) (D := D') (rc := eqK P d) (fun t' ks' h' => eqK_run d t' ks' h' D' (by omega)) _ _ _ h
        refine ⟨?_, _, hu, (fun ha => by cases ha), fun xs ys r h1 h2 h w => ?_⟩
        · simp only [Program.eqGuardType, hu]
          rw [← Array.any_toList]; exact g
        · have hf : P.fieldsOf t = fs := by simp [Program.fieldsOf, hu]
          show (Op.equalIn (D' + 1) t (.agg xs.toArray) (.agg ys.toArray)).run P w = _
          rw [run_equalIn_struct (P := P) w D' t _ _ (by rw [hf]; exact hu) hp, hf]
          exact hr _ _ r (by simpa using h1) (by simpa using h2) (Nat.zero_le _) (Nat.zero_le _) (by simpa using h) w
      | _ => cases h

/-- The cells' kinds and equality, from the trees. -/
theorem kinds_VK : ∀ (ks : List Nat) (cs : List V) (xs : List Value), kindsOk ks cs = true → cs.length = xs.length → (∀ j, j < cs.length → ∃ (W : World) (F : Set'), Rep W F false (cellAt cs j) (xs.getD j default) none') → VK ks xs
  | [], [], [], _, _, _ => trivial
  | k :: ks, c :: cs, x :: xs, h, hl, hr => by
    simp only [kindsOk, Bool.and_eq_true] at h
    obtain ⟨⟨h1, h2⟩, h3⟩ := h
    have h1 := Nat.eq_of_beq_eq_true h1
    obtain ⟨W, F, r0⟩ := hr 0 (by simp)
    have r0 : Rep W F false c x none' := r0
    refine ⟨?_, by simpa using h2, kinds_VK ks cs xs h3 (by simpa using hl) fun j hj => hr (j + 1) (by simpa using hj)⟩
    have h2 : k < 10 := by simpa using h2
    cases r0 <;> simp only [kcode] at h1 <;> first | exact h1 | omega
  | [], c :: cs, xs, h, _, _ => by simp [kindsOk] at h
  | k :: ks, [], xs, h, _, _ => by simp [kindsOk] at h
  | [], [], _ :: _, _, hl, _ => by simp at hl
  | k :: ks, c :: cs, [], _, hl, _ => by simp at hl

theorem eqCells_vals : ∀ (cs ds : List V) (xs ys : List Value) (r : Bool), eqlCells cs ds = some r → cs.length = xs.length → ds.length = ys.length → (∀ j, j < cs.length → ∃ (W : World) (F : Set'), Rep W F false (cellAt cs j) (xs.getD j default) none') → (∀ j, j < ds.length → ∃ (W : World) (F : Set'), Rep W F false (cellAt ds j) (ys.getD j default) none') → eqVals xs ys = some r
  | [], [], [], [], r, h, _, _, _, _ => h
  | c :: cs, d :: ds, x :: xs, y :: ys, r, h, hl, hl', hr, hr' => by
    simp only [eqlCells] at h
    cases he : eqlCells cs ds with
    | none => rw [he] at h; cases h
    | some q =>
      rw [he] at h
      have ih := eqCells_vals cs ds xs ys q he (by simpa using hl) (by simpa using hl') (fun j hj => hr (j + 1) (by simpa using hj)) (fun j hj => hr' (j + 1) (by simpa using hj))
      obtain ⟨W, F, r0⟩ := hr 0 (by simp)
      obtain ⟨W', F', r0'⟩ := hr' 0 (by simp)
      have r0 : Rep W F false c x none' := r0
      have r0' : Rep W' F' false d y none' := r0'
      simp only [eqVals, ih]
      cases r0 <;> cases r0' <;> simp only at h ⊢ <;> first | exact h | cases h
  | [], _ :: _, _, _, r, h, _, _, _, _ => by simp [eqlCells] at h
  | _ :: _, [], _, _, r, h, _, _, _, _ => by simp [eqlCells] at h
  | [], [], _ :: _, _, r, h, hl, _, _, _ => by simp at hl
  | [], [], [], _ :: _, r, h, _, hl, _, _ => by simp at hl
  | c :: cs, d :: ds, [], _, r, h, hl, _, _, _ => by simp at hl
  | c :: cs, d :: ds, x :: xs, [], r, h, _, hl, _, _ => by simp at hl

theorem eqf_ok {P : Program} {t : Nat} {d : TypeDesc} {ks : List Nat} (hu : P.underlying t = some d) (hag : aggB d = true) (h : eqK P 12 t = some ks) (hd : 12 ≤ P.depth) (cs ds : List V) (xs ys : Array Value) (r : Bool) (h1 : kindsOk ks cs = true) (h2 : kindsOk ks ds = true) (l1 : xs.size = cs.length) (l2 : ys.size = ds.length) (he : eqlCells cs ds = some r)
    (r1 : ∀ j, j < cs.length → ∃ (W : World) (F : Set'), Rep W F false (cellAt cs j) (xs.getD j default) none') (r2 : ∀ j, j < ds.length → ∃ (W : World) (F : Set'), Rep W F false (cellAt ds j) (ys.getD j default) none') (w : World) : P.eqGuardType P.depth t = false ∧ (Op.equal t (.agg xs) (.agg ys)).run P w = .ok r w := by
  have r1' : ∀ j, j < cs.length → ∃ (W : World) (F : Set'), Rep W F false (cellAt cs j) (xs.toList.getD j default) none' := fun j hj => by simpa using r1 j hj
  have r2' : ∀ j, j < ds.length → ∃ (W : World) (F : Set'), Rep W F false (cellAt ds j) (ys.toList.getD j default) none' := fun j hj => by simpa using r2 j hj
  refine ⟨(eqK_run 12 t ks h _ hd).1, ?_⟩
  obtain ⟨_, d', hu', _, hr⟩ := eqK_run 12 t ks h Op.maxDepth (by decide)
  rw [hu] at hu'; cases hu'
  have := hr xs.toList ys.toList r (kinds_VK ks cs _ h1 (by simp [l1]) r1') (kinds_VK ks ds _ h2 (by simp [l2]) r2') (eqCells_vals cs ds _ _ r he (by simp [l1]) (by simp [l2]) r1' r2') w
  simpa [packV, hag, Op.equal] using this

/-- A type's row, had from the program. -/
def mkTI (P : Program) (t : Nat) : TI := match P.info? t, P.underlying t with
  | some i, some d =>
    { size := i.size, agg := aggB d, esz := (elemOf P d).1, efl := (elemOf P d).2.2.all V.leaf, ebytes := (elemOf P d).2.1, ezero := (elemOf P d).2.2, zero := zc P 12 t, kind := kindOf d, isStr := strOf d, isB := boolOf d, eqf := (bif aggB d && Nat.ble 12 P.depth then eqK P 12 t else none), offs := offsOf P d, arr := arrOf P d,
      ok := Nat.blt 0 i.size && (match i.zero with | some z => zeroOk (zc P 12 t) z.cells.toList | none => false) && Nat.beq (zc P 12 t).length i.size && descOk P d }
  | _, _ => {}

theorem blt_lt {a b : Nat} (h : Nat.blt a b = true) : a < b := Nat.le_of_ble_eq_true h

theorem mkTI_ok {P : Program} {t : Nat} (h : (mkTI P t).ok = true) : ∃ i d, TOk P t (mkTI P t) i d := by
  unfold mkTI at h ⊢
  cases hi : P.info? t with
  | none => rw [hi] at h; cases h
  | some i =>
    cases hd : P.underlying t with
    | none => rw [hi, hd] at h; cases h
    | some d =>
      rw [hi, hd] at h
      simp only [Bool.and_eq_true] at h ⊢
      obtain ⟨⟨⟨h1, h2⟩, h3⟩, h4⟩ := h
      refine ⟨i, d, ⟨hi, hd, rfl, blt_lt h1, rfl, ?_, fun he => ?_, fun e he => ?_, fun n sz ha => ?_, fun f off sz a hf => ?_, fun fs he => ?_, fun kk hk => ?_, fun hs => ?_, fun hs => ?_, fun ks hq => ?_⟩⟩
      · cases hz : i.zero with
        | none => rw [hz] at h2; cases h2
        | some z => rw [hz] at h2; exact ⟨z, rfl, h2, Nat.eq_of_beq_eq_true h3⟩
      · cases d with
        | slice e =>
          simp only [descOk, elemOf] at h4 he ⊢
          cases hie : P.info? e with
          | none => rw [hie] at h4; cases h4
          | some ie =>
            simp only [hie] at h4 ⊢
            cases hze : ie.zero with
            | none => rw [hze] at h4; cases h4
            | some ze =>
              rw [hze] at h4
              simp only [Bool.and_eq_true] at h4
              exact ⟨e, ie, ze, rfl, hie, rfl, rfl, hze, h4.1.1, Nat.eq_of_beq_eq_true h4.1.2⟩
        | _ => exact absurd he (by simp [elemOf])
      · subst he
        simp only [descOk, elemOf] at h4 ⊢
        cases hie : P.info? e with
        | none => rw [hie] at h4; cases h4
        | some ie =>
          simp only [hie] at h4 ⊢
          cases hze : ie.zero with
          | none => rw [hze] at h4; cases h4
          | some ze =>
            rw [hze] at h4
            simp only [Bool.and_eq_true] at h4
            exact blt_lt h4.2
      · cases d with
        | array n' e =>
          simp only [arrOf] at ha
          cases hie : P.info? e with
          | none => rw [hie] at ha; cases ha
          | some ie =>
            rw [hie] at ha
            simp only at ha
            obtain ⟨hp, ha⟩ := bif_some ha
            cases ha
            exact ⟨e, ie, rfl, hie, rfl, blt_lt hp⟩
        | _ => simp [arrOf] at ha
      · cases d with
        | struct fs =>
          simp only [offsOf, List.getElem?_map, Option.map_eq_some_iff, Array.getElem?_toList] at hf
          obtain ⟨fl, hfl, hft⟩ := hf
          have hok : fieldOk P fl = true := List.all_eq_true.1 h4 fl (by simpa using Array.mem_of_getElem? hfl)
          unfold fieldOk at hok
          unfold fieldTI at hft
          cases hfi : P.info? fl.type with
          | none => rw [hfi] at hok; cases hok
          | some fi =>
            cases hfd : P.underlying fl.type with
            | none => rw [hfi, hfd] at hok; cases hok
            | some fd =>
              rw [hfi, hfd] at hok hft
              cases hft
              exact ⟨fs, fl, fi, fd, rfl, hfl, rfl, hfi, rfl, blt_lt hok, hfd, rfl⟩
        | _ => simp [offsOf] at hf
      · subst he
        simp [offsOf]
      · cases d <;> simp_all [kindOf]
      · cases d <;> simp_all [strOf]
      · cases d <;> simp_all [boolOf]
      · obtain ⟨hb, hq⟩ := bif_some hq
        simp only [Bool.and_eq_true] at hb
        exact eqf_ok hd hb.1 hq (Nat.le_of_ble_eq_true hb.2)
end Go.Vk
end

section
namespace Go.Vk
open Go
set_option linter.unusedVariables false
set_option linter.unusedSimpArgs false

def resTypes : List Nat → List ResultVar → List (Nat × ResultVar)
  | _, [] => []
  | [], r :: rs => (0, r) :: resTypes [] rs
  | t :: ts, r :: rs => (t, r) :: resTypes ts rs
theorem resTypes_snd : ∀ (ts : List Nat) (rs : List ResultVar), (resTypes ts rs).map (·.2) = rs
  | _, [] => by simp [resTypes]
  | [], r :: rs => by simp [resTypes, resTypes_snd [] rs]
  | t :: ts, r :: rs => by simp [resTypes, resTypes_snd ts rs]

def frOf (M : FuncId → List Slot) (f : FuncId) (fn : Func) : Fr := ⟨f, fn.ntmps, resTypes fn.resultTypes.toList fn.results.toList, (M f).map (slotId fn.ntmps)⟩
def fnOf (P : Program) (M : FuncId → List Slot) (f : FuncId) : Option (Fr × Code) := match P.funcs[f]? with
  | some fn => match fn.body with
    | some c => bif fn.name == "runtime.NumGoroutine" then none else some (frOf M f fn, c)
    | none => none
  | none => none

def noDraw : Fr → (FuncId → List V → Option Ret) → Nat → Array Oper → St → (St → Option Ret) → Option Ret := fun _ _ _ _ _ _ => none

theorem fnOf_ok {P : Program} {M : FuncId → List Slot} {f : FuncId} {F : Fr} {body : Code} (h : fnOf P M f = some (F, body)) : F.f = f ∧ FrOk P F ∧ F.ws = (M f).map (slotId F.nt) ∧ ∃ fn, P.funcs[f]? = some fn ∧ fn.body = some body := by
  unfold fnOf at h
  cases hf : P.funcs[f]? with
  | none => rw [hf] at h; cases h
  | some fn =>
    rw [hf] at h
    simp only at h
    cases hb : fn.body with
    | none => rw [hb] at h; cases h
    | some c =>
      rw [hb] at h
      simp only at h
      obtain ⟨hn, h⟩ := bif_none h
      cases h
      exact ⟨rfl, ⟨fn, _, hf, hn, hb, rfl, (resTypes_snd _ _).symm⟩, rfl, fn, rfl, hb⟩

theorem noDraw_ok {E : Env} {F : Fr} {call : FuncId → List V → Option Ret} : DrawOk E F call (noDraw F call) := fun _ _ _ _ _ h => by cases h
theorem noDraw_fin (F : Fr) : DrawFin (noDraw F) := fun _ _ _ _ _ _ h => by cases h

end Go.Vk
end

section
namespace Go.Vk
open Go
set_option linter.unusedVariables false
set_option linter.unusedSimpArgs false

/-- Must operation j be done ahead of i? -/
def reach (all : Array Oper) : Nat → Nat → Nat → Bool
  | 0, _, _ => false
  | n + 1, i, j => match all[i]? with
    | some o => o.after.toList.any fun e => Region.binds .any e && (Nat.beq e.on j || reach all n e.on j)
    | none => false

def memN (l : List Nat) (x : Nat) : Bool := l.any (Nat.beq x)
def apartL (l m : List Nat) : Bool := l.all fun x => !memN m x

def opOk (all : Array Oper) (nt : Nat) (ws : List (Nat × Nat)) (i : Nat) (o : Oper) : Bool :=
  dstIn nt o.dst && o.after.toList.all (fun e => !Region.binds .any e || Nat.blt e.on i) &&
  (o.looksAt all).all fun t => ws.all fun w => !Nat.beq w.1 t || Nat.beq w.2 i || (Nat.blt w.2 i && reach all all.size i w.2)

def opsOk (all : Array Oper) (nt : Nat) (ws : List (Nat × Nat)) : Nat → List Oper → Bool
  | _, [] => true
  | i, o :: os => opOk all nt ws i o && opsOk all nt ws (i + 1) os

/-- Which operation writes which slot. -/
def writers : Nat → List Oper → List (Nat × Nat)
  | _, [] => []
  | i, o :: os => match o.dst with | some d => (d, i) :: writers (i + 1) os | none => writers (i + 1) os

def staticOk (nt : Nat) (all : Array Oper) : Bool := distinct ((writers 0 all.toList).map (·.1)) && opsOk all nt (writers 0 all.toList) 0 all.toList

structure Evl where
  run : Bool
  D : Dl
  u : V
  L : List Nat

def Evl.T (e : Evl) : List Nat := e.D.map (·.1)

/-- What was done at i against what was done at j, j the earlier. -/
def pairOk (all : Array Oper) (j : Nat) (Lj Tj : List Nat) (i : Nat) (Li Ti : List Nat) : Bool :=
  (apartL Tj (Li ++ Ti) && apartL Ti Lj) || reach all all.size i j

def pairsOk (all : Array Oper) : List (Nat × List Nat × List Nat) → Bool
  | [] => true
  | (i, Li, Ti) :: acc => acc.all (fun q => pairOk all q.1 q.2.1 q.2.2 i Li Ti) && pairsOk all acc

def touched (σ σ' : St) : List Nat := (σ'.objs.take (σ'.objs.length - σ.objs.length)).map (·.1)

section
variable {R : Type}
def drawGo (E : Env) (cf : FuncId → List V → Option Ret) (all : Array Oper) : Nat → List Oper → St → List (Nat × List Nat × List Nat) → (St → Option R) → Option R
  | _, [], σ, acc, k => bif pairsOk all acc then k σ else none
  | i, o :: os, σ, acc, k =>
    match o.guard with
    | none => opC E cf o σ fun σ' => drawGo E cf all (i + 1) os σ' ((i, lookO σ o, touched σ σ') :: acc) k
    | some (j, want) =>
      match (all[j]?).bind (·.dst) with
      | some g => match σ.tmp g with
        | .bool b => bif b then
            (bif want then opC E cf o (σ.put (some g) (.bool true)) fun σ' => drawGo E cf all (i + 1) os σ' ((i, lookO (σ.put (some g) (.bool true)) o, touched (σ.put (some g) (.bool true)) σ') :: acc) k
             else drawGo E cf all (i + 1) os ((σ.put (some g) (.bool true)).put o.dst (.tup [])) ((i, [], []) :: acc) k)
          else
            (bif want then drawGo E cf all (i + 1) os ((σ.put (some g) (.bool false)).put o.dst (.tup [])) ((i, [], []) :: acc) k
             else opC E cf o (σ.put (some g) (.bool false)) fun σ' => drawGo E cf all (i + 1) os σ' ((i, lookO (σ.put (some g) (.bool false)) o, touched (σ.put (some g) (.bool false)) σ') :: acc) k)
        | .tup [] => drawGo E cf all (i + 1) os (σ.put o.dst (.tup [])) ((i, [], []) :: acc) k
        | _ => none
      | none => none

def drawC (E : Env) (nt : Nat) (cf : FuncId → List V → Option Ret) (all : Array Oper) (σ : St) (k : St → Option R) : Option R :=
  bif staticOk nt all then drawGo E cf all 0 all.toList σ [] k else none
end

variable {E : Env} {all : Array Oper} {σ τ σ0 : St} {ev : Nat → Evl} {S S' : Nat → Bool}

def dstAt (all : Array Oper) (i : Nat) : Option Nat := (all[i]?).bind (·.dst)
def app1 (all : Array Oper) (σ : St) (i : Nat) (e : Evl) : St := (σ.putL e.D).put (dstAt all i) e.u

/-- The state after the operations of a set, in their written order. -/
def stS (all : Array Oper) (ev : Nat → Evl) (σ0 : St) (S : Nat → Bool) : Nat → St
  | 0 => σ0
  | k + 1 => bif S k then app1 all (stS all ev σ0 S k) k (ev k) else stS all ev σ0 S k

theorem look_isSome {α : Type} : ∀ {l : List (Nat × α)} {k : Nat}, k ∈ l.map (·.1) → ∃ x, look l k = some x
  | [], k, h => by cases h
  | (a, y) :: l, k, h => by
    rw [look_cons]
    by_cases e : a = k
    · exact ⟨y, if_pos e⟩
    · rw [if_neg e]
      exact look_isSome (by
        rcases List.mem_cons.1 h with h | h
        · exact absurd h.symm e
        · exact h)

theorem app1_obj_in {i : Nat} {e : Evl} {id : Nat} (h : id ∈ e.T) : look (app1 all σ i e).objs id = look e.D id := by
  obtain ⟨x, hx⟩ := look_isSome h
  unfold app1
  rw [put_objs, hx]
  simp only [St.putL]
  rw [look_append, hx]
theorem app1_obj_out {i : Nat} {e : Evl} {id : Nat} (h : id ∉ e.T) : look (app1 all σ i e).objs id = look σ.objs id := by
  unfold app1
  rw [put_objs]
  simp only [St.putL]
  rw [look_append, look_none e.D id fun q hq hk => h (List.mem_map.2 ⟨q, hq, hk⟩)]
theorem app1_tmp {i : Nat} {e : Evl} {t : Nat} : (app1 all σ i e).tmp t = if dstAt all i = some t then e.u else σ.tmp t := by
  unfold app1
  cases hd : dstAt all i with
  | none => simp [St.put, St.putL, St.tmp]
  | some d =>
    rw [tmp_put]
    by_cases h : d = t
    · subst h; simp
    · rw [if_neg h, if_neg (by simpa using h)]; rfl

theorem stS_obj {id : Nat} : ∀ k, (∀ j, j < k → id ∈ (ev j).T → S j = S' j) → look (stS all ev σ0 S k).objs id = look (stS all ev σ0 S' k).objs id
  | 0, _ => rfl
  | k + 1, h => by
    have ih := stS_obj k fun j hj => h j (by omega)
    simp only [stS]
    by_cases ht : id ∈ (ev k).T
    · rw [h k (by omega) ht]
      cases S' k with
      | true => simp only [cond_true]; rw [app1_obj_in ht, app1_obj_in ht]
      | false => exact ih
    · cases S k <;> cases S' k <;> simp only [cond_true, cond_false, app1_obj_out ht] <;> exact ih

theorem stS_tmp {t : Nat} : ∀ k, (∀ j, j < k → dstAt all j = some t → S j = S' j) → (stS all ev σ0 S k).tmp t = (stS all ev σ0 S' k).tmp t
  | 0, _ => rfl
  | k + 1, h => by
    have ih := stS_tmp k fun j hj => h j (by omega)
    simp only [stS]
    by_cases ht : dstAt all k = some t
    · rw [h k (by omega) ht]
      cases S' k with
      | true => simp only [cond_true]; rw [app1_tmp, app1_tmp, if_pos ht, if_pos ht]
      | false => exact ih
    · cases S k <;> cases S' k <;> simp only [cond_true, cond_false, app1_tmp, if_neg ht] <;> exact ih

theorem stS_obj_last {id i : Nat} (hi : id ∈ (ev i).T) (hS : S i = true) : ∀ k, i < k → (∀ j, i < j → j < k → S j = true → id ∉ (ev j).T) → look (stS all ev σ0 S k).objs id = look (ev i).D id
  | 0, h, _ => by omega
  | k + 1, h, hl => by
    simp only [stS]
    by_cases e : i = k
    · subst e; rw [hS]; simp only [cond_true]; exact app1_obj_in hi
    · have ih := stS_obj_last hi hS k (by omega) fun j h1 h2 => hl j h1 (by omega)
      cases hk : S k with
      | false => exact ih
      | true => simp only [cond_true]; rw [app1_obj_out (hl k (by omega) (by omega) hk)]; exact ih

theorem stS_tmp_last {t i : Nat} (hi : dstAt all i = some t) (hS : S i = true) : ∀ k, i < k → (∀ j, i < j → j < k → S j = true → dstAt all j ≠ some t) → (stS all ev σ0 S k).tmp t = (ev i).u
  | 0, h, _ => by omega
  | k + 1, h, hl => by
    simp only [stS]
    by_cases e : i = k
    · subst e; rw [hS]; simp only [cond_true]; rw [app1_tmp, if_pos hi]
    · have ih := stS_tmp_last hi hS k (by omega) fun j h1 h2 => hl j h1 (by omega)
      cases hk : S k with
      | false => exact ih
      | true => simp only [cond_true]; rw [app1_tmp, if_neg (hl k (by omega) (by omega) hk)]; exact ih

/-- Two states that say the same. -/
def Same (σ τ : St) : Prop := (∀ t, τ.tmp t = σ.tmp t) ∧ look τ.objs = look σ.objs
end Go.Vk
end

section
namespace Go.Vk
open Go
set_option linter.unusedVariables false
set_option linter.unusedSimpArgs false
variable {R : Type} {r : R} {kσ : St → Option R} {E : Env} {all : Array Oper} {σ τ σ0 σe : St} {ev : Nat → Evl} {S S' : Nat → Bool} {cf : FuncId → List V → Option Ret} {o : Oper}

theorem Same.rfl' : Same σ σ := ⟨fun _ => rfl, rfl⟩
theorem Same.obj (h : Same σ σe) (id : Nat) : σe.obj id = σ.obj id := by simp only [St.obj, h.2]
theorem idsIn_same (h : Same σ σe) (v : V) : idsIn σe v = idsIn σ v := idsIn_agree fun id _ => by rw [h.2]
theorem lookV_same (h : Same σ σe) (v : V) : lookV σe v = lookV σ v := by
  unfold lookV
  rw [idsIn_same h]
  congr 1
  cases v with
  | fn f cs => simp only; congr 1; funext c; exact idsIn_same h c
  | _ => rfl
theorem lookO_same (h : Same σ σe) : lookO σe o = lookO σ o := by
  unfold lookO
  congr 1
  congr 1
  funext x
  cases x with
  | tmp t => simp only [lookX]; rw [h.1 t, lookV_same h]
  | _ => rfl
theorem Acts.same (h : Same σ σe) {D : Dl} {u : V} (ha : Acts E cf o σe D u) : Acts E cf o σ D u := by
  obtain ⟨L, hL, he⟩ := ha
  refine ⟨L, hL, fun cf' hc τ hs hag R' k' => he cf' hc τ (fun x hx t e => ?_) (fun id hid => ?_) R' k'⟩
  · rw [h.1 t]; exact hs x hx t e
  · rw [lookO_same h] at hid; rw [hag id hid, h.2]

theorem Same.putLit (h : Same σ σe) {g : Nat} {b : Bool} (hb : σe.tmp g = .bool b) : Same σ (σe.put (some g) (.bool b)) :=
  ⟨fun t => by
    rw [tmp_put]
    split
    · rename_i e; subst e; rw [← hb]; exact h.1 _
    · exact h.1 t, h.2⟩

theorem Same.app (h : Same σ σe) {i : Nat} {e : Evl} (hd : dstAt all i = o.dst) : Same (app1 all σ i e) ((σe.putL e.D).put o.dst e.u) := by
  unfold app1
  rw [hd]
  constructor
  · intro t
    cases hd : o.dst with
    | none => exact h.1 t
    | some d =>
      rw [tmp_put, tmp_put]
      split
      · rfl
      · exact h.1 t
  · rw [put_objs, put_objs]
    funext id
    simp only [St.putL]
    rw [look_append, look_append, h.2]

def Guard (all : Array Oper) (σ : St) (o : Oper) (want : Bool) : Prop := match o.guard with
  | none => want = true
  | some (j, wt) => ∃ g, (all[j]?).bind (·.dst) = some g ∧ ((∃ b, σ.tmp g = .bool b ∧ (b == wt) = want) ∨ (σ.tmp g = .tup [] ∧ want = false))

def OpRun (E : Env) (cf : FuncId → List V → Option Ret) (all : Array Oper) (σ : St) (o : Oper) (e : Evl) : Prop :=
  (e.run = true ∧ Guard all σ o true ∧ Acts E cf o σ e.D e.u ∧ e.L = lookO σ o) ∨ (e.run = false ∧ Guard all σ o false ∧ e.D = [] ∧ e.u = .tup [])

def natL (all : Array Oper) : St → Nat → List Evl → St
  | σ, _, [] => σ
  | σ, i, e :: es => natL all (app1 all σ i e) (i + 1) es
def accOf : Nat → List Evl → List (Nat × List Nat × List Nat) → List (Nat × List Nat × List Nat)
  | _, [], acc => acc
  | i, e :: es, acc => accOf (i + 1) es ((i, e.L, e.T) :: acc)

theorem touched_app {D : Dl} {d : Option Nat} {u : V} : touched σ ((σ.putL D).put d u) = D.map (·.1) := by
  unfold touched
  rw [put_objs]
  simp [St.putL]

theorem drawGo_run : ∀ (os : List Oper) (i : Nat) (σe σ : St) (acc : List (Nat × List Nat × List Nat)), Same σ σe → (∀ q o, os[q]? = some o → all[i + q]? = some o) → drawGo E cf all i os σe acc kσ = some r →
    ∃ es σf, es.length = os.length ∧ kσ σf = some r ∧ Same (natL all σ i es) σf ∧ pairsOk all (accOf i es acc) = true ∧ ∀ q o e, os[q]? = some o → es[q]? = some e → OpRun E cf all (natL all σ i (es.take q)) o e
  | [], i, σe, σ, acc, hs, _, h => by
    obtain ⟨hp, h⟩ := bif_some h
    exact ⟨[], σe, rfl, h, hs, hp, fun q o e ho => by simp at ho⟩
  | o :: os, i, σe, σ, acc, hs, hall, h => by
    have h0 : all[i]? = some o := hall 0 o rfl
    have hd : dstAt all i = o.dst := by simp [dstAt, h0]
    have hall' : ∀ q o, os[q]? = some o → all[i + 1 + q]? = some o := fun q o' hq => by
      have := hall (q + 1) o' (by simpa using hq)
      rwa [show i + (q + 1) = i + 1 + q by omega] at this
    -- one more
    have cons : ∀ (e : Evl) (σe' : St), Same (app1 all σ i e) σe' → OpRun E cf all σ o e → drawGo E cf all (i + 1) os σe' ((i, e.L, e.T) :: acc) kσ = some r → ∃ es σf, es.length = (o :: os).length ∧ kσ σf = some r ∧ Same (natL all σ i es) σf ∧ pairsOk all (accOf i es acc) = true ∧ ∀ q o' e, (o :: os)[q]? = some o' → es[q]? = some e → OpRun E cf all (natL all σ i (es.take q)) o' e := by
      intro e σe' hs' hrun h
      obtain ⟨es, σf, a, b, c, d, f⟩ := drawGo_run os (i + 1) σe' _ _ hs' hall' h
      refine ⟨e :: es, σf, by simp [a], b, c, d, fun q o' e' ho he => ?_⟩
      cases q with
      | zero => simp at ho he; subst ho he; exact hrun
      | succ q => exact f q o' e' (by simpa using ho) (by simpa using he)
    have doit : ∀ σ1, Same σ σ1 → Guard all σ o true → opC E cf o σ1 (fun σ' => drawGo E cf all (i + 1) os σ' ((i, lookO σ1 o, touched σ1 σ') :: acc) kσ) = some r → ∃ es σf, es.length = (o :: os).length ∧ kσ σf = some r ∧ Same (natL all σ i es) σf ∧ pairsOk all (accOf i es acc) = true ∧ ∀ q o' e, (o :: os)[q]? = some o' → es[q]? = some e → OpRun E cf all (natL all σ i (es.take q)) o' e := by
      intro σ1 hs1 hg h
      obtain ⟨D, u, h, ha⟩ := opC_loc h
      rw [touched_app] at h
      refine cons ⟨true, D, u, lookO σ1 o⟩ _ (hs1.app hd) (.inl ⟨rfl, hg, ha.same hs1, lookO_same hs1⟩) h
    have skip : ∀ σ1, Same σ σ1 → Guard all σ o false → drawGo E cf all (i + 1) os (σ1.put o.dst (.tup [])) ((i, [], []) :: acc) kσ = some r → ∃ es σf, es.length = (o :: os).length ∧ kσ σf = some r ∧ Same (natL all σ i es) σf ∧ pairsOk all (accOf i es acc) = true ∧ ∀ q o' e, (o :: os)[q]? = some o' → es[q]? = some e → OpRun E cf all (natL all σ i (es.take q)) o' e := by
      intro σ1 hs1 hg h
      exact cons ⟨false, [], .tup [], []⟩ _ (hs1.app (e := ⟨false, [], .tup [], []⟩) hd) (.inr ⟨rfl, hg, rfl, rfl⟩) h
    simp only [drawGo] at h
    cases hg : o.guard with
    | none =>
      rw [hg] at h
      exact doit σe hs (by unfold Guard; rw [hg]) h
    | some p =>
      obtain ⟨j, want⟩ := p
      rw [hg] at h
      simp only at h
      cases hgt : (all[j]?).bind (·.dst) with
      | none => rw [hgt] at h; cases h
      | some g =>
        rw [hgt] at h
        simp only at h
        cases hv : σe.tmp g with
        | bool b =>
          rw [hv] at h
          simp only at h
          have hv' : σ.tmp g = .bool b := by rw [← hs.1 g]; exact hv
          have gd : ∀ wn, (b == want) = wn → Guard all σ o wn := fun wn e => by unfold Guard; rw [hg]; exact ⟨g, hgt, .inl ⟨b, hv', e⟩⟩
          cases b with
          | true =>
            cases want with
            | true => simp only [cond_true] at h; exact doit _ (hs.putLit hv) (gd true rfl) h
            | false => simp only [cond_true, cond_false] at h; exact skip _ (hs.putLit hv) (gd false rfl) h
          | false =>
            cases want with
            | true => simp only [cond_true, cond_false] at h; exact skip _ (hs.putLit hv) (gd false rfl) h
            | false => simp only [cond_false] at h; exact doit _ (hs.putLit hv) (gd true rfl) h
        | tup cs =>
          rw [hv] at h
          cases cs with
          | cons _ _ => cases h
          | nil =>
            simp only at h
            have hv' : σ.tmp g = .tup [] := by rw [← hs.1 g]; exact hv
            exact skip _ hs (by unfold Guard; rw [hg]; exact ⟨g, hgt, .inr ⟨hv', rfl⟩⟩) h
        | _ => rw [hv] at h; cases h
end Go.Vk
end

section
namespace Go.Vk
open Go
set_option linter.unusedVariables false
set_option linter.unusedSimpArgs false
variable {R : Type} {r : R} {kσ : St → Option R} {E : Env} {all : Array Oper} {σ τ σ0 σe : St} {ev : Nat → Evl} {S S' : Nat → Bool} {cf : FuncId → List V → Option Ret} {o : Oper}

theorem acc_pairs : ∀ (es : List Evl) (i : Nat) (acc : List (Nat × List Nat × List Nat)), pairsOk all (accOf i es acc) = true → pairsOk all acc = true ∧ ∀ q e, es[q]? = some e → (∀ p ∈ acc, pairOk all p.1 p.2.1 p.2.2 (i + q) e.L e.T = true) ∧
    ∀ q' e', q' < q → es[q']? = some e' → pairOk all (i + q') e'.L e'.T (i + q) e.L e.T = true
  | [], i, acc, h => ⟨h, fun q e he => by simp at he⟩
  | e :: es, i, acc, h => by
    obtain ⟨h1, h2⟩ := acc_pairs es (i + 1) _ h
    simp only [pairsOk, Bool.and_eq_true] at h1
    refine ⟨h1.2, fun q e' he => ?_⟩
    cases q with
    | zero =>
      simp at he; subst he
      exact ⟨fun p hp => List.all_eq_true.1 h1.1 p hp, fun q' e' hq => by omega⟩
    | succ q =>
      obtain ⟨a, b⟩ := h2 q e' (by simpa using he)
      rw [show i + (q + 1) = i + 1 + q by omega]
      refine ⟨fun p hp => a p (List.mem_cons_of_mem _ hp), fun q' e'' hq he' => ?_⟩
      cases q' with
      | zero => simp at he'; subst he'; exact a (i, e.L, e.T) (by simp)
      | succ q' =>
        rw [show i + (q' + 1) = i + 1 + q' by omega]
        exact b q' e'' (by omega) (by simpa using he')

theorem natL_snoc : ∀ (es : List Evl) (σ : St) (i : Nat) (e : Evl), natL all σ i (es ++ [e]) = app1 all (natL all σ i es) (i + es.length) e
  | [], σ, i, e => rfl
  | e0 :: es, σ, i, e => by
    simp only [List.cons_append, natL, natL_snoc es, List.length_cons]
    congr 1
    omega

theorem natL_stS {es : List Evl} (hev : ∀ q e, es[q]? = some e → ev q = e) : ∀ q, q ≤ es.length → natL all σ0 0 (es.take q) = stS all ev σ0 (fun _ => true) q
  | 0, _ => rfl
  | q + 1, h => by
    have hq : es[q]? = some es[q] := List.getElem?_eq_getElem (by omega)
    rw [List.take_add_one, hq]
    simp only [Option.toList_some]
    rw [natL_snoc, natL_stS hev q (by omega)]
    simp only [stS, cond_true, List.length_take, Nat.min_eq_left (show q ≤ es.length by omega), Nat.zero_add]
    rw [hev q _ hq]

theorem stS_upto {i : Nat} : ∀ k, i ≤ k → stS all ev σ0 (fun j => decide (j < i)) k = stS all ev σ0 (fun _ => true) i
  | 0, h => by have : i = 0 := by omega
               subst this; rfl
  | k + 1, h => by
    by_cases e : i = k + 1
    · subst e
      have : ∀ m, m ≤ k + 1 → stS all ev σ0 (fun j => decide (j < k + 1)) m = stS all ev σ0 (fun _ => true) m := by
        intro m
        induction m with
        | zero => intro _; rfl
        | succ m ih => intro hm; simp only [stS]; rw [ih (by omega)]; simp [show m < k + 1 by omega]
      exact this _ (Nat.le_refl _)
    · simp only [stS, show ¬ k < i by omega, decide_false, cond_false]
      exact stS_upto k (by omega)

theorem memN_iff {l : List Nat} {x : Nat} : memN l x = true ↔ x ∈ l := by
  unfold memN
  rw [List.any_eq_true]
  constructor
  · rintro ⟨y, hy, e⟩; rw [Nat.eq_of_beq_eq_true e]; exact hy
  · exact fun h => ⟨x, h, Nat.beq_refl x⟩
theorem apartL_iff {l m : List Nat} (h : apartL l m = true) : ∀ x ∈ l, x ∉ m := fun x hx hm => by
  have := List.all_eq_true.1 h x hx
  rw [memN_iff.2 hm] at this; cases this

theorem writers_mem : ∀ (os : List Oper) (i d j : Nat), (d, j) ∈ writers i os ↔ ∃ q o, os[q]? = some o ∧ o.dst = some d ∧ j = i + q
  | [], i, d, j => by simp [writers]
  | o :: os, i, d, j => by
    have tail : (∃ q o', os[q]? = some o' ∧ o'.dst = some d ∧ j = i + 1 + q) ↔ ∃ q o', (o :: os)[q + 1]? = some o' ∧ o'.dst = some d ∧ j = i + (q + 1) := by
      constructor
      · rintro ⟨q, o', a, b, c⟩; exact ⟨q, o', by simpa using a, b, by omega⟩
      · rintro ⟨q, o', a, b, c⟩; exact ⟨q, o', by simpa using a, b, by omega⟩
    have split : (∃ q o', (o :: os)[q]? = some o' ∧ o'.dst = some d ∧ j = i + q) ↔ (o.dst = some d ∧ j = i) ∨ ∃ q o', (o :: os)[q + 1]? = some o' ∧ o'.dst = some d ∧ j = i + (q + 1) := by
      constructor
      · rintro ⟨q, o', a, b, c⟩
        cases q with
        | zero => simp at a; subst a; exact .inl ⟨b, by omega⟩
        | succ q => exact .inr ⟨q, o', a, b, c⟩
      · rintro (⟨b, c⟩ | ⟨q, o', a, b, c⟩)
        · exact ⟨0, o, rfl, b, by omega⟩
        · exact ⟨q + 1, o', a, b, c⟩
    rw [split, ← tail, ← writers_mem os (i + 1) d j]
    simp only [writers]
    cases hd : o.dst with
    | none => simp
    | some d' =>
      simp only [List.mem_cons, Prod.mk.injEq, Option.some.injEq]
      constructor
      · rintro (⟨a, b⟩ | h)
        · exact .inl ⟨a.symm, b⟩
        · exact .inr h
      · rintro (⟨a, b⟩ | h)
        · exact .inl ⟨a.symm, b⟩
        · exact .inr h

theorem dst_writer {i t : Nat} : dstAt all i = some t ↔ (t, i) ∈ writers 0 all.toList := by
  rw [writers_mem]
  unfold dstAt
  constructor
  · intro h
    cases ho : all[i]? with
    | none => rw [ho] at h; cases h
    | some o => rw [ho] at h; exact ⟨i, o, by simpa using ho, h, by omega⟩
  · rintro ⟨q, o, a, b, c⟩
    have e : i = q := by omega
    subst e
    have : all[i]? = some o := by simpa using a
    rw [this]; exact b

theorem ops_at {ws : List (Nat × Nat)} {nt : Nat} : ∀ (os : List Oper) (i : Nat), opsOk all nt ws i os = true → ∀ q o, os[q]? = some o → opOk all nt ws (i + q) o = true
  | [], i, h, q, o, ho => by simp at ho
  | o0 :: os, i, h, q, o, ho => by
    simp only [opsOk, Bool.and_eq_true] at h
    cases q with
    | zero => simp at ho; subst ho; exact h.1
    | succ q =>
      have := ops_at os (i + 1) h.2 q o (by simpa using ho)
      rwa [show i + (q + 1) = i + 1 + q by omega]

/-- What the static look at a region shows. -/
structure Statc (all : Array Oper) (nt : Nat) : Prop where
  dst : ∀ (i : Nat) (o : Oper), all[i]? = some o → dstIn nt o.dst = true
  edge : ∀ (i : Nat) (o : Oper), all[i]? = some o → ∀ e ∈ o.after, Region.binds .any e = true → e.on < i
  inj : ∀ i j t, dstAt all i = some t → dstAt all j = some t → i = j
  reads : ∀ (i : Nat) (o : Oper) (t j : Nat), all[i]? = some o → t ∈ o.looksAt all → dstAt all j = some t → j ≠ i → j < i ∧ reach all all.size i j = true

theorem stat_of {nt : Nat} (h : staticOk nt all = true) : Statc all nt := by
  unfold staticOk at h
  simp only [Bool.and_eq_true] at h
  have at_ : ∀ i o, all[i]? = some o → opOk all nt (writers 0 all.toList) i o = true := fun i o ho => by
    have := ops_at all.toList 0 h.2 i o (by simpa using ho)
    simpa using this
  refine ⟨fun i o ho => ?_, fun i o ho e he hb => ?_, fun i j t hi hj => ?_, fun i o t j ho ht hj hne => ?_⟩
  · have := at_ i o ho
    simp only [opOk, Bool.and_eq_true] at this
    exact this.1.1
  · have := at_ i o ho
    simp only [opOk, Bool.and_eq_true] at this
    have := List.all_eq_true.1 this.1.2 e (by simpa using he)
    rw [hb] at this
    exact blt_lt (by simpa using this)
  · have a := look_distinct h.1 (dst_writer.1 hi)
    have b := look_distinct h.1 (dst_writer.1 hj)
    rw [a] at b; cases b; rfl
  · have := at_ i o ho
    simp only [opOk, Bool.and_eq_true] at this
    have := List.all_eq_true.1 (List.all_eq_true.1 this.2 t ht) (t, j) (dst_writer.1 hj)
    simp only [Nat.beq_refl, Bool.not_true, Bool.false_or, Bool.or_eq_true, Bool.and_eq_true] at this
    rcases this with h | h
    · exact absurd (Nat.eq_of_beq_eq_true h) hne
    · exact ⟨blt_lt h.1, h.2⟩

def Closed (all : Array Oper) (S : Nat → Bool) : Prop := ∀ (i : Nat) (o : Oper), S i = true → all[i]? = some o → ∀ e ∈ o.after, Region.binds .any e = true → S e.on = true

theorem reach_in (hS : Closed all S) : ∀ (n i j : Nat), reach all n i j = true → (∀ o, all[i]? = some o → ∀ e ∈ o.after, Region.binds .any e = true → S e.on = true) → S j = true
  | 0, i, j, h, _ => by cases h
  | n + 1, i, j, h, hi => by
    simp only [reach] at h
    cases ho : all[i]? with
    | none => rw [ho] at h; cases h
    | some o =>
      rw [ho] at h
      obtain ⟨e, he, hb⟩ := List.any_eq_true.1 h
      simp only [Bool.and_eq_true, Bool.or_eq_true] at hb
      have hSe := hi o ho e (by simpa using he) hb.1
      rcases hb.2 with h | h
      · rw [← Nat.eq_of_beq_eq_true h]; exact hSe
      · exact reach_in hS n e.on j h fun o' ho' e' he' hb' => hS e.on o' hSe ho' e' he' hb'

theorem countP_lt {p p' : Nat → Bool} : ∀ {l : List Nat} {a : Nat}, (∀ x, p' x = true → p x = true) → a ∈ l → p a = true → p' a = false → l.countP p' < l.countP p
  | [], a, _, h, _, _ => by cases h
  | x :: l, a, hp, h, h1, h2 => by
    have le : ∀ l : List Nat, l.countP p' ≤ l.countP p := fun l => List.countP_mono_left fun x _ hx => hp x hx
    rw [List.countP_cons, List.countP_cons]
    rcases List.mem_cons.1 h with rfl | h
    · rw [h1, h2]; have := le l; simp; omega
    · have ih := countP_lt hp h h1 h2
      have : (if p' x = true then 1 else 0) ≤ (if p x = true then 1 else 0) := by
        by_cases hx : p' x = true
        · rw [if_pos hx, if_pos (hp x hx)]; exact Nat.le_refl _
        · rw [if_neg hx]; exact Nat.zero_le _
      omega
end Go.Vk
end

section
namespace Go.Vk
open Go
set_option linter.unusedVariables false
set_option linter.unusedSimpArgs false
variable {w w' w0 : World} {S0 : SS} {F0 : Set'} {G G' : Gh} {tm : Array Value}
variable {R : Type} {r : R} {kσ : St → Option R} {E : Env} {all : Array Oper} {σ τ σ0 σe : St} {ev : Nat → Evl} {S S' : Nat → Bool} {cf : FuncId → List V → Option Ret} {o : Oper} {Q : Exit → Act → World → Prop}

theorem looks_op {x : Operand} {t : Nat} (hx : x ∈ o.op.operands.toList) (h : x = .tmp t) : t ∈ o.looksAt all := by
  subst h
  exact List.mem_append_left _ (List.mem_filterMap.2 ⟨.tmp t, hx, rfl⟩)
theorem looks_guard {j g : Nat} {want : Bool} (hg : o.guard = some (j, want)) (h : (all[j]?).bind (·.dst) = some g) : g ∈ o.looksAt all := by
  unfold Oper.looksAt
  refine List.mem_append_right _ ?_
  rw [hg]
  simp only
  rw [h]; simp

theorem guard_wanted {wn : Bool} (hI : Inv w0 S0 F0 G τ tm w) (ht : ∀ t ∈ o.looksAt all, τ.tmp t = σ.tmp t) (hg : Guard all σ o wn) : Region.wanted o (yielded all tm) = wn := by
  unfold Guard at hg
  unfold Region.wanted
  cases h : o.guard with
  | none => rw [h] at hg; exact hg.symm
  | some p =>
    obtain ⟨j, want⟩ := p
    rw [h] at hg
    obtain ⟨g, h1, ⟨b, h2, h3⟩ | ⟨h2, h3⟩⟩ := hg
    · have hv : τ.tmp g = .bool b := by rw [ht g (looks_guard h h1)]; exact h2
      have hrep := hI.tmps g
      rw [hv] at hrep
      have := yield_of h1 hrep.bool_inv
      simp only [this]
      rw [← h3]; simp
    · have hv : τ.tmp g = .tup [] := by rw [ht g (looks_guard h h1)]; exact h2
      have hrep := hI.tmps g
      rw [hv] at hrep
      have := yield_undef h1 (rep_undef_inv hrep)
      simp only [this]
      rw [h3]; simp

/-- The order of two operations that touch the same. -/
def PairsP (all : Array Oper) (ev : Nat → Evl) (n : Nat) : Prop := ∀ j i, j < i → i < n → pairOk all j (ev j).L (ev j).T i (ev i).L (ev i).T = true

theorem pair_lt {n : Nat} (hp : PairsP all ev n) {i j id : Nat} (h : j < i) (hi : i < n) (h1 : id ∈ (ev j).T) (h2 : id ∈ (ev i).L ∨ id ∈ (ev i).T) : reach all all.size i j = true := by
  have := hp j i h hi
  simp only [pairOk, Bool.or_eq_true, Bool.and_eq_true] at this
  rcases this with h | h
  · exact absurd (List.mem_append.2 h2) (apartL_iff h.1 id h1)
  · exact h
theorem pair_gt {n : Nat} (hp : PairsP all ev n) {i j id : Nat} (h : i < j) (hj : j < n) (h1 : id ∈ (ev j).T) (h2 : id ∈ (ev i).L ∨ id ∈ (ev i).T) : reach all all.size j i = true := by
  have := hp i j h hj
  simp only [pairOk, Bool.or_eq_true, Bool.and_eq_true] at this
  rcases this with h | h
  · rcases h2 with h2 | h2
    · exact absurd h2 (apartL_iff h.2 id h1)
    · exact absurd (List.mem_append_right _ h1) (apartL_iff h.1 id h2)
  · exact h

section
variable {nt : Nat} (st : Statc all nt) (hp : PairsP all ev all.size) (hS : Closed all S) {i : Nat} (hi : i < all.size) (hn : S i = false) (ho : all[i]? = some o) (hr : ∀ e ∈ o.after, Region.binds .any e = true → S e.on = true)
include st hp hS hi hn ho hr

theorem ready_reach {j : Nat} (h : reach all all.size i j = true) : S j = true := reach_in hS _ i j h fun o' ho' => by
  rw [ho] at ho'; cases ho'; exact hr

theorem agreeT : ∀ t ∈ o.looksAt all, (stS all ev σ0 S all.size).tmp t = (stS all ev σ0 (fun _ => true) i).tmp t := by
  intro t ht
  rw [← stS_upto (ev := ev) (σ0 := σ0) all.size (Nat.le_of_lt hi)]
  refine stS_tmp _ fun j hj hd => ?_
  by_cases e : j = i
  · subst e; rw [hn]; simp
  · obtain ⟨h1, h2⟩ := st.reads i o t j ho ht hd e
    rw [ready_reach st hp hS hi hn ho hr h2]; simp [h1]

theorem agreeO : ∀ id, id ∈ (ev i).L ∨ id ∈ (ev i).T → look (stS all ev σ0 S all.size).objs id = look (stS all ev σ0 (fun _ => true) i).objs id := by
  intro id hid
  rw [← stS_upto (ev := ev) (σ0 := σ0) all.size (Nat.le_of_lt hi)]
  refine stS_obj _ fun j hj ht => ?_
  rcases Nat.lt_trichotomy j i with h | h | h
  · rw [ready_reach st hp hS hi hn ho hr (pair_lt hp h hi ht hid)]; simp [h]
  · subst h; rw [hn]; simp
  · have hre := pair_gt hp h hj ht hid
    cases hSj : S j with
    | false => simp [show ¬ j < i by omega]
    | true =>
      have := reach_in hS _ j i hre fun o' ho' e he hb => hS j o' hSj ho' e he hb
      rw [hn] at this; cases this

theorem after_one (h : Same (stS all ev σ0 S all.size) τ) (h1 : S' i = true) (h2 : ∀ j, j ≠ i → S' j = S j) : Same (stS all ev σ0 S' all.size) (app1 all τ i (ev i)) := by
  constructor
  · intro t
    rw [app1_tmp]
    by_cases hd : dstAt all i = some t
    · rw [if_pos hd, stS_tmp_last hd h1 _ hi fun j hij _ _ hdj => by have := st.inj i j t hd hdj; omega]
    · rw [if_neg hd, h.1 t]
      exact stS_tmp _ fun j _ hdj => (h2 j fun e => hd (e ▸ hdj)).symm
  · funext id
    by_cases ht : id ∈ (ev i).T
    · rw [app1_obj_in ht]
      refine (stS_obj_last ht h1 _ hi fun j hij hj hSj hjt => ?_).symm
      rw [h2 j (by omega)] at hSj
      have := reach_in hS _ j i (pair_gt hp hij hj hjt (.inr ht)) fun o' ho' e he hb => hS j o' hSj ho' e he hb
      rw [hn] at this; cases this
    · rw [app1_obj_out ht, h.2]
      exact stS_obj _ fun j _ hjt => (h2 j fun e => ht (e ▸ hjt)).symm
end

theorem getD_set {listed : Array Bool} {i j : Nat} (hi : i < listed.size) : (listed.setIfInBounds i true).getD j false = if j = i then true else listed.getD j false := by
  simp only [Array.getD_eq_getD_getElem?]
  by_cases h : j = i
  · subst h; simp [hi]
  · rw [if_neg h, Array.getElem?_setIfInBounds_ne (fun e => h e.symm)]

theorem draw_main {nt : Nat} (hE : EnvOk E) (hp : Pre E w0 S0 F0) (hcall : SoundCall E cf) (st : Statc all nt) (hpr : PairsP all ev all.size) (hrun : ∀ i o, all[i]? = some o → OpRun E cf all (stS all ev σ0 (fun _ => true) i) o (ev i))
    {σf : St} (hf : Same (stS all ev σ0 (fun _ => true) all.size) σf) (hk : kσ σf = some r) (cont : Cont w0 S0 F0 kσ r (Q .normal) nt) : ∀ (fuel : Nat) (listed : Array Bool) (τ : St) (G : Gh) (tm : Array Value) (w : World), listed.size = all.size →
      (List.range all.size).countP (fun i => !listed.getD i false) ≤ fuel → Closed all (fun i => listed.getD i false) → Same (stS all ev σ0 (fun i => listed.getD i false) all.size) τ → Inv w0 S0 F0 G τ tm w → tm.size = nt → wpAny E.P .any all Q fuel listed ⟨tm, []⟩ w := by
  have gd : ∀ {listed : Array Bool} {j : Nat}, listed.size = all.size → j < all.size → listed.getD j true = listed.getD j false := fun {listed j} hs hj => by
    simp only [Array.getD_eq_getD_getElem?]
    have : j < listed.size := by omega
    simp [this]
  have fin : ∀ (listed : Array Bool) (τ : St) (G : Gh) (tm : Array Value) (w : World), (∀ i, i < all.size → listed.getD i false = true) → Same (stS all ev σ0 (fun i => listed.getD i false) all.size) τ → Inv w0 S0 F0 G τ tm w → tm.size = nt → Q .normal ⟨tm, []⟩ w := by
    intro listed τ G tm w hall hs hI hsz
    have ho : look σf.objs = look τ.objs := by
      rw [hf.2, hs.2]; funext id; exact stS_obj _ fun j hj _ => (hall j hj).symm
    have ht : ∀ t, σf.tmp t = τ.tmp t := fun t => by
      rw [hf.1, hs.1]; exact stS_tmp _ fun j hj _ => (hall j hj).symm
    exact cont σf G tm w (hI.congr ho ht) hsz hk
  have stuck : ∀ (listed : Array Bool), listed.size = all.size → Region.ready .any all listed = [] → ∀ i, i < all.size → listed.getD i false = true := by
    intro listed hs hrd i
    induction i using Nat.strongRecOn with
    | _ i ih =>
      intro hi
      cases hl : listed.getD i false with
      | true => rfl
      | false =>
        have : i ∈ Region.ready .any all listed := mem_ready.2 ⟨by rw [gd hs hi]; exact hl, all[i], Array.getElem?_eq_getElem hi, fun e he hb => by
          have := st.edge i _ (Array.getElem?_eq_getElem hi) e he hb
          exact ih e.on this (by omega)⟩
        rw [hrd] at this; cases this
  intro fuel
  induction fuel with
  | zero =>
    intro listed τ G tm w hsz hc hcl hs hI hn
    have hall : ∀ i, i < all.size → listed.getD i false = true := fun i hi => by
      have := List.countP_eq_zero.1 (Nat.le_zero.1 hc) i (List.mem_range.2 hi)
      simpa using this
    refine ⟨?_, fin listed τ G tm w hall hs hI hn⟩
    cases hr : Region.ready .any all listed with
    | nil => rfl
    | cons j l =>
      have hj : j ∈ Region.ready .any all listed := by rw [hr]; simp
      obtain ⟨h1, o, h2, _⟩ := mem_ready.1 hj
      have hlt : j < all.size := (Array.getElem?_eq_some_iff.1 h2).1
      rw [gd hsz hlt, hall j hlt] at h1; cases h1
  | succ fuel ih =>
    intro listed τ G tm w hsz hc hcl hs hI hn
    refine ⟨fun hr => fin listed τ G tm w (stuck listed hsz hr) hs hI hn, fun i hi => ?_⟩
    obtain ⟨h1, o, ho, hr⟩ := mem_ready.1 hi
    have hlt : i < all.size := (Array.getElem?_eq_some_iff.1 ho).1
    rw [gd hsz hlt] at h1
    have hset : ∀ j, (listed.setIfInBounds i true).getD j false = if j = i then true else listed.getD j false := fun j => getD_set (by omega)
    have next : ∀ (τ' : St) (G' : Gh) (tm' : Array Value) (w' : World), Same (app1 all τ i (ev i)) τ' → Inv w0 S0 F0 G' τ' tm' w' → tm'.size = nt → wpAny E.P .any all Q fuel (listed.setIfInBounds i true) ⟨tm', []⟩ w' := by
      intro τ' G' tm' w' hs' hI' hn'
      have ha := after_one (S := fun j => listed.getD j false) (S' := fun j => (listed.setIfInBounds i true).getD j false) (τ := τ) (σ0 := σ0) st hpr hcl hlt h1 ho hr hs (by show (listed.setIfInBounds i true).getD i false = true; rw [hset]; simp) (fun j hj => by show (listed.setIfInBounds i true).getD j false = _; rw [hset, if_neg hj])
      refine ih _ τ' G' tm' w' (by simpa using hsz) ?_ ?_ ⟨fun t => (hs'.1 t).trans (ha.1 t), hs'.2.trans ha.2⟩ hI' hn'
      · have := countP_lt (p := fun j => !listed.getD j false) (p' := fun j => !(listed.setIfInBounds i true).getD j false) (l := List.range all.size) (a := i) (fun x hx => by
          simp only [hset] at hx
          split at hx
          · cases hx
          · exact hx) (List.mem_range.2 hlt) (by simp only [h1]; rfl) (by simp only [hset]; simp)
        omega
      · intro j o' hj ho' e he hb
        have hj : (listed.setIfInBounds i true).getD j false = true := hj
        show (listed.setIfInBounds i true).getD e.on false = true
        rw [hset] at hj ⊢
        split
        · rfl
        · split at hj
          · rename_i e'; subst e'; rw [ho] at ho'; cases ho'; exact hr e he hb
          · exact hcl j o' hj ho' e he hb
    have hT : ∀ t ∈ o.looksAt all, τ.tmp t = (stS all ev σ0 (fun _ => true) i).tmp t := fun t ht => by
      rw [hs.1 t]; exact agreeT (σ0 := σ0) st hpr hcl hlt h1 ho hr t ht
    have hO : ∀ id, id ∈ (ev i).L ∨ id ∈ (ev i).T → look τ.objs id = look (stS all ev σ0 (fun _ => true) i).objs id := fun id hid => by
      rw [hs.2]; exact agreeO (σ0 := σ0) st hpr hcl hlt h1 ho hr id hid
    have hd : dstIn tm.size o.dst = true := by rw [hn]; exact st.dst i o ho
    have hda : dstAt all i = o.dst := by simp [dstAt, ho]
    unfold wpOp
    rw [ho]
    simp only
    rcases hrun i o ho with ⟨e1, hg, ha, hL⟩ | ⟨e1, hg, hD, hu⟩
    · rw [if_pos (guard_wanted hI hT hg)]
      obtain ⟨Lc, hLc, he⟩ := ha
      have hop : opC E cf o τ (some : St → Option St) = some ((τ.putL (ev i).D).put o.dst (ev i).u) := he cf hLc τ (fun x hx t e => hT t (looks_op hx e)) (fun id hid => hO id (by
        rcases List.mem_append.1 hid with hid | hid
        · rw [← hL] at hid; exact .inl hid
        · exact .inr hid)) St some
      refine .inl (opC_sound hE hp hI hcall hop hd fun σ' G' tm' w' hI' hs' h' => ?_)
      cases h'
      exact next _ G' tm' w' (by unfold app1; rw [hda]; exact .rfl') hI' (hs'.trans hn)
    · have hw := guard_wanted hI hT hg
      rw [if_neg (by rw [hw]; simp)]
      have hI' : Inv w0 S0 F0 G (τ.put o.dst (.tup [])) (putT tm o.dst undef) w := hI.put rep_undef hd
      have := next _ G _ w (by unfold app1; rw [hda, hD, hu]; exact .rfl') hI' ((putT_size _ _).trans hn)
      unfold putT at this
      unfold Act.put
      revert this
      cases o.dst <;> exact fun h => h

theorem drawC_sound {nt : Nat} (hE : EnvOk E) (hp : Pre E w0 S0 F0) (hcall : SoundCall E cf) {rid : Nat} (h : drawC E nt cf all σ0 kσ = some r) (hI : Inv w0 S0 F0 G σ0 tm w) (hn : tm.size = nt) (cont : Cont w0 S0 F0 kσ r (Q .normal) nt) : (Code.region rid all true).wp E.P Q ⟨tm, []⟩ w := by
  unfold drawC at h
  obtain ⟨hst, h⟩ := bif_some h
  have st := stat_of hst
  obtain ⟨es, σf, hlen, hk, hsame, hpairs, hruns⟩ := drawGo_run all.toList 0 σ0 σ0 [] .rfl' (fun q o ho => by simpa using ho) h
  have hlen' : es.length = all.size := by simpa using hlen
  let ev : Nat → Evl := fun i => es.getD i ⟨false, [], .tup [], []⟩
  have hev : ∀ q e, es[q]? = some e → ev q = e := fun q e he => by simp [ev, List.getD_eq_getElem?_getD, he]
  have hge : ∀ q, q < all.size → es[q]? = some (ev q) := fun q hq => by
    have : es[q]? = some es[q] := List.getElem?_eq_getElem (by omega)
    rw [this, hev q _ this]
  have hpr : PairsP all ev all.size := fun j i hji hi => by
    have := ((acc_pairs es 0 [] hpairs).2 i (ev i) (hge i hi)).2 j (ev j) hji (hge j (by omega))
    simpa using this
  have hall : natL all σ0 0 es = stS all ev σ0 (fun _ => true) all.size := by
    have := natL_stS (all := all) (σ0 := σ0) hev es.length (Nat.le_refl _)
    rw [List.take_length] at this
    rw [this, hlen']
  refine wp_region_any hE.mixed (draw_main (ev := ev) (σ0 := σ0) hE hp hcall st hpr (fun i o ho => ?_) (hall ▸ hsame) hk cont all.size _ σ0 G tm _ (by simp) ?_ ?_ ?_ (Inv.drew hI) hn)
  · have hlt : i < all.size := (Array.getElem?_eq_some_iff.1 ho).1
    have := hruns i o (ev i) (by simpa using ho) (hge i hlt)
    rw [natL_stS hev i (by omega)] at this
    exact this
  · exact Nat.le_trans List.countP_le_length (by simp)
  · intro i o hS
    simp [Array.getD_eq_getD_getElem?, Array.getElem?_replicate] at hS
    split at hS <;> simp at hS
  · have hf : (fun i => (Array.replicate all.size false).getD i false) = fun _ => false := by
      funext i
      simp [Array.getD_eq_getD_getElem?, Array.getElem?_replicate]
      split <;> rfl
    rw [hf]
    have : ∀ k, stS all ev σ0 (fun _ => false) k = σ0 := by
      intro k
      induction k with
      | zero => rfl
      | succ k ih => simp only [stS, cond_false]; exact ih
    rw [this]; exact .rfl'
end Go.Vk
end

section
namespace Go.Vk
open Go
set_option linter.unusedVariables false
set_option linter.unusedSimpArgs false
variable {R : Type} {r : R} {kσ : St → Option R} {E : Env} {all : Array Oper} {σ τ σ0 σe : St} {cf : FuncId → List V → Option Ret}

theorem drawGo_fin : ∀ (os : List Oper) (i : Nat) (σ : St) (acc : List (Nat × List Nat × List Nat)), drawGo E cf all i os σ acc kσ = some r → ∃ σ', kσ σ' = some r ∧ ∃ L : Ents, Has cf L ∧ ∀ cf', Has cf' L → ∀ (R' : Type) (k' : St → Option R'), drawGo E cf' all i os σ acc k' = k' σ'
  | [], i, σ, acc, h => by
    obtain ⟨hb, h⟩ := bif_some h
    exact ⟨σ, h, [], (fun e he => by cases he), fun _ _ _ _ => by simp only [drawGo, hb, cond_true]⟩
  | o :: os, i, σ, acc, h => by
    have go : ∀ σ1, opC E cf o σ1 (fun σ' => drawGo E cf all (i + 1) os σ' ((i, lookO σ1 o, touched σ1 σ') :: acc) kσ) = some r → ∃ σ', kσ σ' = some r ∧ ∃ L : Ents, Has cf L ∧ ∀ cf', Has cf' L → ∀ (R' : Type) (k' : St → Option R'), opC E cf' o σ1 (fun σ' => drawGo E cf' all (i + 1) os σ' ((i, lookO σ1 o, touched σ1 σ') :: acc) k') = k' σ' := by
      intro σ1 h
      obtain ⟨σ2, h, L, hL, he⟩ := opC_fin h
      obtain ⟨σ3, h, L', hL', he'⟩ := drawGo_fin os (i + 1) σ2 _ h
      exact ⟨σ3, h, L ++ L', hL.app hL', fun cf' hc R' k' => by rw [he cf' hc.left, he' cf' hc.right]⟩
    simp only [drawGo] at h
    cases hg : o.guard with
    | none =>
      rw [hg] at h
      obtain ⟨σ', h, L, hL, he⟩ := go σ h
      exact ⟨σ', h, L, hL, fun cf' hc R' k' => by simp only [drawGo, hg]; exact he cf' hc R' k'⟩
    | some p =>
      obtain ⟨j, want⟩ := p
      rw [hg] at h
      simp only at h
      cases hgt : (all[j]?).bind (·.dst) with
      | none => rw [hgt] at h; cases h
      | some g =>
        rw [hgt] at h
        simp only at h
        cases hv : σ.tmp g with
        | bool b =>
          rw [hv] at h
          simp only at h
          cases b with
          | true =>
            cases want with
            | true =>
              simp only [cond_true] at h
              obtain ⟨σ', h, L, hL, he⟩ := go _ h
              exact ⟨σ', h, L, hL, fun cf' hc R' k' => by simp only [drawGo, hg, hgt, hv, cond_true]; exact he cf' hc R' k'⟩
            | false =>
              simp only [cond_true, cond_false] at h
              obtain ⟨σ', h, L, hL, he⟩ := drawGo_fin os (i + 1) _ _ h
              exact ⟨σ', h, L, hL, fun cf' hc R' k' => by simp only [drawGo, hg, hgt, hv, cond_true, cond_false]; exact he cf' hc R' k'⟩
          | false =>
            cases want with
            | true =>
              simp only [cond_true, cond_false] at h
              obtain ⟨σ', h, L, hL, he⟩ := drawGo_fin os (i + 1) _ _ h
              exact ⟨σ', h, L, hL, fun cf' hc R' k' => by simp only [drawGo, hg, hgt, hv, cond_true, cond_false]; exact he cf' hc R' k'⟩
            | false =>
              simp only [cond_false] at h
              obtain ⟨σ', h, L, hL, he⟩ := go _ h
              exact ⟨σ', h, L, hL, fun cf' hc R' k' => by simp only [drawGo, hg, hgt, hv, cond_false]; exact he cf' hc R' k'⟩
        | tup cs =>
          rw [hv] at h
          cases cs with
          | cons _ _ => cases h
          | nil =>
            simp only at h
            obtain ⟨σ', h, L, hL, he⟩ := drawGo_fin os (i + 1) _ _ h
            exact ⟨σ', h, L, hL, fun cf' hc R' k' => by simp only [drawGo, hg, hgt, hv]; exact he cf' hc R' k'⟩
        | _ => rw [hv] at h; cases h

theorem drawC_fin {nt : Nat} (h : drawC E nt cf all σ kσ = some r) : ∃ σ', kσ σ' = some r ∧ ∃ L : Ents, Has cf L ∧ ∀ cf', Has cf' L → ∀ (R' : Type) (k' : St → Option R'), drawC E nt cf' all σ k' = k' σ' := by
  unfold drawC at h
  obtain ⟨hb, h⟩ := bif_some h
  obtain ⟨σ', h, L, hL, he⟩ := drawGo_fin _ _ _ _ h
  exact ⟨σ', h, L, hL, fun cf' hc R' k' => by simp only [drawC, hb, cond_true]; exact he cf' hc R' k'⟩

/-- The drawn regions of a program. -/
def drawF (E : Env) : Fr → (FuncId → List V → Option Ret) → Nat → Array Oper → St → (St → Option Ret) → Option Ret := fun F cf _ all σ k => drawC E F.nt cf all σ k

theorem drawF_fin (E : Env) (F : Fr) : DrawFin (drawF E F) := fun cf rid all σ kσ r h => by
  obtain ⟨σ', h, L, hL, he⟩ := drawC_fin (show drawC E F.nt cf all σ kσ = some r from h)
  exact ⟨σ', h, L, hL, fun cf' hc k' => he cf' hc Ret k'⟩

theorem drawF_ok {E : Env} (hE : EnvOk E) {F : Fr} {call : FuncId → List V → Option Ret} (hcall : SoundCall E call) : DrawOk E F call (drawF E F call) := fun rid all σ kσ r h w0 S0 F0 G tm w Q hp hI hn cont =>
  drawC_sound hE hp hcall h hI hn cont

def envOf (P : Program) (M : FuncId → List Slot) (G : Nat → Option (List V)) : Env := ⟨P, mkTI P, M, fun _ _ => none, G⟩
/-- The evaluation of a program. -/
def sysP (P : Program) (M : FuncId → List Slot) (L : FuncId → Nat → Option (List (Nat × Nat))) (G : Nat → Option (List V)) : Sys := ⟨envOf P M G, fnOf P M, canon, L, drawF (envOf P M G), 100000⟩

theorem envOf_ok {P : Program} {M : FuncId → List Slot} {G : Nat → Option (List V)} (hm : P.follows .mixedOrders = true) : EnvOk (envOf P M G) := ⟨fun t h => mkTI_ok h, hm⟩
theorem sysP_ok {P : Program} {M : FuncId → List Slot} {L : FuncId → Nat → Option (List (Nat × Nat))} {G : Nat → Option (List V)} (hm : P.follows .mixedOrders = true) : SysOk (sysP P M L G) :=
  ⟨envOf_ok hm, fun f F body h => fnOf_ok h, canon_ok, fun F call hcall => drawF_ok (envOf_ok hm) hcall⟩

variable {P : Program} {M : FuncId → List Slot} {L : FuncId → Nat → Option (List (Nat × Nat))} {G : Nat → Option (List V)}
theorem call_eq {f : FuncId} {args : List V} {ret : Ret} (h : (sysP P M L G).enter (sysP P M L G).om f args = some ret) : (sysP P M L G).om.call f args = some ret := om_enter (fun F => drawF_fin _ F) h
theorem lab_eq {f : FuncId} {items : List Item} {ret : Ret} (h : (sysP P M L G).at (sysP P M L G).om f items σ = some ret) : (sysP P M L G).om.lab f items σ = some ret := om_at (fun F => drawF_fin _ F) h
/-- What the evaluation answers, the program does. -/
theorem call_sound (hm : P.follows .mixedOrders = true) : SoundCall (envOf P M G) (sysP P M L G).om.call := om_sound (sysP_ok hm) (fun F => drawF_fin _ F)
end Go.Vk
end

section
namespace Go.Vk
open Go
set_option linter.unusedVariables false
set_option linter.unusedSimpArgs false

/-! The evaluation once more, with calls that pass their continuation on: so that what follows a call lies inside what the call branches into. -/
abbrev CK := FuncId → List V → (Ret → Option Ret) → Option Ret

section
variable (E : Env) (cK : CK)

def callWK (σ : St) (d : Nat) (dst : Option Nat) (f : FuncId) (ts : List Nat) (args : List V) (k : St → Option Ret) : Option Ret :=
  pullL σ (d * 256 + 128) args (E.M f) fun σ1 ids lg =>
  bif distinct ids && (((blanks args (E.M f)).flatMap (idsIn σ1)).all fun a => !memL ids a) && (lg.all fun q => !memL ids q.2.1) then
    argsC E σ1 ts (blanks args (E.M f)) fun args' =>
    treesL σ1 ids fun trees =>
    cK f (fillSlots args' (E.M f) trees) fun ret =>
      bif ret.res.all (·.2.isDp) then
        backL σ1 ids ret.outs fun σ2 =>
        pushL σ2 lg fun σ3 =>
        let p := promL (d * 256) ret.res
        bif p.2.all (fun q => σ3.free q.1) && distinct (p.2.map (·.1)) then k ((σ3.putL p.2).put dst (tupOf p.1)) else none
      else none
  else none

def callCK (σ : St) (d : Nat) (dst : Option Nat) (f : FuncId) (ts : List Nat) (args : List V) (k : St → Option Ret) : Option Ret :=
  bif !(E.M f).isEmpty then callWK E cK σ d dst f ts args k else
  argsC E σ ts args fun args' =>
  cK f args' fun ret =>
    let p := promL (d * 256) ret.res
    let σ := bif ret.res.all (·.2.isDp) then σ else freezeL σ (args.flatMap (idsIn σ))
    bif p.2.all (fun q => σ.free q.1) && distinct (p.2.map (·.1)) && ret.outs.isEmpty then k ((σ.putL p.2).put dst (tupOf p.1)) else none

def callXK (σ : St) (dst : Option Nat) (c : Call) (k : St → Option Ret) : Option Ret :=
  match c.callee with
  | .value g => match E.ev σ 0 g with
    | .fn f caps => callCK E cK σ (match dst with | some d => d | none => 0) dst f c.argTypes.toList (evs E σ c.args.toList c.argTypes.toList ++ caps) k
    | _ => none
  | _ => callX E (fun _ _ => none) σ dst c k

def opCK (o : Oper) (σ : St) (k : St → Option Ret) : Option Ret :=
  match o.op with
  | .call c => callXK E cK σ o.dst c k
  | _ => opC E (fun _ _ => none) o σ k

def opsCK (nt : Nat) (all : Array Oper) : List Oper → St → (St → Option Ret) → Option Ret
  | [], σ, k => k σ
  | o :: os, σ, k =>
    bif !dstIn nt o.dst then none else
    match o.guard with
    | none => opCK E cK o σ fun σ' => opsCK nt all os σ' k
    | some (j, want) =>
      match (all[j]?).bind (·.dst) with
      | some g => match σ.tmp g with
        | .bool b => bif b then
            (bif want then opCK E cK o (σ.put (some g) (.bool true)) fun σ' => opsCK nt all os σ' k
             else opsCK nt all os ((σ.put (some g) (.bool true)).put o.dst (.tup [])) k)
          else
            (bif want then opsCK nt all os ((σ.put (some g) (.bool false)).put o.dst (.tup [])) k
             else opCK E cK o (σ.put (some g) (.bool false)) fun σ' => opsCK nt all os σ' k)
        | .tup [] => opsCK nt all os (σ.put o.dst (.tup [])) k
        | _ => none
      | none => none

def drawGoK (all : Array Oper) : Nat → List Oper → St → List (Nat × List Nat × List Nat) → (St → Option Ret) → Option Ret
  | _, [], σ, acc, k => bif pairsOk all acc then k σ else none
  | i, o :: os, σ, acc, k =>
    match o.guard with
    | none => opCK E cK o σ fun σ' => drawGoK all (i + 1) os σ' ((i, lookO σ o, touched σ σ') :: acc) k
    | some (j, want) =>
      match (all[j]?).bind (·.dst) with
      | some g => match σ.tmp g with
        | .bool b => bif b then
            (bif want then opCK E cK o (σ.put (some g) (.bool true)) fun σ' => drawGoK all (i + 1) os σ' ((i, lookO (σ.put (some g) (.bool true)) o, touched (σ.put (some g) (.bool true)) σ') :: acc) k
             else drawGoK all (i + 1) os ((σ.put (some g) (.bool true)).put o.dst (.tup [])) ((i, [], []) :: acc) k)
          else
            (bif want then drawGoK all (i + 1) os ((σ.put (some g) (.bool false)).put o.dst (.tup [])) ((i, [], []) :: acc) k
             else opCK E cK o (σ.put (some g) (.bool false)) fun σ' => drawGoK all (i + 1) os σ' ((i, lookO (σ.put (some g) (.bool false)) o, touched (σ.put (some g) (.bool false)) σ') :: acc) k)
        | .tup [] => drawGoK all (i + 1) os (σ.put o.dst (.tup [])) ((i, [], []) :: acc) k
        | _ => none
      | none => none
def drawCK (nt : Nat) (all : Array Oper) (σ : St) (k : St → Option Ret) : Option Ret :=
  bif staticOk nt all then drawGoK E cK all 0 all.toList σ [] k else none

variable (cn : Canon) (L : FuncId → Nat → Option (List (Nat × Nat))) (F : Fr) (lab : FuncId → List Item → St → Option Ret)

def toLabK (l : Option (List (Nat × Nat))) (items : List Item) (σ : St) (other : Option Ret) : Option Ret :=
  match l with
  | some live => match cn (live ++ F.ws.map fun id => (id, 2)) σ with | some σ' => lab F.f items σ' | none => none
  | none => other
def arriveK (self : List Item → St → Option Ret) (items : List Item) (σ : St) : Option Ret :=
  match items with
  | .code b :: _ => toLabK cn F lab (L F.f (2 * keyOf b + 1)) items σ (self items σ)
  | _ => self items σ

noncomputable def stepCK (self : List Item → St → Option Ret) : List Item → St → Option Ret
  | [], σ => leave E F σ
  | .code .skip :: k, σ => arriveK cn L F lab self k σ
  | .code (.label _) :: k, σ => arriveK cn L F lab self k σ
  | .code (.region id ops dr) :: k, σ => bif dr then drawCK E cK F.nt ops σ fun σ' => arriveK cn L F lab self k σ' else opsCK E cK F.nt ops ops.toList σ fun σ' => arriveK cn L F lab self k σ'
  | .code (.seq a b) :: k, σ => self (.code a :: .code b :: k) σ
  | .code (.cond c a b) :: k, σ => match E.ev σ 4 c with
    | .bool t => bif t then self (.code a :: k) σ else self (.code b :: k) σ
    | .ub => both (self (.code a :: k) σ) (self (.code b :: k) σ)
    | _ => none
  | .code (.block id c) :: k, σ => self (.code c :: .inBlock id :: k) σ
  | .code (.loop c) :: k, σ => toLabK cn F lab (L F.f (2 * keyOf c)) (.code c :: .inLoop c :: k) σ none
  | .code (.exit id) :: k, σ => match exitTo id k with | some k' => arriveK cn L F lab self k' σ | none => none
  | .code .ret :: _, σ => leave E F σ
  | .inBlock _ :: k, σ => arriveK cn L F lab self k σ
  | .inLoop c :: k, σ => toLabK cn F lab (L F.f (2 * keyOf c)) (.code c :: .inLoop c :: k) σ none
  | _, _ => none

noncomputable def goCK : Nat → List Item → St → Option Ret
  | 0, _, _ => none
  | n + 1, items, σ => stepCK E cK cn L F lab (goCK n) items σ
end

/-- Answers that the tables give too. -/
def GoodK (cK : CK) (cf : FuncId → List V → Option Ret) : Prop := ∀ g args k r, cK g args k = some r → ∃ ret, cf g args = some ret ∧ k ret = some r
def GoodL (lK lab : FuncId → List Item → St → Option Ret) : Prop := ∀ f items σ r, lK f items σ = some r → lab f items σ = some r

section
variable {E : Env} {cK : CK} {cf : FuncId → List V → Option Ret} {σ : St} {kσ : St → Option Ret} {r : Ret} {all : Array Oper}

/-- What a step does, whatever follows. -/
def Does (f : (St → Option Ret) → Option Ret) (kσ : St → Option Ret) (r : Ret) : Prop := ∃ σ', kσ σ' = some r ∧ ∀ k', f k' = k' σ'

theorem callWK_does (hg : GoodK cK cf) {d : Nat} {dst : Option Nat} {f : FuncId} {ts : List Nat} {args : List V} (h : callWK E cK σ d dst f ts args kσ = some r) : Does (callW E cf σ d dst f ts args) kσ r := by
  unfold callWK at h
  obtain ⟨D1, ids, lg, h, _, _, _, e1⟩ := pullL_loc _ _ _ _ h
  obtain ⟨hb, h⟩ := bif_some h
  obtain ⟨args', h, e2⟩ := argsC_loc _ _ _ h
  obtain ⟨trees, h, e3⟩ := treesL_loc _ _ h
  obtain ⟨ret, hcf, h⟩ := hg _ _ _ _ h
  obtain ⟨hdp, h⟩ := bif_some h
  obtain ⟨D2, h, _, e4⟩ := backL_loc _ _ _ h
  obtain ⟨D3, h, _, e5⟩ := pushL_loc _ _ h
  obtain ⟨hfr, h⟩ := bif_some h
  refine ⟨_, h, fun k' => ?_⟩
  unfold callW
  rw [e1 σ .rfl']
  simp only [hb, cond_true]
  rw [e2 _ .rfl', e3 _ .rfl']
  simp only [hcf, hdp, cond_true]
  rw [e4 _ .rfl', e5 _ (fun _ _ => .rfl')]
  simp only [hfr, cond_true]

theorem callCK_does (hg : GoodK cK cf) {d : Nat} {dst : Option Nat} {f : FuncId} {ts : List Nat} {args : List V} (h : callCK E cK σ d dst f ts args kσ = some r) : Does (callC E cf σ d dst f ts args) kσ r := by
  unfold callCK at h
  cases hM : (E.M f).isEmpty with
  | false =>
    rw [hM] at h
    simp only [Bool.not_false, cond_true] at h
    obtain ⟨σ', h, he⟩ := callWK_does hg h
    exact ⟨σ', h, fun k' => by unfold callC; rw [hM]; simp only [Bool.not_false, cond_true]; exact he k'⟩
  | true =>
    rw [hM] at h
    simp only [Bool.not_true, cond_false] at h
    obtain ⟨args', h, e2⟩ := argsC_loc _ _ _ h
    obtain ⟨ret, hcf, h⟩ := hg _ _ _ _ h
    obtain ⟨hb, h⟩ := bif_some h
    refine ⟨_, h, fun k' => ?_⟩
    unfold callC
    rw [hM]
    simp only [Bool.not_true, cond_false]
    rw [e2 _ .rfl']
    simp only [hcf, hb, cond_true]

theorem opC_does {o : Oper} (h : opC E (fun _ _ => none) o σ kσ = some r) : Does (opC E cf o σ) kσ r := by
  obtain ⟨σ', h, L, hL, he⟩ := opC_fin h
  cases L with
  | nil => exact ⟨σ', h, fun k' => he cf (fun e he => by cases he) Ret k'⟩
  | cons e L => have := hL e (by simp); cases this

theorem opCK_does (hg : GoodK cK cf) {o : Oper} (h : opCK E cK o σ kσ = some r) : Does (opC E cf o σ) kσ r := by
  unfold opCK at h
  split at h
  · rename_i c hop
    unfold callXK at h
    split at h
    · rename_i g hcg
      split at h
      · rename_i f caps hev
        obtain ⟨σ', h, he⟩ := callCK_does hg h
        refine ⟨σ', h, fun k' => ?_⟩
        unfold opC
        simp only [hop]
        unfold callX
        simp only [hcg, hev]
        exact he k'
      · cases h
    · refine opC_does ?_
      unfold opC
      simp only [hop]
      exact h
  · exact opC_does h

theorem opsCK_does (hg : GoodK cK cf) {nt : Nat} : ∀ (os : List Oper) (σ : St), opsCK E cK nt all os σ kσ = some r → Does (opsC E cf nt all os σ) kσ r
  | [], σ, h => ⟨σ, h, fun _ => rfl⟩
  | o :: os, σ, h => by
    simp only [opsCK] at h
    obtain ⟨hd, h⟩ := bif_none h
    have go : ∀ σ1, opCK E cK o σ1 (fun σ' => opsCK E cK nt all os σ' kσ) = some r → ∃ σ', kσ σ' = some r ∧ ∀ k' : St → Option Ret, opC E cf o σ1 (fun σ' => opsC E cf nt all os σ' k') = k' σ' := by
      intro σ1 h
      obtain ⟨σ2, h, he⟩ := opCK_does hg h
      obtain ⟨σ3, h, he'⟩ := opsCK_does hg os σ2 h
      exact ⟨σ3, h, fun k' => by rw [he, he']⟩
    cases hgd : o.guard with
    | none =>
      rw [hgd] at h
      obtain ⟨σ', h, he⟩ := go σ h
      exact ⟨σ', h, fun k' => by simp only [opsC, hd, cond_false, hgd]; exact he k'⟩
    | some p =>
      obtain ⟨j, want⟩ := p
      rw [hgd] at h
      simp only at h
      cases hgt : (all[j]?).bind (·.dst) with
      | none => rw [hgt] at h; cases h
      | some g =>
        rw [hgt] at h
        simp only at h
        cases hv : σ.tmp g with
        | bool b =>
          rw [hv] at h
          simp only at h
          cases b with
          | true =>
            cases want with
            | true =>
              simp only [cond_true] at h
              obtain ⟨σ', h, he⟩ := go _ h
              exact ⟨σ', h, fun k' => by simp only [opsC, hd, cond_false, hgd, hgt, hv, cond_true]; exact he k'⟩
            | false =>
              simp only [cond_true, cond_false] at h
              obtain ⟨σ', h, he⟩ := opsCK_does hg os _ h
              exact ⟨σ', h, fun k' => by simp only [opsC, hd, cond_false, hgd, hgt, hv, cond_true]; exact he k'⟩
          | false =>
            cases want with
            | true =>
              simp only [cond_true, cond_false] at h
              obtain ⟨σ', h, he⟩ := opsCK_does hg os _ h
              exact ⟨σ', h, fun k' => by simp only [opsC, hd, cond_false, hgd, hgt, hv, cond_true]; exact he k'⟩
            | false =>
              simp only [cond_false] at h
              obtain ⟨σ', h, he⟩ := go _ h
              exact ⟨σ', h, fun k' => by simp only [opsC, hd, cond_false, hgd, hgt, hv, cond_true]; exact he k'⟩
        | tup cs =>
          rw [hv] at h
          cases cs with
          | cons _ _ => cases h
          | nil =>
            simp only at h
            obtain ⟨σ', h, he⟩ := opsCK_does hg os _ h
            exact ⟨σ', h, fun k' => by simp only [opsC, hd, cond_false, hgd, hgt, hv]; exact he k'⟩
        | _ => rw [hv] at h; cases h

theorem drawGoK_does (hg : GoodK cK cf) : ∀ (os : List Oper) (i : Nat) (σ : St) (acc : List (Nat × List Nat × List Nat)), drawGoK E cK all i os σ acc kσ = some r → Does (drawGo E cf all i os σ acc) kσ r
  | [], i, σ, acc, h => by
    obtain ⟨hb, h⟩ := bif_some h
    exact ⟨σ, h, fun _ => by simp only [drawGo, hb, cond_true]⟩
  | o :: os, i, σ, acc, h => by
    have go : ∀ σ1, opCK E cK o σ1 (fun σ' => drawGoK E cK all (i + 1) os σ' ((i, lookO σ1 o, touched σ1 σ') :: acc) kσ) = some r → ∃ σ', kσ σ' = some r ∧ ∀ k' : St → Option Ret, opC E cf o σ1 (fun σ' => drawGo E cf all (i + 1) os σ' ((i, lookO σ1 o, touched σ1 σ') :: acc) k') = k' σ' := by
      intro σ1 h
      obtain ⟨σ2, h, he⟩ := opCK_does hg h
      obtain ⟨σ3, h, he'⟩ := drawGoK_does hg os (i + 1) σ2 _ h
      exact ⟨σ3, h, fun k' => by rw [he, he']⟩
    simp only [drawGoK] at h
    cases hgd : o.guard with
    | none =>
      rw [hgd] at h
      obtain ⟨σ', h, he⟩ := go σ h
      exact ⟨σ', h, fun k' => by simp only [drawGo, hgd]; exact he k'⟩
    | some p =>
      obtain ⟨j, want⟩ := p
      rw [hgd] at h
      simp only at h
      cases hgt : (all[j]?).bind (·.dst) with
      | none => rw [hgt] at h; cases h
      | some g =>
        rw [hgt] at h
        simp only at h
        cases hv : σ.tmp g with
        | bool b =>
          rw [hv] at h
          simp only at h
          cases b with
          | true =>
            cases want with
            | true =>
              simp only [cond_true] at h
              obtain ⟨σ', h, he⟩ := go _ h
              exact ⟨σ', h, fun k' => by simp only [drawGo, hgd, hgt, hv, cond_true]; exact he k'⟩
            | false =>
              simp only [cond_true, cond_false] at h
              obtain ⟨σ', h, he⟩ := drawGoK_does hg os (i + 1) _ _ h
              exact ⟨σ', h, fun k' => by simp only [drawGo, hgd, hgt, hv, cond_true, cond_false]; exact he k'⟩
          | false =>
            cases want with
            | true =>
              simp only [cond_true, cond_false] at h
              obtain ⟨σ', h, he⟩ := drawGoK_does hg os (i + 1) _ _ h
              exact ⟨σ', h, fun k' => by simp only [drawGo, hgd, hgt, hv, cond_true, cond_false]; exact he k'⟩
            | false =>
              simp only [cond_false] at h
              obtain ⟨σ', h, he⟩ := go _ h
              exact ⟨σ', h, fun k' => by simp only [drawGo, hgd, hgt, hv, cond_false]; exact he k'⟩
        | tup cs =>
          rw [hv] at h
          cases cs with
          | cons _ _ => cases h
          | nil =>
            simp only at h
            obtain ⟨σ', h, he⟩ := drawGoK_does hg os (i + 1) _ _ h
            exact ⟨σ', h, fun k' => by simp only [drawGo, hgd, hgt, hv]; exact he k'⟩
        | _ => rw [hv] at h; cases h

theorem drawCK_does (hg : GoodK cK cf) {nt : Nat} (h : drawCK E cK nt all σ kσ = some r) : Does (drawC E nt cf all σ) kσ r := by
  unfold drawCK at h
  obtain ⟨hb, h⟩ := bif_some h
  obtain ⟨σ', h, he⟩ := drawGoK_does hg _ _ _ _ h
  exact ⟨σ', h, fun k' => by simp only [drawC, hb, cond_true]; exact he k'⟩

theorem goCK_ok {cn : Canon} {L : FuncId → Nat → Option (List (Nat × Nat))} {F : Fr} {T : Tabs} {lK : FuncId → List Item → St → Option Ret} (hg : GoodK cK T.call) (hl : GoodL lK T.lab) :
    ∀ (n : Nat) (items : List Item) (σ : St) (r : Ret), goCK E cK cn L F lK n items σ = some r → goC cn E L F T (drawF E F T.call) n items σ = some r
  | 0, items, σ, r, h => by cases h
  | n + 1, items, σ, r, h => by
    have ih := goCK_ok (L := L) (cn := cn) (F := F) hg hl n
    have tl : ∀ (l : Option (List (Nat × Nat))) (items : List Item) (σ : St) (o1 o2 : Option Ret), (o1 = some r → o2 = some r) → toLabK cn F lK l items σ o1 = some r → toLab cn F T l items σ o2 = some r := by
      intro l items σ o1 o2 ho h
      unfold toLabK at h
      unfold toLab
      cases l with
      | none => exact ho h
      | some live =>
        simp only at h ⊢
        cases hc : cn (live ++ F.ws.map fun id => (id, 2)) σ with
        | none => rw [hc] at h; cases h
        | some σ' => rw [hc] at h; exact hl _ _ _ _ h
    have ar : ∀ (items : List Item) (σ : St), arriveK cn L F lK (goCK E cK cn L F lK n) items σ = some r → arrive cn L F T (goC cn E L F T (drawF E F T.call) n) items σ = some r := by
      intro items σ h
      unfold arriveK at h
      unfold arrive
      split at h
      · exact tl _ _ _ _ _ (ih _ _ _) h
      · rename_i hne
        split
        · rename_i b k; exact (hne b k rfl).elim
        · exact ih _ _ _ h
    simp only [goCK] at h
    simp only [goC]
    unfold stepCK at h
    unfold stepC
    split at h
    · exact h
    · exact ar _ _ h
    · exact ar _ _ h
    · rename_i rid ops dr k
      cases dr with
      | true =>
        simp only [cond_true] at h ⊢
        obtain ⟨σ', h, he⟩ := drawCK_does hg h
        show drawC E F.nt T.call ops σ _ = some r
        rw [he]; exact ar _ _ h
      | false =>
        simp only [cond_false] at h ⊢
        obtain ⟨σ', h, he⟩ := opsCK_does hg _ _ h
        rw [he]; exact ar _ _ h
    · exact ih _ _ _ h
    · rename_i c x y k
      cases hv : E.ev σ 4 c with
      | bool t =>
        rw [hv] at h
        simp only [hv] at h ⊢
        cases t with
        | true => exact ih _ _ _ h
        | false => exact ih _ _ _ h
      | ub =>
        rw [hv] at h
        simp only [hv] at h ⊢
        obtain ⟨h1, b, h2, hag⟩ := both_some h
        exact both_of (ih _ _ _ h1) (ih _ _ _ h2) hag
      | _ => rw [hv] at h; cases h
    · exact ih _ _ _ h
    · exact tl _ _ _ _ _ (fun h => h) h
    · split at h
      · rename_i hx; simp only [hx]; exact ar _ _ h
      · cases h
    · exact h
    · exact ar _ _ h
    · exact tl _ _ _ _ _ (fun h => h) h
    · cases h
end

section
variable (P : Program) (M : FuncId → List Slot) (L : FuncId → Nat → Option (List (Nat × Nat))) (G : Nat → Option (List V))
/-- A call's body, from its beginning. -/
noncomputable def enterK (cK : CK) (lK : FuncId → List Item → St → Option Ret) (f : FuncId) (args : List V) : Option Ret := match fnOf P M f with
  | some (F, body) => bif Nat.ble args.length F.nt then (match entryM F.nt (M f) args with | some σ => goCK (envOf P M G) cK canon L F lK 100000 [.code body] σ | none => none) else none
  | none => none
/-- .. and from a named place. -/
noncomputable def atK (cK : CK) (lK : FuncId → List Item → St → Option Ret) (f : FuncId) (items : List Item) (σ : St) : Option Ret := match fnOf P M f with
  | some (F, _) => goCK (envOf P M G) cK canon L F lK 100000 items σ
  | none => none

variable {P M L G}
theorem enterK_ok {cK : CK} {lK : FuncId → List Item → St → Option Ret} (hg : GoodK cK (sysP P M L G).om.call) (hl : GoodL lK (sysP P M L G).om.lab) {f : FuncId} {args : List V} {ret : Ret} (h : enterK P M L G cK lK f args = some ret) : (sysP P M L G).om.call f args = some ret := by
  refine call_eq ?_
  unfold enterK at h
  unfold Sys.enter
  show (match fnOf P M f with | some (F, body) => _ | none => none) = some ret
  cases hf : fnOf P M f with
  | none => rw [hf] at h; cases h
  | some p =>
    obtain ⟨F, body⟩ := p
    rw [hf] at h
    simp only at h ⊢
    obtain ⟨hb, h⟩ := bif_some h
    rw [hb]
    simp only [cond_true]
    show (match entryM F.nt (M f) args with | some σ => _ | none => none) = some ret
    cases he : entryM F.nt (M f) args with
    | none => rw [he] at h; cases h
    | some σ => rw [he] at h; exact goCK_ok hg hl _ _ _ _ h

theorem atK_ok {cK : CK} {lK : FuncId → List Item → St → Option Ret} (hg : GoodK cK (sysP P M L G).om.call) (hl : GoodL lK (sysP P M L G).om.lab) {f : FuncId} {items : List Item} {σ : St} {ret : Ret} (h : atK P M L G cK lK f items σ = some ret) : (sysP P M L G).om.lab f items σ = some ret := by
  refine lab_eq ?_
  unfold atK at h
  unfold Sys.at
  show (match fnOf P M f with | some (F, _) => _ | none => none) = some ret
  cases hf : fnOf P M f with
  | none => rw [hf] at h; cases h
  | some p =>
    obtain ⟨F, body⟩ := p
    rw [hf] at h
    exact goCK_ok hg hl _ _ _ _ h
end
end Go.Vk
end

section
namespace Go.Vk
open Go
set_option linter.unusedVariables false
set_option linter.unusedSimpArgs false

/-! Typed results of calls. -/
/-- A slice as a length and its elements. -/
structure Sl (α : Type) where
  n : Nat
  get : Nat → α

inductive Ty where
  | int (k : IntKind)
  | bool
  | str
  | pair (a b : Ty)
  | sl (e : Ty)

@[reducible] def Ty.T : Ty → Type
  | .int _ => Int
  | .bool => Bool
  | .str => ByteArray
  | .pair a b => a.T × b.T
  | .sl e => Sl e.T

def Ty.sz : Ty → Nat
  | .pair a b => a.sz + b.sz
  | _ => 1
def Ty.flat : Ty → Bool
  | .pair a b => a.flat && b.flat
  | .sl _ => false
  | _ => true

/-- The cells of a value. -/
def Ty.cells : (t : Ty) → t.T → List V
  | .int k, n => [.int k n]
  | .bool, b => [.bool b]
  | .str, s => [.str s]
  | .pair a b, x => a.cells x.1 ++ b.cells x.2
  | .sl e, s => [.sl e.sz e.flat none none s.n (fun i => e.cells (s.get i))]

theorem Ty.len : ∀ (t : Ty) (x : t.T), (t.cells x).length = t.sz
  | .int _, _ => rfl
  | .bool, _ => rfl
  | .str, _ => rfl
  | .pair a b, x => by simp [cells, sz, Ty.len a, Ty.len b]
  | .sl _, _ => rfl

theorem Ty.inj : ∀ (t : Ty) (x y : t.T), t.cells x = t.cells y → x = y
  | .int _, x, y, h => by simp only [cells, List.cons.injEq, and_true] at h; injection h
  | .bool, x, y, h => by simp only [cells, List.cons.injEq, and_true] at h; injection h
  | .str, x, y, h => by simp only [cells, List.cons.injEq, and_true] at h; injection h
  | .pair a b, (x1, x2), (y1, y2), h => by
    have h1 : a.cells x1 ++ b.cells x2 = a.cells y1 ++ b.cells y2 := h
    obtain ⟨h2, h3⟩ := List.append_inj h1 (by rw [Ty.len, Ty.len])
    rw [Ty.inj a _ _ h2, Ty.inj b _ _ h3]
  | .sl e, ⟨n, g⟩, ⟨m, k⟩, h => by
    simp only [cells, List.cons.injEq, and_true] at h
    injection h with _ _ _ _ h1 h2
    subst h1
    have : g = k := funext fun i => Ty.inj e _ _ (congrFun h2 i)
    rw [this]

/-- A value handed over: a struct, or one cell. -/
def Ty.val (agg : Bool) (t : Ty) (x : t.T) : V := match agg with | true => .agg (t.cells x) | false => cellAt (t.cells x) 0
def Ty.valOk (agg : Bool) (t : Ty) : Prop := agg = false → t.sz = 1 ∧ ∀ a b, t ≠ .pair a b

structure RT where
  agg : Bool
  t : Ty
  own : Own

@[reducible] def RsT : List RT → Type
  | [] => Unit
  | r :: l => r.t.T × RsT l
def RsE : (l : List RT) → RsT l → List (V × Own)
  | [], _ => []
  | r :: l, x => (r.t.val r.agg x.1, r.own) :: RsE l x.2
@[reducible] def OsT : List Ty → Type
  | [] => Unit
  | t :: l => t.T × OsT l
def OsE : (l : List Ty) → OsT l → List V
  | [], _ => []
  | t :: l, x => t.val false x.1 :: OsE l x.2

/-- What a function gives back. -/
structure Sig where
  rs : List RT
  os : List Ty
@[reducible] def Sig.T (s : Sig) : Type := RsT s.rs × OsT s.os
def Sig.E (s : Sig) (x : s.T) : Ret := ⟨RsE s.rs x.1, OsE s.os x.2⟩

def one : Ty → Bool
  | .pair _ _ => false
  | _ => true
def Sig.good (s : Sig) : Bool := s.rs.all (fun r => r.agg || one r.t) && s.os.all one

theorem cells_one : ∀ (t : Ty) (x : t.T), one t = true → ∃ c, t.cells x = [c]
  | .int _, _, _ => ⟨_, rfl⟩
  | .bool, _, _ => ⟨_, rfl⟩
  | .str, _, _ => ⟨_, rfl⟩
  | .sl _, _, _ => ⟨_, rfl⟩
  | .pair _ _, _, h => by cases h

theorem val_inj {agg : Bool} {t : Ty} (h : (agg || one t) = true) {x y : t.T} (e : t.val agg x = t.val agg y) : x = y := by
  cases agg with
  | true => simp only [Ty.val] at e; injection e with e; exact t.inj _ _ e
  | false =>
    have h : one t = true := by simpa using h
    obtain ⟨c, hc⟩ := cells_one t x h
    obtain ⟨d, hd⟩ := cells_one t y h
    simp only [Ty.val, hc, hd, cellAt] at e
    have e : c = d := e
    exact t.inj _ _ (by rw [hc, hd, e])

theorem RsE_inj : ∀ (l : List RT), l.all (fun r => r.agg || one r.t) = true → ∀ x y : RsT l, RsE l x = RsE l y → x = y
  | [], _, _, _, _ => rfl
  | r :: l, h, (x1, x2), (y1, y2), e => by
    simp only [List.all_cons, Bool.and_eq_true] at h
    simp only [RsE, List.cons.injEq, Prod.mk.injEq, and_true] at e
    rw [val_inj h.1 e.1, RsE_inj l h.2 _ _ e.2]
theorem OsE_inj : ∀ (l : List Ty), l.all one = true → ∀ x y : OsT l, OsE l x = OsE l y → x = y
  | [], _, _, _, _ => rfl
  | r :: l, h, (x1, x2), (y1, y2), e => by
    simp only [List.all_cons, Bool.and_eq_true] at h
    simp only [OsE, List.cons.injEq] at e
    rw [val_inj (agg := false) (by simpa using h.1) e.1, OsE_inj l h.2 _ _ e.2]
theorem Sig.inj {s : Sig} (h : s.good = true) {x y : s.T} (e : s.E x = s.E y) : x = y := by
  simp only [Sig.good, Bool.and_eq_true] at h
  simp only [Sig.E, Ret.mk.injEq] at e
  exact Prod.ext (RsE_inj _ h.1 _ _ e.1) (OsE_inj _ h.2 _ _ e.2)

open Classical in
/-- A call, by what it gives back. -/
noncomputable def callG (cf : FuncId → List V → Option Ret) (s : Sig) (g : FuncId) (args : List V) (k : s.T → Option Ret) : Option Ret :=
  if h : ∃ x, cf g args = some (s.E x) then k h.choose else none

theorem callG_eq {cf : FuncId → List V → Option Ret} {s : Sig} (hs : s.good = true) {g : FuncId} {args : List V} {x : s.T} (h : cf g args = some (s.E x)) (k : s.T → Option Ret) : callG cf s g args k = k x := by
  have hx : ∃ x, cf g args = some (s.E x) := ⟨x, h⟩
  unfold callG
  rw [dif_pos hx]
  have e : s.E x = s.E hx.choose := Option.some.inj (h.symm.trans hx.choose_spec)
  rw [← Sig.inj hs e]

theorem callG_some {cf : FuncId → List V → Option Ret} {s : Sig} {g : FuncId} {args : List V} {k : s.T → Option Ret} {r : Ret} (h : callG cf s g args k = some r) : ∃ x, cf g args = some (s.E x) ∧ k x = some r := by
  unfold callG at h
  split at h
  · rename_i hx; exact ⟨_, hx.choose_spec, h⟩
  · cases h

/-- The table of calls, by what each gives back. -/
noncomputable def tabK (sg : FuncId → Option Sig) (cf : FuncId → List V → Option Ret) : CK := fun g args k => match sg g with
  | some s => callG cf s g args fun x => k (s.E x)
  | none => none

theorem tabK_good {sg : FuncId → Option Sig} {cf : FuncId → List V → Option Ret} : GoodK (tabK sg cf) cf := fun g args k r h => by
  unfold tabK at h
  cases hs : sg g with
  | none => rw [hs] at h; cases h
  | some s =>
    rw [hs] at h
    obtain ⟨x, h1, h2⟩ := callG_some h
    exact ⟨_, h1, h2⟩
end Go.Vk
end

section
namespace Go.Vk
open Go
set_option linter.unusedVariables false
/-- A slice handed over by value. -/
abbrev svl (e : Ty) (s : Sl e.T) : V := .sl e.sz e.flat none none s.n (fun i => e.cells (s.get i))
abbrev tI : Ty := .int .i64
/-- What is still to be done from a named place on. -/
def findL (key : Nat) : Code → List Item → Option (List Item)
  | .seq a b, k => match findL key a (.code b :: k) with
    | some s => some s
    | none => match Nat.beq key (2 * keyOf b + 1) with | true => some (.code b :: k) | false => findL key b k
  | .cond _ a b, k => match findL key a k with | some s => some s | none => findL key b k
  | .block id c, k => findL key c (.inBlock id :: k)
  | .loop c, k => match Nat.beq key (2 * keyOf c) with | true => some (.code c :: .inLoop c :: k) | false => findL key c (.inLoop c :: k)
  | _, _ => none
def stk (P : Program) (f key : Nat) : List Item := match P.funcs[f]? with
  | some fn => match fn.body with
    | some c => (match findL key c [] with | some s => s | none => [])
    | none => []
  | none => []
def sigOf (l : List (Nat × Sig)) (f : FuncId) : Option Sig := look l f
def liveOf (l : List (Nat × List (Nat × List (Nat × Nat)))) (f : FuncId) (key : Nat) : Option (List (Nat × Nat)) := match look l f with
  | some m => look m key
  | none => none
def slotsOf (l : List (Nat × List Slot)) (f : FuncId) : List Slot := match look l f with
  | some m => m
  | none => []
end Go.Vk
end

section
namespace Go.Vk
open Go
set_option linter.unusedVariables false
set_option linter.unusedSimpArgs false

/-- 'if' on typed values, part by part. -/
def Ty.bif : (t : Ty) → Bool → t.T → t.T → t.T
  | .int _, c, (x : Int), (y : Int) => (bif c then x else y : Int)
  | .bool, c, (x : Bool), (y : Bool) => (bif c then x else y : Bool)
  | .str, c, (x : ByteArray), (y : ByteArray) => (bif c then x else y : ByteArray)
  | .pair a b, c, x, y => (a.bif c x.1 y.1, b.bif c x.2 y.2)
  | .sl e, c, x, y => (⟨bif c then x.n else y.n, fun i => e.bif c (x.get i) (y.get i)⟩ : Sl e.T)

theorem Ty.bif_true : ∀ (t : Ty) (x y : t.T), t.bif true x y = x
  | .int _, _, _ => rfl
  | .bool, _, _ => rfl
  | .str, _, _ => rfl
  | .pair a b, x, y => by show (_, _) = _; rw [Ty.bif_true a, Ty.bif_true b]
  | .sl e, x, y => by
    show (⟨_, _⟩ : Sl e.T) = _
    have : (fun i => e.bif true (x.get i) (y.get i)) = x.get := funext fun i => Ty.bif_true e _ _
    rw [this]; rfl
theorem Ty.bif_false : ∀ (t : Ty) (x y : t.T), t.bif false x y = y
  | .int _, _, _ => rfl
  | .bool, _, _ => rfl
  | .str, _, _ => rfl
  | .pair a b, x, y => by show (_, _) = _; rw [Ty.bif_false a, Ty.bif_false b]
  | .sl e, x, y => by
    show (⟨_, _⟩ : Sl e.T) = _
    have : (fun i => e.bif false (x.get i) (y.get i)) = y.get := funext fun i => Ty.bif_false e _ _
    rw [this]; rfl
theorem Ty.bif_eq (t : Ty) (c : Bool) (x y : t.T) : t.bif c x y = bif c then x else y := by
  cases c
  · exact Ty.bif_false t x y
  · exact Ty.bif_true t x y

/-- The entry of a table. -/
def Ty.sel : (t : Ty) → List t.T → Nat → t.T
  | .int _, xs, i => (List.getD xs i (0 : Int) : Int)
  | .bool, xs, i => (List.getD xs i false : Bool)
  | .str, xs, i => (List.getD xs i ByteArray.empty : ByteArray)
  | .pair a b, xs, i => (a.sel (xs.map fun p => p.1) i, b.sel (xs.map fun p => p.2) i)
  | .sl e, xs, i => (⟨(xs.map fun p => p.n).getD i 0, fun q => e.sel (xs.map fun p => p.get q) i⟩ : Sl e.T)
theorem Ty.sel_at : ∀ (t : Ty) (xs : List t.T) {i : Nat} (h : i < xs.length), t.sel xs i = xs[i]
  | .int _, xs, i, h => by show List.getD xs i (0 : Int) = _; exact (List.getElem_eq_getD _).symm
  | .bool, xs, i, h => by show List.getD xs i false = _; exact (List.getElem_eq_getD _).symm
  | .str, xs, i, h => by show List.getD xs i ByteArray.empty = _; exact (List.getElem_eq_getD _).symm
  | .pair a b, xs, i, h => by
    show (_, _) = _
    rw [Ty.sel_at a _ (by simpa using h), Ty.sel_at b _ (by simpa using h)]
    simp only [List.getElem_map]
  | .sl e, xs, i, h => by
    show (⟨_, _⟩ : Sl e.T) = _
    have : (fun q => e.sel (xs.map fun p => p.get q) i) = xs[i].get := funext fun q => by
      rw [Ty.sel_at e _ (by simpa using h)]; simp
    rw [this]
    have e2 : (xs.map fun p => p.n).getD i 0 = xs[i].n := by
      rw [← List.getElem_eq_getD (h := by simpa using h)]; simp
    rw [e2]

def Sl.set (e : Ty) (s : Sl e.T) (i : Nat) (x : e.T) : Sl e.T := ⟨s.n, fun k => e.bif (Nat.beq k i) x (s.get k)⟩
def Sl.app (e : Ty) (a b : Sl e.T) : Sl e.T := ⟨a.n + b.n, fun k => e.bif (Nat.blt k a.n) (a.get k) (b.get (k - a.n))⟩
def Sl.part (e : Ty) (s : Sl e.T) (o l : Nat) (z : e.T) : Sl e.T := ⟨l, fun k => e.bif (Nat.blt k l) (s.get (o + k)) z⟩
def Sl.lit (e : Ty) (xs : List e.T) : Sl e.T := ⟨xs.length, fun k => e.sel xs k⟩

/-- As a list, and all that lies below as lists. -/
@[reducible] def Ty.L : Ty → Type
  | .int _ => Int
  | .bool => Bool
  | .str => ByteArray
  | .pair a b => a.L × b.L
  | .sl e => List e.L
def Ty.toL : (t : Ty) → t.T → t.L
  | .int _, x => x
  | .bool, x => x
  | .str, x => x
  | .pair a b, x => (a.toL x.1, b.toL x.2)
  | .sl e, s => (List.range s.n).map fun i => e.toL (s.get i)

section
variable {e : Ty}
def Sl.toL (e : Ty) (s : Sl e.T) : List e.L := (List.range s.n).map fun i => e.toL (s.get i)
theorem Sl.len (s : Sl e.T) : (s.toL e).length = s.n := by simp [Sl.toL]
theorem Sl.at (s : Sl e.T) {i : Nat} (h : i < s.n) : (s.toL e)[i]? = some (e.toL (s.get i)) := by simp [Sl.toL, h]
theorem Sl.ext {s : Sl e.T} {l : List e.L} (hn : s.n = l.length) (h : ∀ i (hi : i < l.length), e.toL (s.get i) = l[i]) : s.toL e = l := by
  refine List.ext_getElem (by simp [Sl.toL, hn]) fun i h1 h2 => ?_
  simp [Sl.toL, h i h2]
theorem beq_iff (k i : Nat) : Nat.beq k i = decide (k = i) := by
  by_cases h : k = i
  · subst h; simp
  · rw [decide_eq_false h]
    cases hb : Nat.beq k i with
    | false => rfl
    | true => exact absurd (Nat.eq_of_beq_eq_true hb) h
theorem blt_iff (k i : Nat) : Nat.blt k i = decide (k < i) := by
  by_cases h : k < i
  · rw [decide_eq_true h]; simpa using h
  · rw [decide_eq_false h]
    cases hb : Nat.blt k i with
    | false => rfl
    | true => exact absurd (by simpa using hb) h
theorem Sl.toL_set (s : Sl e.T) (i : Nat) (x : e.T) : (s.set e i x).toL e = (s.toL e).set i (e.toL x) := by
  refine Sl.ext (by simp [Sl.set, Sl.toL]) fun k hk => ?_
  have hk' : k < s.n := by simpa [Sl.toL] using hk
  rw [List.getElem_set]
  show e.toL (e.bif (Nat.beq k i) x (s.get k)) = _
  rw [Ty.bif_eq, beq_iff]
  by_cases h : i = k
  · subst h; simp
  · rw [if_neg h, decide_eq_false (fun h' => h h'.symm)]; simp [Sl.toL]
theorem Sl.toL_app (a b : Sl e.T) : (a.app e b).toL e = a.toL e ++ b.toL e := by
  refine Sl.ext (by simp [Sl.app, Sl.toL]) fun k hk => ?_
  have hk' : k < a.n + b.n := by simpa [Sl.toL] using hk
  show e.toL (e.bif (Nat.blt k a.n) (a.get k) (b.get (k - a.n))) = _
  rw [Ty.bif_eq, blt_iff]
  by_cases h : k < a.n
  · rw [decide_eq_true h, List.getElem_append_left (by simpa [Sl.toL] using h)]; simp [Sl.toL]
  · rw [decide_eq_false h, List.getElem_append_right (by simpa [Sl.toL] using h)]; simp [Sl.toL]
theorem Sl.toL_part (s : Sl e.T) (o l : Nat) (z : e.T) (h : o + l ≤ s.n) : (s.part e o l z).toL e = ((s.toL e).drop o).take l := by
  refine Sl.ext (by simp [Sl.part, Sl.toL]; omega) fun k hk => ?_
  have hk' : k < l := by simp [Sl.toL] at hk; omega
  show e.toL (e.bif (Nat.blt k l) (s.get (o + k)) z) = _
  rw [Ty.bif_eq, blt_iff, decide_eq_true hk']
  simp [Sl.toL]
theorem Sl.toL_lit (xs : List e.T) : (Sl.lit e xs).toL e = xs.map e.toL := by
  refine Sl.ext (by simp [Sl.lit]) fun k hk => ?_
  have hk' : k < xs.length := by simpa using hk
  show e.toL (e.sel xs k) = _
  rw [Ty.sel_at e xs hk']; simp
end
end Go.Vk
end

section
namespace Go.Vk
open Go
set_option linter.unusedVariables false
set_option linter.unusedSimpArgs false

theorem setAt_setAt (v h : V) : ∀ (j : Nat) (R : List V), setAt v j (setAt h j R) = setAt v j R
  | 0, [] => rfl
  | 0, c :: R => rfl
  | j + 1, [] => rfl
  | j + 1, c :: R => by simp only [setAt, setAt_setAt v h j R]
/-- A hole that is filled again. -/
theorem rows_push (c : Bool) (v h : V) (i j : Nat) (R G : List V) : mrgE c (setAt v j (mrgE (Nat.beq i i) (setAt h j R) R)) (mrgE c (setAt h j R) G) = mrgE c (setAt v j R) G := by
  simp only [mrgE_eq, beq_iff, decide_true, cond_true, setAt_setAt]
  cases c <;> rfl

section
variable {P : Program} {M : FuncId → List Slot} {L : FuncId → Nat → Option (List (Nat × Nat))} {G : Nat → Option (List V)}
/-- A call, from the equation of its body. -/
theorem of_e {sg : FuncId → Option Sig} {f : FuncId} {args : List V} {R : Option Ret} {s : Sig} {r : s.T}
    (he : enterK P M L G (tabK sg (sysP P M L G).om.call) (sysP P M L G).om.lab f args = R) (hs : s.good = true) (hr : R = some (s.E r)) (k : s.T → Option Ret) :
    callG (sysP P M L G).om.call s f args k = k r :=
  callG_eq hs (enterK_ok tabK_good (fun _ _ _ _ h => h) (he.trans hr)) k
theorem of_l {sg : FuncId → Option Sig} {f : FuncId} {items : List Item} {σ : St} {R : Option Ret} {r : Ret}
    (he : atK P M L G (tabK sg (sysP P M L G).om.call) (sysP P M L G).om.lab f items σ = R) (hr : R = some r) : (sysP P M L G).om.lab f items σ = some r :=
  atK_ok tabK_good (fun _ _ _ _ h => h) (he.trans hr)
end
end Go.Vk
end

section
namespace Go.Vk
open Go
set_option linter.unusedVariables false
set_option linter.unusedSimpArgs false

theorem wrap64 {n : Int} (h1 : -9223372036854775808 ≤ n) (h2 : n < 9223372036854775808) : IntKind.i64.wrap n = n := by
  unfold IntKind.wrap
  simp [IntKind.bits, IntKind.signed]
  omega
theorem wrap_succ {i n : Nat} (h : i < n) (hn : n < 4611686018427387904) : IntKind.i64.wrap ((i : Int) + 1) = ((i + 1 : Nat) : Int) := by
  rw [wrap64 (by omega) (by omega)]; omega

theorem beqD (a b : Int) : (a == b) = decide (a = b) := rfl
/-- Empty slices are alike. -/
theorem AgV0 {sz : Nat} {fl : Bool} {g g' : Nat → List V} {w : World} {F : Set'} {x : Value} {S : Set'} {own : Own} (h : ResRep w F (.sl sz fl none none 0 g) own x S) : ResRep w F (.sl sz fl none none 0 g') own x S := by
  have rep : ∀ m T, Rep w F m (.sl sz fl none none 0 g) x T → Rep w F m (.sl sz fl none none 0 g') x T := by
    intro m T h
    cases h with
    | nul _ _ _ _ _ _ a _ hc => exact .nul _ _ _ _ _ _ _ _ hc
    | slF _ _ _ _ _ _ b off c cs e fr xs _ hb hF hcap hn hz hlen hxs hc hfl => exact .slF _ _ _ _ _ _ b off c cs e fr xs _ hb hF hcap hn hz (fun i hi => by omega) (fun i j hi => by omega) (fun i j hi => by omega) (fun _ i j hi => by omega)
    | slO _ _ _ _ _ _ b off c cs e fr xs _ Sr hb hS hp hcap hn hz hlen hxs hc hfl hsub hdis => exact .slO _ _ _ _ _ _ b off c cs e fr xs _ Sr hb hS hp hcap hn hz (fun i hi => by omega) (fun i j hi => by omega) (fun i j hi => by omega) (fun _ i j hi => by omega) (fun i j x hi => by omega) (fun i j i' j' x hi => by omega)
  cases h with
  | dp _ _ _ h => exact .dp _ _ _ (rep _ _ h)
  | sh _ _ _ _ b off c cs e fr X _ hb hS hp hn hz hr hx =>
    refine .sh _ _ _ _ b off c cs e fr X _ hb hS hp hn hz ⟨fun i hi => absurd hi (Nat.not_lt_zero _), fun _ i j hi => absurd hi (Nat.not_lt_zero _), fun e => (by cases e), fun _ i j hi => absurd hi (Nat.not_lt_zero _), hr.nfz⟩ (fun i j hi => absurd hi (Nat.not_lt_zero _))
  | shN => exact .shN _ _ _ _ _
  | fz _ _ _ h => exact .fz _ _ _ (rep _ _ h)

theorem ag_refl (r : Ret) : AgRet r r := ⟨rfl, rfl, fun i p q hp hq w F x S h => by rw [hp] at hq; cases hq; exact h⟩
/-- One result, an empty slice. -/
theorem ag_sl0 {sz : Nat} {fl : Bool} {g g' : Nat → List V} {own : Own} : AgRet ⟨[(.sl sz fl none none 0 g, own)], []⟩ ⟨[(.sl sz fl none none 0 g', own)], []⟩ := by
  refine ⟨rfl, rfl, fun i p q hp hq w F x S h => ?_⟩
  match i with
  | 0 => simp [Ret.all] at hp hq; subst hp hq; exact AgV0 h
  | i + 1 => simp [Ret.all] at hp
/-- Alike: the same numbers, and slices of the same length with alike elements. -/
@[reducible] def Ty.same : (t : Ty) → t.T → t.T → Prop
  | .int _, (x : Int), (y : Int) => x = y
  | .bool, (x : Bool), (y : Bool) => x = y
  | .str, (x : ByteArray), (y : ByteArray) => x = y
  | .pair a b, x, y => a.same x.1 y.1 ∧ b.same x.2 y.2
  | .sl e, x, y => x.n = y.n ∧ ∀ i, i < x.n → e.same (x.get i) (y.get i)
theorem Ty.same_refl : ∀ (t : Ty) (x : t.T), t.same x x
  | .int _, _ => rfl
  | .bool, _ => rfl
  | .str, _ => rfl
  | .pair a b, x => ⟨a.same_refl _, b.same_refl _⟩
  | .sl e, x => ⟨rfl, fun i _ => e.same_refl _⟩
theorem Ty.same_symm : ∀ (t : Ty) (x y : t.T), t.same x y → t.same y x
  | .int _, _, _, h => Eq.symm h
  | .bool, _, _, h => Eq.symm h
  | .str, _, _, h => Eq.symm h
  | .pair a b, x, y, h => ⟨a.same_symm _ _ h.1, b.same_symm _ _ h.2⟩
  | .sl e, x, y, h => ⟨h.1.symm, fun i hi => e.same_symm _ _ (h.2 i (by rw [h.1]; exact hi))⟩
theorem Ty.same_trans : ∀ (t : Ty) (x y z : t.T), t.same x y → t.same y z → t.same x z
  | .int _, _, _, _, h, h' => Eq.trans h h'
  | .bool, _, _, _, h, h' => Eq.trans h h'
  | .str, _, _, _, h, h' => Eq.trans h h'
  | .pair a b, x, y, z, h, h' => ⟨a.same_trans _ _ _ h.1 h'.1, b.same_trans _ _ _ h.2 h'.2⟩
  | .sl e, x, y, z, h, h' => ⟨h.1.trans h'.1, fun i hi => e.same_trans _ _ _ (h.2 i hi) (h'.2 i (by rw [← h.1]; exact hi))⟩
/-- No slice is too long. -/
@[reducible] def Ty.bd : (t : Ty) → t.T → Prop
  | .int _, _ => True
  | .bool, _ => True
  | .str, _ => True
  | .pair a b, x => a.bd x.1 ∧ b.bd x.2
  | .sl e, x => x.n ≤ 4294967296 ∧ ∀ i, i < x.n → e.bd (x.get i)
theorem Ty.bd_same : ∀ (t : Ty) (x y : t.T), t.same x y → t.bd x → t.bd y
  | .int _, _, _, _, _ => trivial
  | .bool, _, _, _, _ => trivial
  | .str, _, _, _, _ => trivial
  | .pair a b, x, y, h, hb => ⟨a.bd_same _ _ h.1 hb.1, b.bd_same _ _ h.2 hb.2⟩
  | .sl e, x, y, h, hb => ⟨by rw [← h.1]; exact hb.1, fun i hi => e.bd_same _ _ (h.2 i (by rw [h.1]; exact hi)) (hb.2 i (by rw [h.1]; exact hi))⟩
/-- A loop that compares: all the way. -/
theorem eqLoop (L : Int → Option Ret) (n : Nat) (ret : Ret) (step : ∀ i, i < n → L ((i + 1 : Nat) : Int) = some ret → L (i : Int) = some ret) (done : L (n : Int) = some ret) : ∀ m i : Nat, i + m = n → L (i : Int) = some ret
  | 0, i, h => by have : i = n := by omega
                  rw [this]; exact done
  | m + 1, i, h => step i (by omega) (eqLoop L n ret step done m (i + 1) (by omega))
theorem wrap_add1 {n : Nat} (h : n < 4611686018427387904) : IntKind.i64.wrap ((n : Int) + 1) = ((n + 1 : Nat) : Int) := by
  rw [wrap64 (by omega) (by omega)]; omega

theorem natNeg (n : Nat) : (((n : Nat) : Int) < 0) = False := by simp
/-- A sum over places. -/
def sumF (f : Nat → Nat) : Nat → Nat → Nat
  | _, 0 => 0
  | i, m + 1 => f i + sumF f (i + 1) m
theorem sumF_congr {f g : Nat → Nat} : ∀ (m i : Nat), (∀ j, i ≤ j → j < i + m → f j = g j) → sumF f i m = sumF g i m
  | 0, _, _ => rfl
  | m + 1, i, h => by
    simp only [sumF]
    rw [h i (Nat.le_refl _) (by omega), sumF_congr m (i + 1) fun j h1 h2 => h j (by omega) (by omega)]
theorem sumF_le {f : Nat → Nat} {B : Nat} : ∀ (m i : Nat), (∀ j, i ≤ j → j < i + m → f j ≤ B) → sumF f i m ≤ m * B
  | 0, _, _ => by simp [sumF]
  | m + 1, i, h => by
    simp only [sumF]
    have h1 := h i (Nat.le_refl _) (by omega)
    have h2 := sumF_le (f := f) (B := B) m (i + 1) fun j h1 h2 => h j (by omega) (by omega)
    rw [Nat.succ_mul]; omega

/-- How many numbers lie in a value. -/
@[reducible] def Ty.cnt : (t : Ty) → t.T → Nat
  | .int _, _ => 1
  | .bool, _ => 1
  | .str, _ => 1
  | .pair a b, x => a.cnt x.1 + b.cnt x.2
  | .sl e, x => sumF (fun i => e.cnt (x.get i)) 0 x.n

section
variable {e : Ty}
theorem Sl.set_n (s : Sl e.T) (i : Nat) (x : e.T) : (Sl.set e s i x).n = s.n := rfl
theorem Sl.set_self (s : Sl e.T) (i : Nat) (x : e.T) : (Sl.set e s i x).get i = x := by
  show e.bif (Nat.beq i i) x (s.get i) = x
  rw [Ty.bif_eq, beq_iff]; simp
theorem Sl.set_ne (s : Sl e.T) {i j : Nat} (x : e.T) (h : j ≠ i) : (Sl.set e s i x).get j = s.get j := by
  show e.bif (Nat.beq j i) x (s.get j) = _
  rw [Ty.bif_eq, beq_iff, decide_eq_false h]; rfl
theorem Sl.set_set (s : Sl e.T) (i : Nat) (x y : e.T) : Sl.set e (Sl.set e s i x) i y = Sl.set e s i y := by
  have : (Sl.set e (Sl.set e s i x) i y).get = (Sl.set e s i y).get := by
    funext j
    by_cases h : j = i
    · subst h; rw [Sl.set_self, Sl.set_self]
    · rw [Sl.set_ne _ _ h, Sl.set_ne _ _ h, Sl.set_ne _ _ h]
  show (⟨s.n, (Sl.set e (Sl.set e s i x) i y).get⟩ : Sl e.T) = ⟨s.n, (Sl.set e s i y).get⟩
  rw [this]

/-- A loop that writes numbers into a slice, and the loop that reads them back. -/
theorem markLoop (LM : Int → Int → Sl e.T → Option Ret) (LH : Sl e.T → Int → Int → Option Ret) (RM : Int → Sl e.T → Ret) (RH : Int → Ret) (n : Nat)
    (step : ∀ (i k : Nat) (o : Sl e.T), o.n = n → i < n → e.bd (o.get i) → k + e.cnt (o.get i) < 4611686018427387904 → ∃ x : e.T, (∀ R, LM ((k + e.cnt (o.get i) : Nat) : Int) ((i + 1 : Nat) : Int) (Sl.set e o i x) = some R → LM k i o = some R) ∧
      (∀ o' : Sl e.T, o'.n = n → o'.get i = x → ∀ R, LH o' ((k + e.cnt (o.get i) : Nat) : Int) ((i + 1 : Nat) : Int) = some R → LH o' k i = some R))
    (doneM : ∀ (k : Nat) (o : Sl e.T), o.n = n → LM k n o = some (RM k o)) (doneH : ∀ (k : Nat) (o : Sl e.T), o.n = n → LH o k n = some (RH k)) (k0 : Nat) :
    ∀ (m i k : Nat) (o : Sl e.T), i + m = n → o.n = n → (∀ j, i ≤ j → j < n → e.bd (o.get j)) → k + sumF (fun j => e.cnt (o.get j)) i m < 4611686018427387904 →
      (∀ o' : Sl e.T, o'.n = n → (∀ j, j < i → o'.get j = o.get j) → ∀ R, LH o' k i = some R → LH o' k0 ((0 : Nat) : Int) = some R) →
      ∃ r : Sl e.T, r.n = n ∧ LM k i o = some (RM ((k + sumF (fun j => e.cnt (o.get j)) i m : Nat) : Int) r) ∧ LH r k0 ((0 : Nat) : Int) = some (RH ((k + sumF (fun j => e.cnt (o.get j)) i m : Nat) : Int))
  | 0, i, k, o, hi, ho, hb, hk, inv => by
    have : i = n := by omega
    subst this
    exact ⟨o, ho, doneM k o ho, inv o ho (fun _ _ => rfl) _ (doneH k o ho)⟩
  | m + 1, i, k, o, hi, ho, hb, hk, inv => by
    simp only [sumF] at hk ⊢
    obtain ⟨x, h1, h2⟩ := step i k o ho (by omega) (hb i (Nat.le_refl _) (by omega)) (by omega)
    have hs : sumF (fun j => e.cnt ((Sl.set e o i x).get j)) (i + 1) m = sumF (fun j => e.cnt (o.get j)) (i + 1) m :=
      sumF_congr _ _ fun j hj _ => by simp only [Sl.set_ne o x (show j ≠ i by omega)]
    obtain ⟨r, r1, r2, r3⟩ := markLoop LM LH RM RH n step doneM doneH k0 m (i + 1) (k + e.cnt (o.get i)) (Sl.set e o i x) (by omega) ho (fun j hj hjn => by rw [Sl.set_ne o x (show j ≠ i by omega)]; exact hb j (by omega) hjn) (by rw [hs]; omega)
      (fun o' hn hp R h => inv o' hn (fun j hj => by rw [hp j (by omega), Sl.set_ne o x (show j ≠ i by omega)]) R (h2 o' hn (by rw [hp i (by omega), Sl.set_self]) R h))
    rw [hs, Nat.add_assoc] at r2 r3
    exact ⟨r, r1, h1 _ r2, r3⟩
/-- A loop that fills a slice. -/
theorem toLoop (L : Int → Sl e.T → Option Ret) (R : Sl e.T → Ret) (n : Nat) (P : Nat → e.T → Prop)
    (step : ∀ (i : Nat) (o : Sl e.T), o.n = n → i < n → ∃ y : e.T, P i y ∧ ∀ ret, L ((i + 1 : Nat) : Int) (Sl.set e o i y) = some ret → L i o = some ret)
    (done : ∀ o : Sl e.T, o.n = n → L n o = some (R o)) : ∀ (m i : Nat) (o : Sl e.T), i + m = n → o.n = n → (∀ j, j < i → P j (o.get j)) → ∃ r : Sl e.T, r.n = n ∧ (∀ j, j < n → P j (r.get j)) ∧ L i o = some (R r)
  | 0, i, o, hi, ho, hp => by
    have : i = n := by omega
    subst this
    exact ⟨o, ho, hp, done o ho⟩
  | m + 1, i, o, hi, ho, hp => by
    obtain ⟨y, h1, h2⟩ := step i o ho (by omega)
    obtain ⟨r, r1, r2, r3⟩ := toLoop L R n P step done m (i + 1) (Sl.set e o i y) (by omega) ho (fun j hj => by
      by_cases h : j = i
      · subst h; rw [Sl.set_self]; exact h1
      · rw [Sl.set_ne o y h]; exact hp j (by omega))
    exact ⟨r, r1, r2, h2 _ r3⟩
end
end Go.Vk
end

section
namespace Go.Vk
open Go Go.ChangeShapes Go.WideShapes Go.RowKit Go.Deep
set_option linter.unusedVariables false
set_option linter.unusedSimpArgs false

/-- In its kind's bounds, and not too long. -/
@[reducible] def Ty.wf : (t : Ty) → t.T → Prop
  | .int k, (n : Int) => (Lit.int k n).wf = true
  | .bool, _ => True
  | .str, (s : ByteArray) => s.size ≤ maxLen
  | .pair a b, x => a.wf x.1 ∧ b.wf x.2
  | .sl e, x => x.n ≤ maxLen ∧ ∀ i, i < x.n → e.wf (x.get i)

def Ty.dflt : (t : Ty) → t.T
  | .int _ => (0 : Int)
  | .bool => false
  | .str => ByteArray.empty
  | .pair a b => (a.dflt, b.dflt)
  | .sl e => ⟨0, fun _ => e.dflt⟩

theorem Ty.flat_leaf : ∀ (t : Ty) (x : t.T), t.flat = true → ∀ c ∈ t.cells x, c.leaf = true
  | .int _, _, _, c, hc => by simp [Ty.cells] at hc; subst hc; rfl
  | .bool, _, _, c, hc => by simp [Ty.cells] at hc; subst hc; rfl
  | .str, _, _, c, hc => by simp [Ty.cells] at hc; subst hc; rfl
  | .pair a b, x, h, c, hc => by
    simp only [Ty.flat, Bool.and_eq_true] at h
    rcases List.mem_append.1 (show c ∈ a.cells x.1 ++ b.cells x.2 from hc) with hc | hc
    · exact a.flat_leaf _ h.1 c hc
    · exact b.flat_leaf _ h.2 c hc
  | .sl e, _, h, _, _ => by cases h

theorem cellAt_mem {l : List V} {j : Nat} (h : j < l.length) : cellAt l j ∈ l := by
  unfold cellAt
  rw [List.getElem?_eq_getElem h]
  exact List.getElem_mem h
theorem Ty.sz_pos : ∀ t : Ty, 0 < t.sz
  | .int _ => Nat.one_pos
  | .bool => Nat.one_pos
  | .str => Nat.one_pos
  | .pair a b => by show 0 < a.sz + b.sz; have := a.sz_pos; omega
  | .sl _ => Nat.one_pos

mutual
/-- Does a type of the program have this form? -/
def layB (P : Program) : Nat → Ty → TypeId → Bool
  | 0, _, _ => false
  | n + 1, ty, t => match P.underlying t with
    | some (.struct fs) => Nat.beq (P.cellsOf t) ty.sz && layF P n ty fs.toList 0
    | some (.int k) => (match ty with | .int k' => Nat.beq (kn k) (kn k') | _ => false)
    | some .bool => (match ty with | .bool => true | _ => false)
    | some .string => (match ty with | .str => true | _ => false)
    | some (.slice e) => (match ty with | .sl e' => Nat.beq (P.cellsOf e) e'.sz && layB P n e' e | _ => false)
    | _ => false
def layF (P : Program) : Nat → Ty → List Field → Nat → Bool
  | 0, _, _, _ => false
  | n + 1, ty, [f], off => Nat.beq f.offset off && Nat.beq (P.cellsOf f.type) ty.sz && layB P n ty f.type
  | n + 1, .pair a b, f :: fs, off => Nat.beq f.offset off && Nat.beq (P.cellsOf f.type) a.sz && layB P n a f.type && layF P n b fs (off + a.sz)
  | _, _, _, _ => false
end

section
variable {H : Type} {enc : TypeId × Value → H} {P : Program} {W : World}
abbrev Old (W : World) : Set' := fun b => b < W.heap.size
/-- A value's cells, told by a typed value. -/
def Told (W : World) (ty : Ty) (cs : List Value) : Prop := ∃ v : ty.T, ty.wf v ∧ cs.length = ty.sz ∧ ∀ i, i < ty.sz → Rep W (Old W) false (cellAt (ty.cells v) i) (cs.getD i default) none'

theorem told_slice {e : Ty} {t te : TypeId} {fuel : Nat} {cs : List Value} {x : DataW H × List MemPlace} (ht : P.underlying t = some (.slice te)) (hc : P.cellsOf te = e.sz)
    (he : ∀ (fuel : Nat) (cs : List Value) (x : DataW H × List MemPlace), DataW.trod enc P W 0 (fun _ => true) true fuel te cs = some x → Told W e cs)
    (h : DataW.trod enc P W 0 (fun _ => true) true fuel t cs = some x) : Told W (.sl e) cs := by
  rcases open_slice ht h with ⟨rfl, _⟩ | ⟨a, len, cap, m, n, D, Pl, rfl, hb, hl, hm, hmm, hx, hi⟩
  · refine ⟨⟨0, fun _ => e.dflt⟩, ⟨Nat.zero_le _, fun i hi => absurd hi (Nat.not_lt_zero _)⟩, rfl, fun i hi => ?_⟩
    have : i = 0 := by simp [Ty.sz] at hi; exact hi
    subst this
    exact .nul _ _ _ _ _ _ _ _ (.inl rfl)
  · have hmc : m = cap := by simpa using hmm
    subst hmc
    have hmem : ∀ i, i < m → ∃ cs' : List Value, cs'.length = e.sz ∧ (∀ j, j < e.sz → W.cell? (a.add (i * e.sz + j)) = cs'[j]?) ∧ Told W e cs' := by
      intro i him
      obtain ⟨cs', hcs, htr⟩ := hi i him
      rw [hc] at hcs
      obtain ⟨_, hlen, hat⟩ := World.cells?_some hcs
      exact ⟨cs', hlen, fun j hj => by rw [← Go.Deep.add_add]; exact hat j hj, he _ _ _ htr⟩
    have hel : ∀ i, ∃ v : e.T, i < m → e.wf v ∧ ∀ j, j < e.sz → ∃ u, W.cell? (a.add (i * e.sz + j)) = some u ∧ Rep W (Old W) false (cellAt (e.cells v) j) u none' := by
      intro i
      by_cases him : i < m
      · obtain ⟨cs', h1, h2, v, h3, h4, h5⟩ := hmem i him
        refine ⟨v, fun _ => ⟨h3, fun j hj => ?_⟩⟩
        have hj' : j < cs'.length := by rw [h1]; exact hj
        refine ⟨cs'[j], by rw [h2 j hj, List.getElem?_eq_getElem hj'], ?_⟩
        have := h5 j hj
        rwa [List.getD_eq_getElem?_getD, List.getElem?_eq_getElem hj'] at this
      · exact ⟨e.dflt, fun h => absurd h him⟩
    refine ⟨⟨len, fun i => (hel i).choose⟩, ⟨by show len ≤ maxLen; omega, fun i hi => ((hel i).choose_spec (by have : i < len := hi; omega)).1⟩, rfl, fun i hi => ?_⟩
    have : i = 0 := by simp [Ty.sz] at hi; exact hi
    subst this
    show Rep W (Old W) false (.sl e.sz e.flat none none len fun i => e.cells (hel i).choose) (.slice (some a) len m) none'
    rcases Nat.eq_zero_or_pos m with hm0 | hm0
    · subst hm0
      have : len = 0 := by omega
      subst this
      exact .nul _ _ _ _ _ _ _ _ (.inl rfl)
    · have hp := e.sz_pos
      -- the block
      obtain ⟨u0, c0, _⟩ := ((hel 0).choose_spec hm0).2 0 hp
      have hblk : ∃ cs el fr, W.heap[a.block]? = some (.cells cs el fr) ∧ a.spot = none := by
        have h00 : 0 * e.sz + 0 = 0 := by omega
        rw [h00, show a.add 0 = a by simp [Addr.add]] at c0
        unfold World.cell? at c0
        split at c0
        · rename_i cs el fr hh
          split at c0
          · cases c0
          · rename_i hs
            exact ⟨cs, el, fr, hh, by simpa using hs⟩
        · cases c0
      obtain ⟨bs, el, fr, hh, hs⟩ := hblk
      obtain ⟨ab, ao, asp⟩ := a
      simp only at hs hh
      subst hs
      have hcell : ∀ q, W.cell? ((⟨ab, ao, none⟩ : Addr).add q) = bs[ao + q]? := fun q => by
        rw [addr_add]; exact cell_at hh
      refine .slF _ _ _ _ _ _ ab ao m bs el fr (fun i j => bs.getD (ao + (i * e.sz + j)) default) _ hh ?_ (.inl rfl) hl ?_ (fun i hi => Ty.len _ _) (fun i j hi hj => ?_) (fun i j hi hj => ?_) (fun hf i j hi hj => ?_)
      · show ab < W.heap.size
        exact (Array.getElem?_eq_some_iff.1 hh).1
      · obtain ⟨u, c1, _⟩ := ((hel (m - 1)).choose_spec (by omega)).2 (e.sz - 1) (by omega)
        rw [hcell] at c1
        have := (Array.getElem?_eq_some_iff.1 c1).1
        have e1 : (m - 1) * e.sz + e.sz = m * e.sz := by rw [← Nat.succ_mul]; congr 1; omega
        omega
      · obtain ⟨u, c1, _⟩ := ((hel i).choose_spec (by omega)).2 j hj
        rw [hcell] at c1
        rw [Nat.add_assoc, c1, Array.getD_eq_getD_getElem?, c1]; rfl
      · obtain ⟨u, c1, h1⟩ := ((hel i).choose_spec (by omega)).2 j hj
        rw [hcell] at c1
        rw [Array.getD_eq_getD_getElem?, c1]
        exact h1
      · exact e.flat_leaf (hel i).choose hf _ (cellAt_mem (by rw [Ty.len]; exact hj))

theorem told_one {ty : Ty} {v : ty.T} {u : V} {x : Value} (hw : ty.wf v) (hc : ty.cells v = [u]) (hr : Rep W (Old W) false u x none') : Told W ty [x] := by
  have hs : ty.sz = 1 := by rw [← Ty.len ty v, hc]; rfl
  refine ⟨v, hw, hs.symm, fun i hi => ?_⟩
  have : i = 0 := by omega
  subst this
  rw [hc]; exact hr

mutual
theorem lay_told : ∀ (n : Nat) (ty : Ty) (t : TypeId), layB P n ty t = true → ∀ (fuel : Nat) (cs : List Value) (x : DataW H × List MemPlace), DataW.trod enc P W 0 (fun _ => true) true fuel t cs = some x → Told W ty cs
  | 0, _, _, h => by cases h
  | n + 1, ty, t, h => by
    intro fuel cs x hx
    unfold layB at h
    split at h
    · rename_i fs hu
      simp only [Bool.and_eq_true] at h
      obtain ⟨xs, m, _, _, hlen, hxl, hf⟩ := DataW.trod_struct hu hx
      have := layF_told n ty fs.toList 0 h.2 m cs xs (by simpa using hxl) (fun i q hq => hf i q (by simpa using hq)) (by rw [hlen, Nat.eq_of_beq_eq_true h.1]; omega)
      simpa using this
    · rename_i k hu
      split at h
      · rename_i k'
        have := kn_injB h
        subst this
        obtain ⟨m, rfl, _, hw⟩ := DataW.trod_int hu hx
        exact told_one (ty := .int k) (v := m) hw rfl (.int _ _ _ _)
      · cases h
    · rename_i hu
      split at h
      · obtain ⟨m, rfl, _⟩ := DataW.trod_bool hu hx
        exact told_one (ty := .bool) (v := m) trivial rfl (.bool _ _ _)
      · cases h
    · rename_i hu
      split at h
      · obtain ⟨m, rfl, _, hw⟩ := DataW.trod_string hu hx
        exact told_one (ty := .str) (v := m) hw rfl (.str _ _ _)
      · cases h
    · rename_i te hu
      split at h
      · rename_i e'
        simp only [Bool.and_eq_true] at h
        exact told_slice hu (Nat.eq_of_beq_eq_true h.1) (lay_told n e' te h.2) hx
      · cases h
    · cases h
theorem layF_told : ∀ (n : Nat) (ty : Ty) (fs : List Field) (off : Nat), layF P n ty fs off = true → ∀ (fuel : Nat) (cs : List Value) (xs : List (DataW H × List MemPlace)), xs.length = fs.length →
    (∀ (i : Nat) (f : Field), fs[i]? = some f → DataW.trod enc P W 0 (fun _ => true) true fuel f.type ((cs.drop f.offset).take (P.cellsOf f.type)) = xs[i]?) → cs.length = off + ty.sz → Told W ty (cs.drop off)
  | 0, _, _, _, h => by unfold layF at h; cases h
  | n + 1, ty, [], _, h => by unfold layF at h; simp at h
  | n + 1, ty, [f], off, h => by
    intro fuel cs xs hl hf hlen
    unfold layF at h
    simp only [Bool.and_eq_true] at h
    have h0 := hf 0 f rfl
    match xs, hl with
    | [y], _ =>
      have := lay_told n ty f.type h.2 _ _ _ h0
      rwa [Nat.eq_of_beq_eq_true h.1.1, Nat.eq_of_beq_eq_true h.1.2, List.take_of_length_le (by rw [List.length_drop]; omega)] at this
  | n + 1, .pair a b, f :: g :: fs, off, h => by
    intro fuel cs xs hl hf hlen
    unfold layF at h
    simp only [Bool.and_eq_true] at h
    obtain ⟨⟨⟨h1, h2⟩, h3⟩, h4⟩ := h
    match xs, hl with
    | y :: ys, hl =>
      obtain ⟨v, v1, v2, v3⟩ := lay_told n a f.type h3 _ _ _ (hf 0 f rfl)
      have hlen' : cs.length = off + (a.sz + b.sz) := hlen
      obtain ⟨z, z1, z2, z3⟩ := layF_told n b (g :: fs) (off + a.sz) h4 fuel cs ys (by simpa using hl) (fun i q hq => hf (i + 1) q (by simpa using hq)) (by rw [hlen']; omega)
      rw [Nat.eq_of_beq_eq_true h1, Nat.eq_of_beq_eq_true h2] at v2 v3
      refine ⟨(v, z), ⟨v1, z1⟩, by rw [List.length_drop]; show _ = a.sz + b.sz; omega, fun i hi => ?_⟩
      have hi' : i < a.sz + b.sz := hi
      show Rep W (Old W) false (cellAt (a.cells v ++ b.cells z) i) _ none'
      by_cases hia : i < a.sz
      · have := v3 i hia
        have e1 : cellAt (a.cells v ++ b.cells z) i = cellAt (a.cells v) i := by
          unfold cellAt; rw [List.getElem?_append_left (by rw [Ty.len]; exact hia)]
        have e2 : ((cs.drop off).take a.sz).getD i default = (cs.drop off).getD i default := by
          rw [List.getD_eq_getElem?_getD, List.getD_eq_getElem?_getD, List.getElem?_take_of_lt hia]
        rw [e1, ← e2]; exact this
      · have := z3 (i - a.sz) (by omega)
        have e1 : cellAt (a.cells v ++ b.cells z) i = cellAt (b.cells z) (i - a.sz) := by
          unfold cellAt; rw [List.getElem?_append_right (by rw [Ty.len]; omega), Ty.len]
        have e2 : (cs.drop (off + a.sz)).getD (i - a.sz) default = (cs.drop off).getD i default := by
          rw [List.getD_eq_getElem?_getD, List.getD_eq_getElem?_getD, List.getElem?_drop, List.getElem?_drop]
          congr 2; omega
        rw [e1, ← e2]; exact this
  | n + 1, .int _, _ :: _ :: _, _, h => by unfold layF at h; cases h
  | n + 1, .bool, _ :: _ :: _, _, h => by unfold layF at h; cases h
  | n + 1, .str, _ :: _ :: _, _, h => by unfold layF at h; cases h
  | n + 1, .sl _, _ :: _ :: _, _, h => by unfold layF at h; cases h
end
end
end Go.Vk
end

section
namespace Go.Vk
open Go Go.ChangeShapes Go.WideShapes Go.RowKit Go.Deep
set_option linter.unusedVariables false
set_option linter.unusedSimpArgs false

theorem told_val {W : World} {ty : Ty} {v : Value} (h1 : one ty = true) (h : Told W ty [v]) : ∃ x : ty.T, ty.wf x ∧ ArgOk W (Old W) (cellAt (ty.cells x) 0) v := by
  obtain ⟨x, hw, hl, hr⟩ := h
  exact ⟨x, hw, .val _ _ (by simpa using hr 0 ty.sz_pos)⟩
theorem told_agg {W : World} {ty : Ty} {cs : Array Value} (h : Told W ty cs.toList) : ∃ x : ty.T, ty.wf x ∧ ArgOk W (Old W) (.agg (ty.cells x)) (.agg cs) := by
  obtain ⟨x, hw, hl, hr⟩ := h
  refine ⟨x, hw, .agg _ _ (by rw [Ty.len]; simpa using hl.symm) fun i hi => ?_⟩
  rw [Ty.len] at hi
  simpa using hr i hi

section
variable {H : Type} {enc : TypeId × Value → H} {P : Program} {W : World}
/-- An argument that is a slice. -/
theorem arg_sl {e : Ty} {t te : TypeId} {n base : Nat} {r : Reach} {v : Value} {D : DataW H} {p : List MemPlace} (ht : P.underlying t = some (.slice te)) (hv : Value.okWide P W r base t v)
    (h : DataW.Trod enc P W 0 (fun _ => true) true t v D p) (hl : layB P n (.sl e) t = true) : ∃ s : Sl e.T, (Ty.sl e).wf s ∧ ArgOk W (Old W) (svl e s) v := by
  obtain ⟨a, len, cap, rfl⟩ := okWide_slice ht hv
  obtain ⟨fuel, hf⟩ := h
  have := lay_told n (.sl e) t hl fuel _ _ hf
  exact told_val (ty := .sl e) rfl (by simpa [Value.cells] using this)
/-- An argument that is a struct. -/
theorem arg_st {ty : Ty} {t : TypeId} {fs : Array Field} {n base : Nat} {r : Reach} {v : Value} {D : DataW H} {p : List MemPlace} (ht : P.underlying t = some (.struct fs)) (hv : Value.okWide P W r base t v)
    (h : DataW.Trod enc P W 0 (fun _ => true) true t v D p) (hl : layB P n ty t = true) : ∃ s : ty.T, ty.wf s ∧ ArgOk W (Old W) (.agg (ty.cells s)) v := by
  obtain ⟨cs, rfl, _⟩ := okWide_struct ht hv
  obtain ⟨fuel, hf⟩ := h
  have := lay_told n ty t hl fuel _ _ hf
  exact told_agg (by simpa [Value.cells] using this)

/-- A law that says 'true': its calls. -/
theorem law_calls {M : FuncId → List Slot} {L : FuncId → Nat → Option (List (Nat × Nat))} {G : Nat → Option (List V)} {f : FuncId} {args : List V} {vals : Array Value} (hm : P.follows .mixedOrders = true) (hM : M f = [])
    (hG : ∀ g row, G g = some row → Rep W (Old W) false (.pv none row 0) (.pointer (some ⟨g, 0, none⟩)) none') (ha : args.length = vals.size) (hv : ∀ i, i < args.length → ArgOk W (Old W) (cellAt args i) (vals.getD i default))
    (h : (sysP P M L G).om.call f args = some ⟨[(.bool true, .dp)], []⟩) : Calls P f vals W (fun e W' => e = .returned (.bool true) ∧ Below W.heap.size W W') := by
  have hs := (call_sound hm f args _ h).2 W (Old W) vals (fun _ => none') (fun b hb => hb) hG (by rw [show (envOf P M G).M f = [] from hM]; exact .nil ha hv)
  refine hs.mono fun e W' ho => ?_
  obtain ⟨hb, xs, F', Ss, he, _, _, _, hl, _, hr, _, _⟩ := ho
  have hl' : xs.length = 1 := hl.symm
  match xs, hl' with
  | [x], _ =>
    have h0 := hr 0 (.bool true, .dp) x (by simp [Ret.all]) (by simp)
    have hx : x = .bool true := by
      cases h0 with
      | dp _ _ _ h => cases h; rfl
    subst hx
    refine ⟨he, hb.os, hb.tape, hb.output, hb.size, fun k hk => hb.block k hk ?_⟩
    rintro ⟨s, hs, _⟩
    rw [show (envOf P M G).M f = [] from hM] at hs
    cases hs
end
end Go.Vk
end

section
namespace Go.Vk
open Go Go.ChangeShapes Go.WideShapes Go.RowKit Go.Deep
set_option linter.unusedVariables false
set_option linter.unusedSimpArgs false

/-- The cells that a laid value says. -/
def fD : Nat → DataW Unit → List V
  | _, .lit (.int k n) => [.int k n]
  | _, .lit (.bool b) => [.bool b]
  | n + 1, .agg ds => ds.flatMap (fD n)
  | _, _ => []
def toVal : V → Value
  | .int k n => .int k n
  | .bool b => .bool b
  | _ => default

mutual
def layA (P : Program) : Nat → TypeId → Bool
  | 0, _ => false
  | n + 1, t => match P.underlying t with
    | some (.struct fs) => layAF P n fs.toList 0 (P.cellsOf t)
    | some (.array k e) => Nat.beq (P.cellsOf t) (k * P.cellsOf e) && layA P n e
    | some (.int _) => true
    | some .bool => true
    | _ => false
def layAF (P : Program) : Nat → List Field → Nat → Nat → Bool
  | 0, _, _, _ => false
  | n + 1, [], off, tot => Nat.beq off tot
  | n + 1, f :: fs, off, tot => Nat.beq f.offset off && layA P n f.type && layAF P n fs (off + P.cellsOf f.type) tot
end

section
variable {P : Program} {W : World} {enc : TypeId × Value → Unit} {held : Bool}
theorem split_take {α : Type} (l : List α) (a b : Nat) : l.drop a = (l.drop a).take b ++ l.drop (a + b) := by
  rw [← List.drop_drop, List.take_append_drop]

theorem arr_parts {sz : Nat} {cs : List Value} {g : Nat → List Value} : ∀ (m i : Nat), cs.length = (i + m) * sz → (∀ j, i ≤ j → j < i + m → (cs.drop (j * sz)).take sz = g j) → cs.drop (i * sz) = ((List.range m).map fun j => g (i + j)).flatten
  | 0, i, hl, _ => by simp; rw [hl]; simp
  | m + 1, i, hl, h => by
    rw [split_take cs (i * sz) sz, h i (Nat.le_refl _) (by omega), show i * sz + sz = (i + 1) * sz by rw [Nat.succ_mul],
      arr_parts m (i + 1) (by rw [hl]; congr 1; omega) fun j h1 h2 => h j (by omega) (by omega)]
    rw [List.range_succ_eq_map, List.map_cons, List.flatten_cons, List.map_map]
    congr 2
    refine List.map_congr_left fun j _ => ?_
    show g (i + 1 + j) = g (i + (j + 1)); congr 1; omega

mutual
theorem lay_dat : ∀ (n : Nat) (t : TypeId), layA P n t = true → ∀ (m : Nat), n ≤ m → ∀ (fuel : Nat) (cs : List Value) (x : DataW Unit × List MemPlace), DataW.trod enc P W 0 (fun _ => true) held fuel t cs = some x → cs = (fD m x.1).map toVal
  | 0, _, h => by unfold layA at h; cases h
  | n + 1, t, h => by
    intro m hm fuel cs x hx
    unfold layA at h
    match m, hm with
    | m + 1, hm =>
    split at h
    · rename_i fs hu
      obtain ⟨xs, q, _, rfl, hlen, hxl, hf⟩ := DataW.trod_struct hu hx
      have := layAF_dat n fs.toList 0 (P.cellsOf t) h m (by omega) q cs xs (by simpa using hxl) (fun i r hr => hf i r (by simpa using hr)) hlen
      simp only [fD, List.flatMap_map]
      simpa using this
    · rename_i k e hu
      simp only [Bool.and_eq_true] at h
      obtain ⟨xs, q, _, rfl, hlen, hxl, hel⟩ := DataW.trod_array hu hx
      have hp := arr_parts (cs := cs) (sz := P.cellsOf e) (g := fun j => (fD m ((xs.map (·.1)).getD j (.nil))).map toVal) k 0 (by rw [hlen, Nat.eq_of_beq_eq_true h.1]; simp) (fun j _ hj => by
        have hj : j < xs.length := by omega
        have h1 := hel j (by omega)
        rw [List.getElem?_eq_getElem hj] at h1
        have := lay_dat n e h.2 m (by omega) _ _ _ h1
        rw [this]
        congr 2
        rw [List.getD_eq_getElem?_getD, List.getElem?_map, List.getElem?_eq_getElem hj]; rfl)
      simp only [Nat.zero_mul, List.drop_zero, Nat.zero_add] at hp
      rw [hp]
      simp only [fD, List.flatMap_map, List.map_flatMap]
      rw [List.flatMap_def]
      congr 1
      refine List.ext_getElem (by simp [hxl]) fun i h1 h2 => ?_
      have hi : i < xs.length := by simpa using h2
      simp [List.getD_eq_getElem?_getD, List.getElem?_eq_getElem hi]
    · rename_i k hu
      obtain ⟨z, rfl, rfl, _⟩ := DataW.trod_int hu hx
      rfl
    · rename_i hu
      obtain ⟨z, rfl, rfl⟩ := DataW.trod_bool hu hx
      rfl
    · cases h
theorem layAF_dat : ∀ (n : Nat) (fs : List Field) (off tot : Nat), layAF P n fs off tot = true → ∀ (m : Nat), n ≤ m → ∀ (fuel : Nat) (cs : List Value) (xs : List (DataW Unit × List MemPlace)), xs.length = fs.length →
    (∀ (i : Nat) (f : Field), fs[i]? = some f → DataW.trod enc P W 0 (fun _ => true) held fuel f.type ((cs.drop f.offset).take (P.cellsOf f.type)) = xs[i]?) → cs.length = tot → cs.drop off = (xs.flatMap fun x => fD m x.1).map toVal
  | 0, _, _, _, h => by unfold layAF at h; cases h
  | n + 1, [], off, tot, h => by
    intro m hm fuel cs xs hl hf hlen
    unfold layAF at h
    have : xs = [] := List.eq_nil_of_length_eq_zero (by simpa using hl)
    subst this
    have := Nat.eq_of_beq_eq_true h
    subst this
    simp; omega
  | n + 1, f :: fs, off, tot, h => by
    intro m hm fuel cs xs hl hf hlen
    unfold layAF at h
    simp only [Bool.and_eq_true] at h
    match xs, hl with
    | y :: ys, hl =>
      have h0 := lay_dat n f.type h.1.2 m (by omega) _ _ _ (hf 0 f rfl)
      have h1 := layAF_dat n fs (off + P.cellsOf f.type) tot h.2 m (by omega) fuel cs ys (by simpa using hl) (fun i r hr => hf (i + 1) r (by simpa using hr)) hlen
      rw [Nat.eq_of_beq_eq_true h.1.1] at h0
      rw [split_take cs off (P.cellsOf f.type), h0, h1]
      simp
end
end
end Go.Vk
end

section
namespace Go.Vk
open Go Go.ChangeShapes Go.WideShapes Go.RowKit Go.Deep
set_option linter.unusedVariables false
set_option linter.unusedSimpArgs false
def plainV : V → Bool
  | .int _ _ | .bool _ => true
  | _ => false
/-- A laid table, as a row. -/
theorem glob_rep {W : World} {g : Nat} {cs : List Value} {row : List V} (hp : 0 < row.length) (hr : row.all plainV = true) (hcs : cs = row.map toVal) (hc : ∀ r, r < cs.length → W.cell? ⟨g, r, none⟩ = cs[r]?) :
    Rep W (Old W) false (.pv none row 0) (.pointer (some ⟨g, 0, none⟩)) none' := by
  have hl : cs.length = row.length := by rw [hcs]; simp
  have hat : ∀ i, i < row.length → cs[i]? = some (toVal (cellAt row i)) := fun i hi => by
    rw [hcs, List.getElem?_map, List.getElem?_eq_getElem hi]
    unfold cellAt; rw [List.getElem?_eq_getElem hi]; rfl
  have c0 := hc 0 (by omega)
  rw [hat 0 hp] at c0
  have hblk : ∃ bs el fr, W.heap[g]? = some (.cells bs el fr) := by
    unfold World.cell? at c0
    split at c0
    · rename_i bs el fr hh; exact ⟨bs, el, fr, hh⟩
    · cases c0
  obtain ⟨bs, el, fr, hh⟩ := hblk
  refine .pvF _ _ _ g 0 bs el fr (fun i => toVal (cellAt row i)) _ hh (Array.getElem?_eq_some_iff.1 hh).1 (fun i hi => ?_) (fun i hi => ?_)
  · have := hc i (by omega)
    rw [hat i hi, cell_at hh] at this
    rw [Nat.zero_add]; exact this
  · have hm := List.all_eq_true.1 hr _ (cellAt_mem hi)
    cases hv : cellAt row i with
    | int k n => exact .int _ _ _ _
    | bool b => exact .bool _ _ _
    | _ => rw [hv] at hm; cases hm
end Go.Vk
end

section
namespace Go.Vk.St
open Go Go.Proofs Go.Vk
set_option linter.unusedVariables false
set_option maxRecDepth 100000
noncomputable abbrev prog : Program := Tryd.prog
abbrev tS1 : Ty := Ty.pair tI (Ty.pair tI tI)
abbrev U1 : Type := Int × Int × Int
abbrev tS0 : Ty := Ty.pair tS1 tS1
abbrev U0 : Type := U1 × U1
abbrev tS4 : Ty := Ty.pair tI (Ty.pair Ty.bool (Ty.pair tS1 tS1))
abbrev U4 : Type := Int × Bool × U1 × U1
abbrev tS3 : Ty := Ty.pair (Ty.sl tS0) tS4
abbrev U3 : Type := (Sl U0) × U4
abbrev tS2 : Ty := Ty.pair (Ty.sl tS0) (Ty.pair (Ty.sl tS3) (Ty.sl tI))
abbrev U2 : Type := (Sl U0) × (Sl U3) × Sl Int
abbrev tS6 : Ty := Ty.pair tI tS1
abbrev U6 : Type := Int × U1
abbrev tS5 : Ty := Ty.pair Ty.str tS6
abbrev U5 : Type := ByteArray × U6
abbrev tS7 : Ty := Ty.pair (Ty.sl tS2) (Ty.sl tS5)
abbrev U7 : Type := (Sl U2) × Sl U5
def s6 : Sig := ⟨[⟨false, Ty.bool, .dp⟩], []⟩
def s22 : Sig := ⟨[⟨false, tI, .dp⟩], []⟩
def s23 : Sig := ⟨[⟨true, tS7, .dp⟩, ⟨false, tI, .dp⟩], []⟩
def s24 : Sig := ⟨[⟨false, (Ty.sl tS0), .dp⟩], []⟩
def s25 : Sig := ⟨[⟨true, tS7, .dp⟩, ⟨false, tI, .dp⟩], []⟩
def s26 : Sig := ⟨[⟨false, Ty.bool, .dp⟩], []⟩
def s27 : Sig := ⟨[⟨false, Ty.bool, .dp⟩], []⟩
def s28 : Sig := ⟨[⟨false, tI, .dp⟩], [(Ty.sl tS0)]⟩
def s29 : Sig := ⟨[⟨false, tI, .dp⟩], [(Ty.sl tS2), (Ty.sl tS5)]⟩
def s30 : Sig := ⟨[⟨false, tI, .dp⟩], []⟩
def s53 : Sig := ⟨[⟨false, Ty.bool, .dp⟩], []⟩
def s60 : Sig := ⟨[⟨true, tS2, .dp⟩, ⟨false, tI, .dp⟩], []⟩
def s61 : Sig := ⟨[⟨true, tS0, .dp⟩], []⟩
def s62 : Sig := ⟨[⟨true, tS2, .dp⟩, ⟨false, tI, .dp⟩], []⟩
def s63 : Sig := ⟨[⟨false, Ty.bool, .dp⟩], []⟩
def s64 : Sig := ⟨[⟨false, Ty.bool, .dp⟩], []⟩
def s65 : Sig := ⟨[⟨false, Ty.bool, .dp⟩], []⟩
def s66 : Sig := ⟨[⟨false, tI, .dp⟩], [(Ty.sl tS2)]⟩
def s67 : Sig := ⟨[⟨false, tI, .dp⟩], [(Ty.sl tS5)]⟩
def s68 : Sig := ⟨[⟨false, tI, .dp⟩], []⟩
def s69 : Sig := ⟨[⟨false, tI, .dp⟩], []⟩
def s77 : Sig := ⟨[⟨false, Ty.str, .dp⟩], []⟩
def s88 : Sig := ⟨[⟨false, Ty.bool, .dp⟩], []⟩
def s91 : Sig := ⟨[⟨true, tS1, .dp⟩], []⟩
def s92 : Sig := ⟨[⟨false, Ty.bool, .dp⟩], []⟩
def s96 : Sig := ⟨[⟨false, Ty.bool, .dp⟩], []⟩
def s97 : Sig := ⟨[⟨false, Ty.bool, .dp⟩], []⟩
def s98 : Sig := ⟨[⟨false, Ty.bool, .dp⟩], []⟩
def s99 : Sig := ⟨[⟨false, (Ty.sl tS0), .dp⟩], []⟩
def s100 : Sig := ⟨[⟨true, tS4, .dp⟩], []⟩
def s101 : Sig := ⟨[⟨false, Ty.bool, .dp⟩], []⟩
def s102 : Sig := ⟨[⟨false, Ty.bool, .dp⟩], []⟩
def s103 : Sig := ⟨[⟨false, Ty.bool, .dp⟩], []⟩
def s104 : Sig := ⟨[⟨false, tI, .dp⟩], [(Ty.sl tS3)]⟩
def s105 : Sig := ⟨[⟨false, tI, .dp⟩], [(Ty.sl tI)]⟩
def s106 : Sig := ⟨[⟨false, tI, .dp⟩], []⟩
def s107 : Sig := ⟨[⟨false, tI, .dp⟩], []⟩
def s108 : Sig := ⟨[⟨false, tI, .dp⟩], []⟩
def s134 : Sig := ⟨[⟨false, Ty.bool, .dp⟩], []⟩
def s141 : Sig := ⟨[⟨false, Ty.bool, .dp⟩], []⟩
def s142 : Sig := ⟨[⟨false, tI, .dp⟩], []⟩
def s143 : Sig := ⟨[⟨false, (Ty.sl tI), .dp⟩, ⟨false, Ty.bool, .dp⟩], []⟩
def s144 : Sig := ⟨[⟨false, (Ty.sl tS0), .dp⟩], []⟩
def s145 : Sig := ⟨[⟨false, tI, .dp⟩], []⟩
def s146 : Sig := ⟨[⟨false, tI, .dp⟩], []⟩
def s147 : Sig := ⟨[⟨false, Ty.bool, .dp⟩], []⟩
def s148 : Sig := ⟨[⟨false, Ty.bool, .dp⟩], []⟩
def s149 : Sig := ⟨[⟨false, tI, .dp⟩], []⟩
def s150 : Sig := ⟨[⟨false, Ty.bool, .dp⟩], []⟩
def s151 : Sig := ⟨[⟨false, Ty.bool, .dp⟩], []⟩
def s179 : Sig := ⟨[⟨false, tI, .dp⟩], []⟩
def s180 : Sig := ⟨[⟨false, tI, .dp⟩], []⟩
def s181 : Sig := ⟨[⟨true, tS0, .dp⟩], []⟩
def s182 : Sig := ⟨[⟨true, tS0, .dp⟩], []⟩
def s183 : Sig := ⟨[⟨false, Ty.bool, .dp⟩], []⟩
def s184 : Sig := ⟨[⟨false, Ty.bool, .dp⟩], []⟩
def s185 : Sig := ⟨[⟨false, Ty.bool, .dp⟩], []⟩
def s186 : Sig := ⟨[⟨false, tI, .dp⟩], []⟩
def s187 : Sig := ⟨[⟨false, tI, .dp⟩], []⟩
def s188 : Sig := ⟨[⟨false, tI, .dp⟩], []⟩
def s189 : Sig := ⟨[⟨false, Ty.bool, .dp⟩], []⟩
def s210 : Sig := ⟨[⟨false, tI, .dp⟩], []⟩
def s211 : Sig := ⟨[⟨true, tS1, .dp⟩], []⟩
def s212 : Sig := ⟨[⟨true, tS1, .dp⟩], []⟩
def s213 : Sig := ⟨[⟨false, Ty.bool, .dp⟩], []⟩
def s214 : Sig := ⟨[⟨true, tS1, .dp⟩], []⟩
def s215 : Sig := ⟨[⟨false, tI, .dp⟩], []⟩
def s216 : Sig := ⟨[⟨true, tS0, .dp⟩], []⟩
def s217 : Sig := ⟨[⟨true, tS0, .dp⟩], []⟩
def s218 : Sig := ⟨[⟨true, tS1, .dp⟩], []⟩
def s219 : Sig := ⟨[⟨true, tS1, .dp⟩], []⟩
def s220 : Sig := ⟨[⟨false, tI, .dp⟩], []⟩
def s221 : Sig := ⟨[⟨false, tI, .dp⟩], []⟩
def s222 : Sig := ⟨[⟨false, Ty.bool, .dp⟩], []⟩
def s223 : Sig := ⟨[⟨true, tS1, .dp⟩], []⟩
def s239 : Sig := ⟨[⟨false, Ty.bool, .dp⟩], []⟩
def s240 : Sig := ⟨[⟨true, tS1, .dp⟩], []⟩
def s241 : Sig := ⟨[⟨true, tS1, .dp⟩], []⟩
def s242 : Sig := ⟨[⟨true, tS0, .dp⟩], []⟩
def s243 : Sig := ⟨[⟨true, tS1, .dp⟩], []⟩
def s244 : Sig := ⟨[⟨true, tS1, .dp⟩], []⟩
def s245 : Sig := ⟨[⟨true, tS1, .dp⟩], []⟩
def s246 : Sig := ⟨[⟨true, tS1, .dp⟩], []⟩
def s247 : Sig := ⟨[⟨true, tS1, .dp⟩], []⟩
def s248 : Sig := ⟨[⟨false, tI, .dp⟩], []⟩
def s249 : Sig := ⟨[⟨false, Ty.bool, .dp⟩], []⟩
def s256 : Sig := ⟨[⟨false, (Ty.int .u64), .dp⟩, ⟨false, (Ty.int .u64), .dp⟩], []⟩
def s257 : Sig := ⟨[⟨true, tS1, .dp⟩], []⟩
def s258 : Sig := ⟨[⟨false, (Ty.int .u64), .dp⟩, ⟨false, (Ty.int .u64), .dp⟩], []⟩
def s259 : Sig := ⟨[⟨false, tI, .dp⟩], []⟩
def sg : FuncId → Option Sig := sigOf [(6, s6), (22, s22), (23, s23), (24, s24), (25, s25), (26, s26), (27, s27), (28, s28), (29, s29), (30, s30), (53, s53), (60, s60), (61, s61), (62, s62), (63, s63), (64, s64), (65, s65), (66, s66), (67, s67), (68, s68), (69, s69), (77, s77), (88, s88), (91, s91), (92, s92), (96, s96), (97, s97), (98, s98), (99, s99), (100, s100), (101, s101), (102, s102), (103, s103), (104, s104), (105, s105), (106, s106), (107, s107), (108, s108), (134, s134), (141, s141), (142, s142), (143, s143), (144, s144), (145, s145), (146, s146), (147, s147), (148, s148), (149, s149), (150, s150), (151, s151), (179, s179), (180, s180), (181, s181), (182, s182), (183, s183), (184, s184), (185, s185), (186, s186), (187, s187), (188, s188), (189, s189), (210, s210), (211, s211), (212, s212), (213, s213), (214, s214), (215, s215), (216, s216), (217, s217), (218, s218), (219, s219), (220, s220), (221, s221), (222, s222), (223, s223), (239, s239), (240, s240), (241, s241), (242, s242), (243, s243), (244, s244), (245, s245), (246, s246), (247, s247), (248, s248), (249, s249), (256, s256), (257, s257), (258, s258), (259, s259)]
def Ms : FuncId → List Slot := slotsOf [(28, [(0, none)]), (105, [(0, none)]), (104, [(0, none)]), (67, [(0, none)]), (66, [(0, none)]), (29, [(0, some 0), (0, some 1)])]
def Ls : FuncId → Nat → Option (List (Nat × Nat)) := liveOf [(24, [(6, [(0, 0), (3, 0), (4, 0)])]), (27, [(8, [(0, 0), (1, 0), (5, 0)])]), (28, [(4, [(0, 0), (1, 0), (5, 0)]), (11, [(0, 0), (1, 0), (5, 0)]), (15, [(0, 0), (1, 0), (5, 0)]), (19, [(0, 0), (1, 0), (5, 0)]), (23, [(0, 0), (1, 0), (5, 0)]), (27, [(0, 0), (1, 0), (5, 0)]), (31, [(0, 0), (1, 0), (5, 0)])]), (63, [(8, [(0, 0), (1, 0), (5, 0)])]), (64, [(8, [(0, 0), (1, 0), (5, 0)])]), (66, [(4, [(0, 0), (1, 0), (5, 0)]), (11, [(0, 0), (1, 0), (5, 0)]), (13, [(0, 0), (1, 0), (5, 0)])]), (67, [(4, [(0, 0), (1, 0), (5, 0)]), (11, [(0, 0), (1, 0), (5, 0)]), (15, [(0, 0), (1, 0), (5, 0)]), (19, [(0, 0), (1, 0), (5, 0)]), (23, [(0, 0), (1, 0), (5, 0)]), (27, [(0, 0), (1, 0), (5, 0)])]), (68, [(4, [(0, 0), (1, 0), (5, 0)])]), (69, [(4, [(0, 0), (1, 0), (5, 0)])]), (77, [(8, [(0, 0), (3, 0)])]), (97, [(10, [(0, 0), (3, 0), (4, 0)]), (28, [(3, 0), (5, 0), (7, 0), (8, 0)])]), (104, [(4, [(0, 0), (1, 0), (5, 0)]), (11, [(0, 0), (1, 0), (5, 0)]), (13, [(0, 0), (1, 0), (5, 0)]), (17, [(0, 0), (1, 0), (5, 0)]), (21, [(0, 0), (1, 0), (5, 0)]), (25, [(0, 0), (1, 0), (5, 0)]), (29, [(0, 0), (1, 0), (5, 0)]), (33, [(0, 0), (1, 0), (5, 0)]), (37, [(0, 0), (1, 0), (5, 0)]), (41, [(0, 0), (1, 0), (5, 0)])]), (105, [(4, [(0, 0), (1, 0), (5, 0)])]), (106, [(4, [(0, 0), (1, 0), (5, 0)])]), (107, [(4, [(0, 0), (1, 0), (5, 0)])]), (108, [(4, [(0, 0), (1, 0), (5, 0)])]), (143, [(6, [(0, 0), (4, 0), (5, 0)])]), (144, [(6, [(0, 0), (3, 0), (4, 0)])]), (148, [(14, [(0, 0), (3, 0), (4, 0), (5, 0), (23, 0), (24, 0), (25, 0)])]), (149, [(6, [(0, 0), (3, 0), (6, 0), (7, 0), (8, 0)])]), (150, [(8, [(0, 0), (1, 0), (5, 0)])]), (151, [(8, [(0, 0), (1, 0), (5, 0)])]), (180, [(4, [(1, 0), (3, 0)])]), (186, [(6, [(5, 0), (11, 0)])]), (215, [(4, [(0, 0), (1, 0), (7, 0), (8, 0)])]), (223, [(6, [(1, 0), (2, 0)])]), (240, [(2, [(2, 0), (3, 0), (4, 0)]), (10, [(2, 0), (3, 0), (4, 0)])]), (257, [(2, [(1, 0), (2, 0)])])]
def Gs : Nat → Option (List V) := look [(5, [.int .i64 (1 : Int), .int .i64 (0 : Int), .int .i64 (0 : Int), .int .i64 (0 : Int), .int .i64 (0 : Int), .int .i64 (0 : Int), .int .i64 (1 : Int), .int .i64 (0 : Int), .int .i64 (0 : Int), .int .i64 (-1 : Int), .int .i64 (1 : Int), .int .i64 (0 : Int), .int .i64 (1 : Int), .int .i64 (0 : Int), .int .i64 (0 : Int), .int .i64 (1 : Int), .int .i64 (0 : Int), .int .i64 (0 : Int), .int .i64 (-1 : Int), .int .i64 (1 : Int), .int .i64 (0 : Int), .int .i64 (1 : Int), .int .i64 (0 : Int), .int .i64 (0 : Int), .int .i64 (0 : Int), .int .i64 (0 : Int), .int .i64 (0 : Int), .int .i64 (1 : Int), .int .i64 (0 : Int), .int .i64 (0 : Int), .int .i64 (1 : Int), .int .i64 (-1 : Int), .int .i64 (0 : Int), .int .i64 (1 : Int), .int .i64 (0 : Int), .int .i64 (0 : Int), .int .i64 (-1 : Int), .int .i64 (0 : Int), .int .i64 (0 : Int), .int .i64 (1 : Int), .int .i64 (0 : Int), .int .i64 (0 : Int), .int .i64 (-1 : Int), .int .i64 (0 : Int), .int .i64 (0 : Int), .int .i64 (-1 : Int), .int .i64 (1 : Int), .int .i64 (0 : Int)])]
noncomputable def Y : Sys := sysP prog Ms Ls Gs
noncomputable def tb : CK := tabK sg Y.om.call
noncomputable def c6 (args : List V) (k : (Bool × Unit) × (Unit) → Option Ret) : Option Ret := callG Y.om.call s6 6 args k
noncomputable def c22 (args : List V) (k : (Int × Unit) × (Unit) → Option Ret) : Option Ret := callG Y.om.call s22 22 args k
noncomputable def c23 (args : List V) (k : (U7 × Int × Unit) × (Unit) → Option Ret) : Option Ret := callG Y.om.call s23 23 args k
noncomputable def c24 (args : List V) (k : ((Sl U0) × Unit) × (Unit) → Option Ret) : Option Ret := callG Y.om.call s24 24 args k
noncomputable def c25 (args : List V) (k : (U7 × Int × Unit) × (Unit) → Option Ret) : Option Ret := callG Y.om.call s25 25 args k
noncomputable def c26 (args : List V) (k : (Bool × Unit) × (Unit) → Option Ret) : Option Ret := callG Y.om.call s26 26 args k
noncomputable def c27 (args : List V) (k : (Bool × Unit) × (Unit) → Option Ret) : Option Ret := callG Y.om.call s27 27 args k
noncomputable def c28 (args : List V) (k : (Int × Unit) × ((Sl U0) × Unit) → Option Ret) : Option Ret := callG Y.om.call s28 28 args k
noncomputable def c29 (args : List V) (k : (Int × Unit) × ((Sl U2) × (Sl U5) × Unit) → Option Ret) : Option Ret := callG Y.om.call s29 29 args k
noncomputable def c30 (args : List V) (k : (Int × Unit) × (Unit) → Option Ret) : Option Ret := callG Y.om.call s30 30 args k
noncomputable def c53 (args : List V) (k : (Bool × Unit) × (Unit) → Option Ret) : Option Ret := callG Y.om.call s53 53 args k
noncomputable def c60 (args : List V) (k : (U2 × Int × Unit) × (Unit) → Option Ret) : Option Ret := callG Y.om.call s60 60 args k
noncomputable def c61 (args : List V) (k : (U0 × Unit) × (Unit) → Option Ret) : Option Ret := callG Y.om.call s61 61 args k
noncomputable def c62 (args : List V) (k : (U2 × Int × Unit) × (Unit) → Option Ret) : Option Ret := callG Y.om.call s62 62 args k
noncomputable def c63 (args : List V) (k : (Bool × Unit) × (Unit) → Option Ret) : Option Ret := callG Y.om.call s63 63 args k
noncomputable def c64 (args : List V) (k : (Bool × Unit) × (Unit) → Option Ret) : Option Ret := callG Y.om.call s64 64 args k
noncomputable def c65 (args : List V) (k : (Bool × Unit) × (Unit) → Option Ret) : Option Ret := callG Y.om.call s65 65 args k
noncomputable def c66 (args : List V) (k : (Int × Unit) × ((Sl U2) × Unit) → Option Ret) : Option Ret := callG Y.om.call s66 66 args k
noncomputable def c67 (args : List V) (k : (Int × Unit) × ((Sl U5) × Unit) → Option Ret) : Option Ret := callG Y.om.call s67 67 args k
noncomputable def c68 (args : List V) (k : (Int × Unit) × (Unit) → Option Ret) : Option Ret := callG Y.om.call s68 68 args k
noncomputable def c69 (args : List V) (k : (Int × Unit) × (Unit) → Option Ret) : Option Ret := callG Y.om.call s69 69 args k
noncomputable def c77 (args : List V) (k : (ByteArray × Unit) × (Unit) → Option Ret) : Option Ret := callG Y.om.call s77 77 args k
noncomputable def c88 (args : List V) (k : (Bool × Unit) × (Unit) → Option Ret) : Option Ret := callG Y.om.call s88 88 args k
noncomputable def c91 (args : List V) (k : (U1 × Unit) × (Unit) → Option Ret) : Option Ret := callG Y.om.call s91 91 args k
noncomputable def c92 (args : List V) (k : (Bool × Unit) × (Unit) → Option Ret) : Option Ret := callG Y.om.call s92 92 args k
noncomputable def c96 (args : List V) (k : (Bool × Unit) × (Unit) → Option Ret) : Option Ret := callG Y.om.call s96 96 args k
noncomputable def c97 (args : List V) (k : (Bool × Unit) × (Unit) → Option Ret) : Option Ret := callG Y.om.call s97 97 args k
noncomputable def c98 (args : List V) (k : (Bool × Unit) × (Unit) → Option Ret) : Option Ret := callG Y.om.call s98 98 args k
noncomputable def c99 (args : List V) (k : ((Sl U0) × Unit) × (Unit) → Option Ret) : Option Ret := callG Y.om.call s99 99 args k
noncomputable def c100 (args : List V) (k : (U4 × Unit) × (Unit) → Option Ret) : Option Ret := callG Y.om.call s100 100 args k
noncomputable def c101 (args : List V) (k : (Bool × Unit) × (Unit) → Option Ret) : Option Ret := callG Y.om.call s101 101 args k
noncomputable def c102 (args : List V) (k : (Bool × Unit) × (Unit) → Option Ret) : Option Ret := callG Y.om.call s102 102 args k
noncomputable def c103 (args : List V) (k : (Bool × Unit) × (Unit) → Option Ret) : Option Ret := callG Y.om.call s103 103 args k
noncomputable def c104 (args : List V) (k : (Int × Unit) × ((Sl U3) × Unit) → Option Ret) : Option Ret := callG Y.om.call s104 104 args k
noncomputable def c105 (args : List V) (k : (Int × Unit) × ((Sl Int) × Unit) → Option Ret) : Option Ret := callG Y.om.call s105 105 args k
noncomputable def c106 (args : List V) (k : (Int × Unit) × (Unit) → Option Ret) : Option Ret := callG Y.om.call s106 106 args k
noncomputable def c107 (args : List V) (k : (Int × Unit) × (Unit) → Option Ret) : Option Ret := callG Y.om.call s107 107 args k
noncomputable def c108 (args : List V) (k : (Int × Unit) × (Unit) → Option Ret) : Option Ret := callG Y.om.call s108 108 args k
noncomputable def c134 (args : List V) (k : (Bool × Unit) × (Unit) → Option Ret) : Option Ret := callG Y.om.call s134 134 args k
noncomputable def c141 (args : List V) (k : (Bool × Unit) × (Unit) → Option Ret) : Option Ret := callG Y.om.call s141 141 args k
noncomputable def c142 (args : List V) (k : (Int × Unit) × (Unit) → Option Ret) : Option Ret := callG Y.om.call s142 142 args k
noncomputable def c143 (args : List V) (k : ((Sl Int) × Bool × Unit) × (Unit) → Option Ret) : Option Ret := callG Y.om.call s143 143 args k
noncomputable def c144 (args : List V) (k : ((Sl U0) × Unit) × (Unit) → Option Ret) : Option Ret := callG Y.om.call s144 144 args k
noncomputable def c145 (args : List V) (k : (Int × Unit) × (Unit) → Option Ret) : Option Ret := callG Y.om.call s145 145 args k
noncomputable def c146 (args : List V) (k : (Int × Unit) × (Unit) → Option Ret) : Option Ret := callG Y.om.call s146 146 args k
noncomputable def c147 (args : List V) (k : (Bool × Unit) × (Unit) → Option Ret) : Option Ret := callG Y.om.call s147 147 args k
noncomputable def c148 (args : List V) (k : (Bool × Unit) × (Unit) → Option Ret) : Option Ret := callG Y.om.call s148 148 args k
noncomputable def c149 (args : List V) (k : (Int × Unit) × (Unit) → Option Ret) : Option Ret := callG Y.om.call s149 149 args k
noncomputable def c150 (args : List V) (k : (Bool × Unit) × (Unit) → Option Ret) : Option Ret := callG Y.om.call s150 150 args k
noncomputable def c151 (args : List V) (k : (Bool × Unit) × (Unit) → Option Ret) : Option Ret := callG Y.om.call s151 151 args k
noncomputable def c179 (args : List V) (k : (Int × Unit) × (Unit) → Option Ret) : Option Ret := callG Y.om.call s179 179 args k
noncomputable def c180 (args : List V) (k : (Int × Unit) × (Unit) → Option Ret) : Option Ret := callG Y.om.call s180 180 args k
noncomputable def c181 (args : List V) (k : (U0 × Unit) × (Unit) → Option Ret) : Option Ret := callG Y.om.call s181 181 args k
noncomputable def c182 (args : List V) (k : (U0 × Unit) × (Unit) → Option Ret) : Option Ret := callG Y.om.call s182 182 args k
noncomputable def c183 (args : List V) (k : (Bool × Unit) × (Unit) → Option Ret) : Option Ret := callG Y.om.call s183 183 args k
noncomputable def c184 (args : List V) (k : (Bool × Unit) × (Unit) → Option Ret) : Option Ret := callG Y.om.call s184 184 args k
noncomputable def c185 (args : List V) (k : (Bool × Unit) × (Unit) → Option Ret) : Option Ret := callG Y.om.call s185 185 args k
noncomputable def c186 (args : List V) (k : (Int × Unit) × (Unit) → Option Ret) : Option Ret := callG Y.om.call s186 186 args k
noncomputable def c187 (args : List V) (k : (Int × Unit) × (Unit) → Option Ret) : Option Ret := callG Y.om.call s187 187 args k
noncomputable def c188 (args : List V) (k : (Int × Unit) × (Unit) → Option Ret) : Option Ret := callG Y.om.call s188 188 args k
noncomputable def c189 (args : List V) (k : (Bool × Unit) × (Unit) → Option Ret) : Option Ret := callG Y.om.call s189 189 args k
noncomputable def c210 (args : List V) (k : (Int × Unit) × (Unit) → Option Ret) : Option Ret := callG Y.om.call s210 210 args k
noncomputable def c211 (args : List V) (k : (U1 × Unit) × (Unit) → Option Ret) : Option Ret := callG Y.om.call s211 211 args k
noncomputable def c212 (args : List V) (k : (U1 × Unit) × (Unit) → Option Ret) : Option Ret := callG Y.om.call s212 212 args k
noncomputable def c213 (args : List V) (k : (Bool × Unit) × (Unit) → Option Ret) : Option Ret := callG Y.om.call s213 213 args k
noncomputable def c214 (args : List V) (k : (U1 × Unit) × (Unit) → Option Ret) : Option Ret := callG Y.om.call s214 214 args k
noncomputable def c215 (args : List V) (k : (Int × Unit) × (Unit) → Option Ret) : Option Ret := callG Y.om.call s215 215 args k
noncomputable def c216 (args : List V) (k : (U0 × Unit) × (Unit) → Option Ret) : Option Ret := callG Y.om.call s216 216 args k
noncomputable def c217 (args : List V) (k : (U0 × Unit) × (Unit) → Option Ret) : Option Ret := callG Y.om.call s217 217 args k
noncomputable def c218 (args : List V) (k : (U1 × Unit) × (Unit) → Option Ret) : Option Ret := callG Y.om.call s218 218 args k
noncomputable def c219 (args : List V) (k : (U1 × Unit) × (Unit) → Option Ret) : Option Ret := callG Y.om.call s219 219 args k
noncomputable def c220 (args : List V) (k : (Int × Unit) × (Unit) → Option Ret) : Option Ret := callG Y.om.call s220 220 args k
noncomputable def c221 (args : List V) (k : (Int × Unit) × (Unit) → Option Ret) : Option Ret := callG Y.om.call s221 221 args k
noncomputable def c222 (args : List V) (k : (Bool × Unit) × (Unit) → Option Ret) : Option Ret := callG Y.om.call s222 222 args k
noncomputable def c223 (args : List V) (k : (U1 × Unit) × (Unit) → Option Ret) : Option Ret := callG Y.om.call s223 223 args k
noncomputable def c239 (args : List V) (k : (Bool × Unit) × (Unit) → Option Ret) : Option Ret := callG Y.om.call s239 239 args k
noncomputable def c240 (args : List V) (k : (U1 × Unit) × (Unit) → Option Ret) : Option Ret := callG Y.om.call s240 240 args k
noncomputable def c241 (args : List V) (k : (U1 × Unit) × (Unit) → Option Ret) : Option Ret := callG Y.om.call s241 241 args k
noncomputable def c242 (args : List V) (k : (U0 × Unit) × (Unit) → Option Ret) : Option Ret := callG Y.om.call s242 242 args k
noncomputable def c243 (args : List V) (k : (U1 × Unit) × (Unit) → Option Ret) : Option Ret := callG Y.om.call s243 243 args k
noncomputable def c244 (args : List V) (k : (U1 × Unit) × (Unit) → Option Ret) : Option Ret := callG Y.om.call s244 244 args k
noncomputable def c245 (args : List V) (k : (U1 × Unit) × (Unit) → Option Ret) : Option Ret := callG Y.om.call s245 245 args k
noncomputable def c246 (args : List V) (k : (U1 × Unit) × (Unit) → Option Ret) : Option Ret := callG Y.om.call s246 246 args k
noncomputable def c247 (args : List V) (k : (U1 × Unit) × (Unit) → Option Ret) : Option Ret := callG Y.om.call s247 247 args k
noncomputable def c248 (args : List V) (k : (Int × Unit) × (Unit) → Option Ret) : Option Ret := callG Y.om.call s248 248 args k
noncomputable def c249 (args : List V) (k : (Bool × Unit) × (Unit) → Option Ret) : Option Ret := callG Y.om.call s249 249 args k
noncomputable def c256 (args : List V) (k : (Int × Int × Unit) × (Unit) → Option Ret) : Option Ret := callG Y.om.call s256 256 args k
noncomputable def c257 (args : List V) (k : (U1 × Unit) × (Unit) → Option Ret) : Option Ret := callG Y.om.call s257 257 args k
noncomputable def c258 (args : List V) (k : (Int × Int × Unit) × (Unit) → Option Ret) : Option Ret := callG Y.om.call s258 258 args k
noncomputable def c259 (args : List V) (k : (Int × Unit) × (Unit) → Option Ret) : Option Ret := callG Y.om.call s259 259 args k
noncomputable def k22 (x0 : Sl U0) (x1 : Int) (k : (Int × Unit) × (Unit) → Option Ret) : Option Ret := callG Y.om.call s22 22 [svl tS0 x0, .int .i64 x1] k
noncomputable def k23 (x0 : Sl U0) (k : (U7 × Int × Unit) × (Unit) → Option Ret) : Option Ret := callG Y.om.call s23 23 [svl tS0 x0] k
noncomputable def k24 (x0 : Sl U0) (k : ((Sl U0) × Unit) × (Unit) → Option Ret) : Option Ret := callG Y.om.call s24 24 [svl tS0 x0] k
noncomputable def k25 (x0 : Sl U0) (k : (U7 × Int × Unit) × (Unit) → Option Ret) : Option Ret := callG Y.om.call s25 25 [svl tS0 x0] k
noncomputable def k26 (x0 : U7) (x1 : U7) (k : (Bool × Unit) × (Unit) → Option Ret) : Option Ret := callG Y.om.call s26 26 [.agg (tS7.cells x0), .agg (tS7.cells x1)] k
noncomputable def k27 (x0 : Sl U0) (x1 : Sl U0) (k : (Bool × Unit) × (Unit) → Option Ret) : Option Ret := callG Y.om.call s27 27 [svl tS0 x0, svl tS0 x1] k
noncomputable def k28 (x0 : Sl U0) (x1 : Int) (k : (Int × Unit) × ((Sl U0) × Unit) → Option Ret) : Option Ret := callG Y.om.call s28 28 [svl tS0 x0, .int .i64 x1] k
noncomputable def k29 (x0 : U7) (x1 : Int) (k : (Int × Unit) × ((Sl U2) × (Sl U5) × Unit) → Option Ret) : Option Ret := callG Y.om.call s29 29 [.agg (tS7.cells x0), .int .i64 x1] k
noncomputable def k30 (x0 : U7) (x1 : Int) (k : (Int × Unit) × (Unit) → Option Ret) : Option Ret := callG Y.om.call s30 30 [.agg (tS7.cells x0), .int .i64 x1] k
noncomputable def k53 (x0 : Int) (x1 : Int) (x2 : Int) (k : (Bool × Unit) × (Unit) → Option Ret) : Option Ret := callG Y.om.call s53 53 [.int .i64 x0, .int .i64 x1, .int .i64 x2] k
noncomputable def k60 (x0 : Sl U0) (k : (U2 × Int × Unit) × (Unit) → Option Ret) : Option Ret := callG Y.om.call s60 60 [svl tS0 x0] k
noncomputable def k61 (x0 : U0) (k : (U0 × Unit) × (Unit) → Option Ret) : Option Ret := callG Y.om.call s61 61 [.agg (tS0.cells x0)] k
noncomputable def k62 (x0 : Sl U0) (k : (U2 × Int × Unit) × (Unit) → Option Ret) : Option Ret := callG Y.om.call s62 62 [svl tS0 x0] k
noncomputable def k63 (x0 : Sl U2) (x1 : Sl U2) (k : (Bool × Unit) × (Unit) → Option Ret) : Option Ret := callG Y.om.call s63 63 [svl tS2 x0, svl tS2 x1] k
noncomputable def k64 (x0 : Sl U5) (x1 : Sl U5) (k : (Bool × Unit) × (Unit) → Option Ret) : Option Ret := callG Y.om.call s64 64 [svl tS5 x0, svl tS5 x1] k
noncomputable def k65 (x0 : U0) (x1 : U0) (k : (Bool × Unit) × (Unit) → Option Ret) : Option Ret := callG Y.om.call s65 65 [.agg (tS0.cells x0), .agg (tS0.cells x1)] k
noncomputable def k66 (x0 : Sl U2) (x1 : Int) (k : (Int × Unit) × ((Sl U2) × Unit) → Option Ret) : Option Ret := callG Y.om.call s66 66 [svl tS2 x0, .int .i64 x1] k
noncomputable def k67 (x0 : Sl U5) (x1 : Int) (k : (Int × Unit) × ((Sl U5) × Unit) → Option Ret) : Option Ret := callG Y.om.call s67 67 [svl tS5 x0, .int .i64 x1] k
noncomputable def k68 (x0 : Sl U2) (x1 : Int) (k : (Int × Unit) × (Unit) → Option Ret) : Option Ret := callG Y.om.call s68 68 [svl tS2 x0, .int .i64 x1] k
noncomputable def k69 (x0 : Sl U5) (x1 : Int) (k : (Int × Unit) × (Unit) → Option Ret) : Option Ret := callG Y.om.call s69 69 [svl tS5 x0, .int .i64 x1] k
noncomputable def k77 (x0 : Int) (k : (ByteArray × Unit) × (Unit) → Option Ret) : Option Ret := callG Y.om.call s77 77 [.int .i64 x0] k
noncomputable def k88 (x0 : Int) (x1 : Int) (x2 : Int) (k : (Bool × Unit) × (Unit) → Option Ret) : Option Ret := callG Y.om.call s88 88 [.int .i64 x0, .int .i64 x1, .int .i64 x2] k
noncomputable def k91 (x0 : U1) (k : (U1 × Unit) × (Unit) → Option Ret) : Option Ret := callG Y.om.call s91 91 [.agg (tS1.cells x0)] k
noncomputable def k92 (x0 : U1) (k : (Bool × Unit) × (Unit) → Option Ret) : Option Ret := callG Y.om.call s92 92 [.agg (tS1.cells x0)] k
noncomputable def k96 (x0 : U6) (x1 : U6) (k : (Bool × Unit) × (Unit) → Option Ret) : Option Ret := callG Y.om.call s96 96 [.agg (tS6.cells x0), .agg (tS6.cells x1)] k
noncomputable def k97 (x0 : Sl U0) (k : (Bool × Unit) × (Unit) → Option Ret) : Option Ret := callG Y.om.call s97 97 [svl tS0 x0] k
noncomputable def k98 (x0 : Sl U0) (k : (Bool × Unit) × (Unit) → Option Ret) : Option Ret := callG Y.om.call s98 98 [svl tS0 x0] k
noncomputable def k99 (x0 : Sl U0) (k : ((Sl U0) × Unit) × (Unit) → Option Ret) : Option Ret := callG Y.om.call s99 99 [svl tS0 x0] k
noncomputable def k100  (k : (U4 × Unit) × (Unit) → Option Ret) : Option Ret := callG Y.om.call s100 100 [] k
noncomputable def k101 (x0 : U2) (x1 : U2) (k : (Bool × Unit) × (Unit) → Option Ret) : Option Ret := callG Y.om.call s101 101 [.agg (tS2.cells x0), .agg (tS2.cells x1)] k
noncomputable def k102 (x0 : U5) (x1 : U5) (k : (Bool × Unit) × (Unit) → Option Ret) : Option Ret := callG Y.om.call s102 102 [.agg (tS5.cells x0), .agg (tS5.cells x1)] k
noncomputable def k103 (x0 : U1) (x1 : U1) (k : (Bool × Unit) × (Unit) → Option Ret) : Option Ret := callG Y.om.call s103 103 [.agg (tS1.cells x0), .agg (tS1.cells x1)] k
noncomputable def k104 (x0 : Sl U3) (x1 : Int) (k : (Int × Unit) × ((Sl U3) × Unit) → Option Ret) : Option Ret := callG Y.om.call s104 104 [svl tS3 x0, .int .i64 x1] k
noncomputable def k105 (x0 : Sl Int) (x1 : Int) (k : (Int × Unit) × ((Sl Int) × Unit) → Option Ret) : Option Ret := callG Y.om.call s105 105 [svl tI x0, .int .i64 x1] k
noncomputable def k106 (x0 : Sl U0) (x1 : Int) (k : (Int × Unit) × (Unit) → Option Ret) : Option Ret := callG Y.om.call s106 106 [svl tS0 x0, .int .i64 x1] k
noncomputable def k107 (x0 : Sl U3) (x1 : Int) (k : (Int × Unit) × (Unit) → Option Ret) : Option Ret := callG Y.om.call s107 107 [svl tS3 x0, .int .i64 x1] k
noncomputable def k108 (x0 : Sl Int) (x1 : Int) (k : (Int × Unit) × (Unit) → Option Ret) : Option Ret := callG Y.om.call s108 108 [svl tI x0, .int .i64 x1] k
noncomputable def k134 (x0 : U1) (k : (Bool × Unit) × (Unit) → Option Ret) : Option Ret := callG Y.om.call s134 134 [.agg (tS1.cells x0)] k
noncomputable def k141 (x0 : U0) (k : (Bool × Unit) × (Unit) → Option Ret) : Option Ret := callG Y.om.call s141 141 [.agg (tS0.cells x0)] k
noncomputable def k142 (x0 : U0) (x1 : U0) (k : (Int × Unit) × (Unit) → Option Ret) : Option Ret := callG Y.om.call s142 142 [.agg (tS0.cells x0), .agg (tS0.cells x1)] k
noncomputable def k143 (x0 : Sl U0) (k : ((Sl Int) × Bool × Unit) × (Unit) → Option Ret) : Option Ret := callG Y.om.call s143 143 [svl tS0 x0] k
noncomputable def k144 (x0 : Sl U0) (k : ((Sl U0) × Unit) × (Unit) → Option Ret) : Option Ret := callG Y.om.call s144 144 [svl tS0 x0] k
noncomputable def k145 (x0 : Int) (k : (Int × Unit) × (Unit) → Option Ret) : Option Ret := callG Y.om.call s145 145 [.int .i64 x0] k
noncomputable def k146 (x0 : Sl U0) (k : (Int × Unit) × (Unit) → Option Ret) : Option Ret := callG Y.om.call s146 146 [svl tS0 x0] k
noncomputable def k147 (x0 : Sl U0) (k : (Bool × Unit) × (Unit) → Option Ret) : Option Ret := callG Y.om.call s147 147 [svl tS0 x0] k
noncomputable def k148 (x0 : Sl U0) (k : (Bool × Unit) × (Unit) → Option Ret) : Option Ret := callG Y.om.call s148 148 [svl tS0 x0] k
noncomputable def k149 (x0 : Sl U0) (k : (Int × Unit) × (Unit) → Option Ret) : Option Ret := callG Y.om.call s149 149 [svl tS0 x0] k
noncomputable def k150 (x0 : Sl U3) (x1 : Sl U3) (k : (Bool × Unit) × (Unit) → Option Ret) : Option Ret := callG Y.om.call s150 150 [svl tS3 x0, svl tS3 x1] k
noncomputable def k151 (x0 : Sl Int) (x1 : Sl Int) (k : (Bool × Unit) × (Unit) → Option Ret) : Option Ret := callG Y.om.call s151 151 [svl tI x0, svl tI x1] k
noncomputable def k179 (x0 : U1) (x1 : U1) (k : (Int × Unit) × (Unit) → Option Ret) : Option Ret := callG Y.om.call s179 179 [.agg (tS1.cells x0), .agg (tS1.cells x1)] k
noncomputable def k180 (x0 : U0) (k : (Int × Unit) × (Unit) → Option Ret) : Option Ret := callG Y.om.call s180 180 [.agg (tS0.cells x0)] k
noncomputable def k181 (x0 : U0) (x1 : U0) (k : (U0 × Unit) × (Unit) → Option Ret) : Option Ret := callG Y.om.call s181 181 [.agg (tS0.cells x0), .agg (tS0.cells x1)] k
noncomputable def k182 (x0 : U0) (k : (U0 × Unit) × (Unit) → Option Ret) : Option Ret := callG Y.om.call s182 182 [.agg (tS0.cells x0)] k
noncomputable def k184 (x0 : U0) (k : (Bool × Unit) × (Unit) → Option Ret) : Option Ret := callG Y.om.call s184 184 [.agg (tS0.cells x0)] k
noncomputable def k185 (x0 : U0) (k : (Bool × Unit) × (Unit) → Option Ret) : Option Ret := callG Y.om.call s185 185 [.agg (tS0.cells x0)] k
noncomputable def k186 (x0 : U0) (x1 : U0) (k : (Int × Unit) × (Unit) → Option Ret) : Option Ret := callG Y.om.call s186 186 [.agg (tS0.cells x0), .agg (tS0.cells x1)] k
noncomputable def k187 (x0 : Int) (k : (Int × Unit) × (Unit) → Option Ret) : Option Ret := callG Y.om.call s187 187 [.int .i64 x0] k
noncomputable def k188 (x0 : U0) (x1 : U0) (k : (Int × Unit) × (Unit) → Option Ret) : Option Ret := callG Y.om.call s188 188 [.agg (tS0.cells x0), .agg (tS0.cells x1)] k
noncomputable def k189 (x0 : U3) (x1 : U3) (k : (Bool × Unit) × (Unit) → Option Ret) : Option Ret := callG Y.om.call s189 189 [.agg (tS3.cells x0), .agg (tS3.cells x1)] k
noncomputable def k210 (x0 : U1) (k : (Int × Unit) × (Unit) → Option Ret) : Option Ret := callG Y.om.call s210 210 [.agg (tS1.cells x0)] k
noncomputable def k211 (x0 : U1) (x1 : U1) (k : (U1 × Unit) × (Unit) → Option Ret) : Option Ret := callG Y.om.call s211 211 [.agg (tS1.cells x0), .agg (tS1.cells x1)] k
noncomputable def k212 (x0 : U1) (k : (U1 × Unit) × (Unit) → Option Ret) : Option Ret := callG Y.om.call s212 212 [.agg (tS1.cells x0)] k
noncomputable def k213 (x0 : U1) (k : (Bool × Unit) × (Unit) → Option Ret) : Option Ret := callG Y.om.call s213 213 [.agg (tS1.cells x0)] k
noncomputable def k214 (x0 : Int) (x1 : U0) (k : (U1 × Unit) × (Unit) → Option Ret) : Option Ret := callG Y.om.call s214 214 [.int .i64 x0, .agg (tS0.cells x1)] k
noncomputable def k216 (x0 : U0) (x1 : U0) (k : (U0 × Unit) × (Unit) → Option Ret) : Option Ret := callG Y.om.call s216 216 [.agg (tS0.cells x0), .agg (tS0.cells x1)] k
noncomputable def k217 (x0 : Int) (k : (U0 × Unit) × (Unit) → Option Ret) : Option Ret := callG Y.om.call s217 217 [.int .i64 x0] k
noncomputable def k218 (x0 : U0) (x1 : U0) (k : (U1 × Unit) × (Unit) → Option Ret) : Option Ret := callG Y.om.call s218 218 [.agg (tS0.cells x0), .agg (tS0.cells x1)] k
noncomputable def k219 (x0 : U0) (x1 : U0) (k : (U1 × Unit) × (Unit) → Option Ret) : Option Ret := callG Y.om.call s219 219 [.agg (tS0.cells x0), .agg (tS0.cells x1)] k
noncomputable def k220 (x0 : U1) (k : (Int × Unit) × (Unit) → Option Ret) : Option Ret := callG Y.om.call s220 220 [.agg (tS1.cells x0)] k
noncomputable def k221 (x0 : U1) (x1 : U1) (k : (Int × Unit) × (Unit) → Option Ret) : Option Ret := callG Y.om.call s221 221 [.agg (tS1.cells x0), .agg (tS1.cells x1)] k
noncomputable def k222 (x0 : U4) (x1 : U4) (k : (Bool × Unit) × (Unit) → Option Ret) : Option Ret := callG Y.om.call s222 222 [.agg (tS4.cells x0), .agg (tS4.cells x1)] k
noncomputable def k223 (x0 : U1) (k : (U1 × Unit) × (Unit) → Option Ret) : Option Ret := callG Y.om.call s223 223 [.agg (tS1.cells x0)] k
noncomputable def k239 (x0 : Int) (x1 : Int) (k : (Bool × Unit) × (Unit) → Option Ret) : Option Ret := callG Y.om.call s239 239 [.int .i64 x0, .int .i64 x1] k
noncomputable def k240 (x0 : U1) (x1 : U1) (k : (U1 × Unit) × (Unit) → Option Ret) : Option Ret := callG Y.om.call s240 240 [.agg (tS1.cells x0), .agg (tS1.cells x1)] k
noncomputable def k241 (x0 : U1) (k : (U1 × Unit) × (Unit) → Option Ret) : Option Ret := callG Y.om.call s241 241 [.agg (tS1.cells x0)] k
noncomputable def k242 (x0 : Int) (k : (U0 × Unit) × (Unit) → Option Ret) : Option Ret := callG Y.om.call s242 242 [.int .i64 x0] k
noncomputable def k243 (x0 : U1) (x1 : U1) (k : (U1 × Unit) × (Unit) → Option Ret) : Option Ret := callG Y.om.call s243 243 [.agg (tS1.cells x0), .agg (tS1.cells x1)] k
noncomputable def k244 (x0 : U1) (x1 : U1) (k : (U1 × Unit) × (Unit) → Option Ret) : Option Ret := callG Y.om.call s244 244 [.agg (tS1.cells x0), .agg (tS1.cells x1)] k
noncomputable def k245 (x0 : U1) (k : (U1 × Unit) × (Unit) → Option Ret) : Option Ret := callG Y.om.call s245 245 [.agg (tS1.cells x0)] k
noncomputable def k246 (x0 : U1) (x1 : U1) (k : (U1 × Unit) × (Unit) → Option Ret) : Option Ret := callG Y.om.call s246 246 [.agg (tS1.cells x0), .agg (tS1.cells x1)] k
noncomputable def k247 (x0 : U1) (x1 : U1) (k : (U1 × Unit) × (Unit) → Option Ret) : Option Ret := callG Y.om.call s247 247 [.agg (tS1.cells x0), .agg (tS1.cells x1)] k
noncomputable def k248 (x0 : Int) (k : (Int × Unit) × (Unit) → Option Ret) : Option Ret := callG Y.om.call s248 248 [.int .i64 x0] k
noncomputable def k249 (x0 : Int) (x1 : Int) (k : (Bool × Unit) × (Unit) → Option Ret) : Option Ret := callG Y.om.call s249 249 [.int .i64 x0, .int .i64 x1] k
noncomputable def k256 (x0 : Int) (k : (Int × Int × Unit) × (Unit) → Option Ret) : Option Ret := callG Y.om.call s256 256 [.int .i64 x0] k
noncomputable def k257 (x0 : U1) (k : (U1 × Unit) × (Unit) → Option Ret) : Option Ret := callG Y.om.call s257 257 [.agg (tS1.cells x0)] k
noncomputable def k258 (x0 : Int) (x1 : Int) (k : (Int × Int × Unit) × (Unit) → Option Ret) : Option Ret := callG Y.om.call s258 258 [.int .u64 x0, .int .u64 x1] k
noncomputable def k259 (x0 : Int) (k : (Int × Unit) × (Unit) → Option Ret) : Option Ret := callG Y.om.call s259 259 [.int .i64 x0] k
def σ69_4 (v0n : Nat) (v0g : Nat → List V) (v1 : Int) (v5 : Int) : St := ⟨[(0, .sl tS5.sz tS5.flat none none v0n (fun k0 => v0g k0)), (1, .int .i64 v1), (5, .int .i64 v5)], []⟩
noncomputable def L69_4 (v0 : Sl U5) (v1 : Int) (v5 : Int) : Option Ret := Y.om.lab 69 (stk prog 69 4) (σ69_4 v0.n (fun k0 => tS5.cells (v0.get k0)) v1 v5)
def σ77_8 (v0 : Int) (v3 : ByteArray) : St := ⟨[(0, .int .i64 v0), (3, .str v3)], []⟩
noncomputable def L77_8 (v0 : Int) (v3 : ByteArray) : Option Ret := Y.om.lab 77 (stk prog 77 8) (σ77_8 v0 v3)
def σ68_4 (v0n : Nat) (v0g : Nat → List V) (v1 : Int) (v5 : Int) : St := ⟨[(0, .sl tS2.sz tS2.flat none none v0n (fun k0 => v0g k0)), (1, .int .i64 v1), (5, .int .i64 v5)], []⟩
noncomputable def L68_4 (v0 : Sl U2) (v1 : Int) (v5 : Int) : Option Ret := Y.om.lab 68 (stk prog 68 4) (σ68_4 v0.n (fun k0 => tS2.cells (v0.get k0)) v1 v5)
def σ108_4 (v0n : Nat) (v0g : Nat → List V) (v1 : Int) (v5 : Int) : St := ⟨[(0, .sl tI.sz tI.flat none none v0n (fun k0 => v0g k0)), (1, .int .i64 v1), (5, .int .i64 v5)], []⟩
noncomputable def L108_4 (v0 : Sl Int) (v1 : Int) (v5 : Int) : Option Ret := Y.om.lab 108 (stk prog 108 4) (σ108_4 v0.n (fun k0 => tI.cells (v0.get k0)) v1 v5)
def σ107_4 (v0n : Nat) (v0g : Nat → List V) (v1 : Int) (v5 : Int) : St := ⟨[(0, .sl tS3.sz tS3.flat none none v0n (fun k0 => v0g k0)), (1, .int .i64 v1), (5, .int .i64 v5)], []⟩
noncomputable def L107_4 (v0 : Sl U3) (v1 : Int) (v5 : Int) : Option Ret := Y.om.lab 107 (stk prog 107 4) (σ107_4 v0.n (fun k0 => tS3.cells (v0.get k0)) v1 v5)
def σ106_4 (v0n : Nat) (v0g : Nat → List V) (v1 : Int) (v5 : Int) : St := ⟨[(0, .sl tS0.sz tS0.flat none none v0n (fun k0 => v0g k0)), (1, .int .i64 v1), (5, .int .i64 v5)], []⟩
noncomputable def L106_4 (v0 : Sl U0) (v1 : Int) (v5 : Int) : Option Ret := Y.om.lab 106 (stk prog 106 4) (σ106_4 v0.n (fun k0 => tS0.cells (v0.get k0)) v1 v5)
def σ67_4 (v1 : Int) (v5 : Int) (o14336n : Nat) (o14336g : Nat → List V) : St := ⟨[(0, .ref 14336 none), (1, .int .i64 v1), (5, .int .i64 v5)], [(14336, some ⟨false, .dp, tS5.sz, tS5.flat, o14336n, (fun k0 => o14336g k0), 0⟩)]⟩
noncomputable def L67_4 (v1 : Int) (v5 : Int) (o14336 : Sl U5) : Option Ret := Y.om.lab 67 (stk prog 67 4) (σ67_4 v1 v5 o14336.n (fun k0 => tS5.cells (o14336.get k0)))
def σ67_11 (v1 : Int) (v5 : Int) (o14336n : Nat) (o14336g : Nat → List V) : St := ⟨[(0, .ref 14336 none), (1, .int .i64 v1), (5, .int .i64 v5)], [(14336, some ⟨false, .dp, tS5.sz, tS5.flat, o14336n, (fun k0 => o14336g k0), 0⟩)]⟩
noncomputable def L67_11 (v1 : Int) (v5 : Int) (o14336 : Sl U5) : Option Ret := Y.om.lab 67 (stk prog 67 11) (σ67_11 v1 v5 o14336.n (fun k0 => tS5.cells (o14336.get k0)))
def σ67_15 (v1 : Int) (v5 : Int) (o14336n : Nat) (o14336g : Nat → List V) : St := ⟨[(0, .ref 14336 none), (1, .int .i64 v1), (5, .int .i64 v5)], [(14336, some ⟨false, .dp, tS5.sz, tS5.flat, o14336n, (fun k0 => o14336g k0), 0⟩)]⟩
noncomputable def L67_15 (v1 : Int) (v5 : Int) (o14336 : Sl U5) : Option Ret := Y.om.lab 67 (stk prog 67 15) (σ67_15 v1 v5 o14336.n (fun k0 => tS5.cells (o14336.get k0)))
def σ67_19 (v1 : Int) (v5 : Int) (o14336n : Nat) (o14336g : Nat → List V) : St := ⟨[(0, .ref 14336 none), (1, .int .i64 v1), (5, .int .i64 v5)], [(14336, some ⟨false, .dp, tS5.sz, tS5.flat, o14336n, (fun k0 => o14336g k0), 0⟩)]⟩
noncomputable def L67_19 (v1 : Int) (v5 : Int) (o14336 : Sl U5) : Option Ret := Y.om.lab 67 (stk prog 67 19) (σ67_19 v1 v5 o14336.n (fun k0 => tS5.cells (o14336.get k0)))
def σ67_23 (v1 : Int) (v5 : Int) (o14336n : Nat) (o14336g : Nat → List V) : St := ⟨[(0, .ref 14336 none), (1, .int .i64 v1), (5, .int .i64 v5)], [(14336, some ⟨false, .dp, tS5.sz, tS5.flat, o14336n, (fun k0 => o14336g k0), 0⟩)]⟩
noncomputable def L67_23 (v1 : Int) (v5 : Int) (o14336 : Sl U5) : Option Ret := Y.om.lab 67 (stk prog 67 23) (σ67_23 v1 v5 o14336.n (fun k0 => tS5.cells (o14336.get k0)))
def σ67_27 (v1 : Int) (v5 : Int) (o14336n : Nat) (o14336g : Nat → List V) : St := ⟨[(0, .ref 14336 none), (1, .int .i64 v1), (5, .int .i64 v5)], [(14336, some ⟨false, .dp, tS5.sz, tS5.flat, o14336n, (fun k0 => o14336g k0), 0⟩)]⟩
noncomputable def L67_27 (v1 : Int) (v5 : Int) (o14336 : Sl U5) : Option Ret := Y.om.lab 67 (stk prog 67 27) (σ67_27 v1 v5 o14336.n (fun k0 => tS5.cells (o14336.get k0)))
def σ66_4 (v1 : Int) (v5 : Int) (o8704n : Nat) (o8704g : Nat → List V) : St := ⟨[(0, .ref 8704 none), (1, .int .i64 v1), (5, .int .i64 v5)], [(8704, some ⟨false, .dp, tS2.sz, tS2.flat, o8704n, (fun k0 => o8704g k0), 0⟩)]⟩
noncomputable def L66_4 (v1 : Int) (v5 : Int) (o8704 : Sl U2) : Option Ret := Y.om.lab 66 (stk prog 66 4) (σ66_4 v1 v5 o8704.n (fun k0 => tS2.cells (o8704.get k0)))
noncomputable def Lr66_4 (v1 : Int) (v5 : Int) (o8704n : Nat) (o8704g : Nat → List V) : Option Ret := Y.om.lab 66 (stk prog 66 4) (σ66_4 v1 v5 o8704n o8704g)
def σ66_11 (v1 : Int) (v5 : Int) (o8704n : Nat) (o8704g : Nat → List V) : St := ⟨[(0, .ref 8704 none), (1, .int .i64 v1), (5, .int .i64 v5)], [(8704, some ⟨false, .dp, tS2.sz, tS2.flat, o8704n, (fun k0 => o8704g k0), 0⟩)]⟩
noncomputable def L66_11 (v1 : Int) (v5 : Int) (o8704 : Sl U2) : Option Ret := Y.om.lab 66 (stk prog 66 11) (σ66_11 v1 v5 o8704.n (fun k0 => tS2.cells (o8704.get k0)))
noncomputable def Lr66_11 (v1 : Int) (v5 : Int) (o8704n : Nat) (o8704g : Nat → List V) : Option Ret := Y.om.lab 66 (stk prog 66 11) (σ66_11 v1 v5 o8704n o8704g)
def σ66_13 (v1 : Int) (v5 : Int) (o8704n : Nat) (o8704g : Nat → List V) : St := ⟨[(0, .ref 8704 none), (1, .int .i64 v1), (5, .int .i64 v5)], [(8704, some ⟨false, .dp, tS2.sz, tS2.flat, o8704n, (fun k0 => o8704g k0), 0⟩)]⟩
noncomputable def L66_13 (v1 : Int) (v5 : Int) (o8704 : Sl U2) : Option Ret := Y.om.lab 66 (stk prog 66 13) (σ66_13 v1 v5 o8704.n (fun k0 => tS2.cells (o8704.get k0)))
noncomputable def Lr66_13 (v1 : Int) (v5 : Int) (o8704n : Nat) (o8704g : Nat → List V) : Option Ret := Y.om.lab 66 (stk prog 66 13) (σ66_13 v1 v5 o8704n o8704g)
def σ105_4 (v1 : Int) (v5 : Int) (o4864n : Nat) (o4864g : Nat → List V) : St := ⟨[(0, .ref 4864 none), (1, .int .i64 v1), (5, .int .i64 v5)], [(4864, some ⟨false, .dp, tI.sz, tI.flat, o4864n, (fun k0 => o4864g k0), 0⟩)]⟩
noncomputable def L105_4 (v1 : Int) (v5 : Int) (o4864 : Sl Int) : Option Ret := Y.om.lab 105 (stk prog 105 4) (σ105_4 v1 v5 o4864.n (fun k0 => tI.cells (o4864.get k0)))
def σ104_4 (v1 : Int) (v5 : Int) (o23552n : Nat) (o23552g : Nat → List V) : St := ⟨[(0, .ref 23552 none), (1, .int .i64 v1), (5, .int .i64 v5)], [(23552, some ⟨false, .dp, tS3.sz, tS3.flat, o23552n, (fun k0 => o23552g k0), 0⟩)]⟩
noncomputable def L104_4 (v1 : Int) (v5 : Int) (o23552 : Sl U3) : Option Ret := Y.om.lab 104 (stk prog 104 4) (σ104_4 v1 v5 o23552.n (fun k0 => tS3.cells (o23552.get k0)))
noncomputable def Lr104_4 (v1 : Int) (v5 : Int) (o23552n : Nat) (o23552g : Nat → List V) : Option Ret := Y.om.lab 104 (stk prog 104 4) (σ104_4 v1 v5 o23552n o23552g)
def σ104_11 (v1 : Int) (v5 : Int) (o23552n : Nat) (o23552g : Nat → List V) : St := ⟨[(0, .ref 23552 none), (1, .int .i64 v1), (5, .int .i64 v5)], [(23552, some ⟨false, .dp, tS3.sz, tS3.flat, o23552n, (fun k0 => o23552g k0), 0⟩)]⟩
noncomputable def L104_11 (v1 : Int) (v5 : Int) (o23552 : Sl U3) : Option Ret := Y.om.lab 104 (stk prog 104 11) (σ104_11 v1 v5 o23552.n (fun k0 => tS3.cells (o23552.get k0)))
noncomputable def Lr104_11 (v1 : Int) (v5 : Int) (o23552n : Nat) (o23552g : Nat → List V) : Option Ret := Y.om.lab 104 (stk prog 104 11) (σ104_11 v1 v5 o23552n o23552g)
def σ104_13 (v1 : Int) (v5 : Int) (o23552n : Nat) (o23552g : Nat → List V) : St := ⟨[(0, .ref 23552 none), (1, .int .i64 v1), (5, .int .i64 v5)], [(23552, some ⟨false, .dp, tS3.sz, tS3.flat, o23552n, (fun k0 => o23552g k0), 0⟩)]⟩
noncomputable def L104_13 (v1 : Int) (v5 : Int) (o23552 : Sl U3) : Option Ret := Y.om.lab 104 (stk prog 104 13) (σ104_13 v1 v5 o23552.n (fun k0 => tS3.cells (o23552.get k0)))
noncomputable def Lr104_13 (v1 : Int) (v5 : Int) (o23552n : Nat) (o23552g : Nat → List V) : Option Ret := Y.om.lab 104 (stk prog 104 13) (σ104_13 v1 v5 o23552n o23552g)
def σ104_17 (v1 : Int) (v5 : Int) (o23552n : Nat) (o23552g : Nat → List V) : St := ⟨[(0, .ref 23552 none), (1, .int .i64 v1), (5, .int .i64 v5)], [(23552, some ⟨false, .dp, tS3.sz, tS3.flat, o23552n, (fun k0 => o23552g k0), 0⟩)]⟩
noncomputable def L104_17 (v1 : Int) (v5 : Int) (o23552 : Sl U3) : Option Ret := Y.om.lab 104 (stk prog 104 17) (σ104_17 v1 v5 o23552.n (fun k0 => tS3.cells (o23552.get k0)))
noncomputable def Lr104_17 (v1 : Int) (v5 : Int) (o23552n : Nat) (o23552g : Nat → List V) : Option Ret := Y.om.lab 104 (stk prog 104 17) (σ104_17 v1 v5 o23552n o23552g)
def σ104_21 (v1 : Int) (v5 : Int) (o23552n : Nat) (o23552g : Nat → List V) : St := ⟨[(0, .ref 23552 none), (1, .int .i64 v1), (5, .int .i64 v5)], [(23552, some ⟨false, .dp, tS3.sz, tS3.flat, o23552n, (fun k0 => o23552g k0), 0⟩)]⟩
noncomputable def L104_21 (v1 : Int) (v5 : Int) (o23552 : Sl U3) : Option Ret := Y.om.lab 104 (stk prog 104 21) (σ104_21 v1 v5 o23552.n (fun k0 => tS3.cells (o23552.get k0)))
noncomputable def Lr104_21 (v1 : Int) (v5 : Int) (o23552n : Nat) (o23552g : Nat → List V) : Option Ret := Y.om.lab 104 (stk prog 104 21) (σ104_21 v1 v5 o23552n o23552g)
def σ104_25 (v1 : Int) (v5 : Int) (o23552n : Nat) (o23552g : Nat → List V) : St := ⟨[(0, .ref 23552 none), (1, .int .i64 v1), (5, .int .i64 v5)], [(23552, some ⟨false, .dp, tS3.sz, tS3.flat, o23552n, (fun k0 => o23552g k0), 0⟩)]⟩
noncomputable def L104_25 (v1 : Int) (v5 : Int) (o23552 : Sl U3) : Option Ret := Y.om.lab 104 (stk prog 104 25) (σ104_25 v1 v5 o23552.n (fun k0 => tS3.cells (o23552.get k0)))
noncomputable def Lr104_25 (v1 : Int) (v5 : Int) (o23552n : Nat) (o23552g : Nat → List V) : Option Ret := Y.om.lab 104 (stk prog 104 25) (σ104_25 v1 v5 o23552n o23552g)
def σ104_29 (v1 : Int) (v5 : Int) (o23552n : Nat) (o23552g : Nat → List V) : St := ⟨[(0, .ref 23552 none), (1, .int .i64 v1), (5, .int .i64 v5)], [(23552, some ⟨false, .dp, tS3.sz, tS3.flat, o23552n, (fun k0 => o23552g k0), 0⟩)]⟩
noncomputable def L104_29 (v1 : Int) (v5 : Int) (o23552 : Sl U3) : Option Ret := Y.om.lab 104 (stk prog 104 29) (σ104_29 v1 v5 o23552.n (fun k0 => tS3.cells (o23552.get k0)))
noncomputable def Lr104_29 (v1 : Int) (v5 : Int) (o23552n : Nat) (o23552g : Nat → List V) : Option Ret := Y.om.lab 104 (stk prog 104 29) (σ104_29 v1 v5 o23552n o23552g)
def σ104_33 (v1 : Int) (v5 : Int) (o23552n : Nat) (o23552g : Nat → List V) : St := ⟨[(0, .ref 23552 none), (1, .int .i64 v1), (5, .int .i64 v5)], [(23552, some ⟨false, .dp, tS3.sz, tS3.flat, o23552n, (fun k0 => o23552g k0), 0⟩)]⟩
noncomputable def L104_33 (v1 : Int) (v5 : Int) (o23552 : Sl U3) : Option Ret := Y.om.lab 104 (stk prog 104 33) (σ104_33 v1 v5 o23552.n (fun k0 => tS3.cells (o23552.get k0)))
noncomputable def Lr104_33 (v1 : Int) (v5 : Int) (o23552n : Nat) (o23552g : Nat → List V) : Option Ret := Y.om.lab 104 (stk prog 104 33) (σ104_33 v1 v5 o23552n o23552g)
def σ104_37 (v1 : Int) (v5 : Int) (o23552n : Nat) (o23552g : Nat → List V) : St := ⟨[(0, .ref 23552 none), (1, .int .i64 v1), (5, .int .i64 v5)], [(23552, some ⟨false, .dp, tS3.sz, tS3.flat, o23552n, (fun k0 => o23552g k0), 0⟩)]⟩
noncomputable def L104_37 (v1 : Int) (v5 : Int) (o23552 : Sl U3) : Option Ret := Y.om.lab 104 (stk prog 104 37) (σ104_37 v1 v5 o23552.n (fun k0 => tS3.cells (o23552.get k0)))
noncomputable def Lr104_37 (v1 : Int) (v5 : Int) (o23552n : Nat) (o23552g : Nat → List V) : Option Ret := Y.om.lab 104 (stk prog 104 37) (σ104_37 v1 v5 o23552n o23552g)
def σ104_41 (v1 : Int) (v5 : Int) (o23552n : Nat) (o23552g : Nat → List V) : St := ⟨[(0, .ref 23552 none), (1, .int .i64 v1), (5, .int .i64 v5)], [(23552, some ⟨false, .dp, tS3.sz, tS3.flat, o23552n, (fun k0 => o23552g k0), 0⟩)]⟩
noncomputable def L104_41 (v1 : Int) (v5 : Int) (o23552 : Sl U3) : Option Ret := Y.om.lab 104 (stk prog 104 41) (σ104_41 v1 v5 o23552.n (fun k0 => tS3.cells (o23552.get k0)))
noncomputable def Lr104_41 (v1 : Int) (v5 : Int) (o23552n : Nat) (o23552g : Nat → List V) : Option Ret := Y.om.lab 104 (stk prog 104 41) (σ104_41 v1 v5 o23552n o23552g)
def σ28_4 (v1 : Int) (v5 : Int) (o15616n : Nat) (o15616g : Nat → List V) : St := ⟨[(0, .ref 15616 none), (1, .int .i64 v1), (5, .int .i64 v5)], [(15616, some ⟨false, .dp, tS0.sz, tS0.flat, o15616n, (fun k0 => o15616g k0), 0⟩)]⟩
noncomputable def L28_4 (v1 : Int) (v5 : Int) (o15616 : Sl U0) : Option Ret := Y.om.lab 28 (stk prog 28 4) (σ28_4 v1 v5 o15616.n (fun k0 => tS0.cells (o15616.get k0)))
def σ28_11 (v1 : Int) (v5 : Int) (o15616n : Nat) (o15616g : Nat → List V) : St := ⟨[(0, .ref 15616 none), (1, .int .i64 v1), (5, .int .i64 v5)], [(15616, some ⟨false, .dp, tS0.sz, tS0.flat, o15616n, (fun k0 => o15616g k0), 0⟩)]⟩
noncomputable def L28_11 (v1 : Int) (v5 : Int) (o15616 : Sl U0) : Option Ret := Y.om.lab 28 (stk prog 28 11) (σ28_11 v1 v5 o15616.n (fun k0 => tS0.cells (o15616.get k0)))
def σ28_15 (v1 : Int) (v5 : Int) (o15616n : Nat) (o15616g : Nat → List V) : St := ⟨[(0, .ref 15616 none), (1, .int .i64 v1), (5, .int .i64 v5)], [(15616, some ⟨false, .dp, tS0.sz, tS0.flat, o15616n, (fun k0 => o15616g k0), 0⟩)]⟩
noncomputable def L28_15 (v1 : Int) (v5 : Int) (o15616 : Sl U0) : Option Ret := Y.om.lab 28 (stk prog 28 15) (σ28_15 v1 v5 o15616.n (fun k0 => tS0.cells (o15616.get k0)))
def σ28_19 (v1 : Int) (v5 : Int) (o15616n : Nat) (o15616g : Nat → List V) : St := ⟨[(0, .ref 15616 none), (1, .int .i64 v1), (5, .int .i64 v5)], [(15616, some ⟨false, .dp, tS0.sz, tS0.flat, o15616n, (fun k0 => o15616g k0), 0⟩)]⟩
noncomputable def L28_19 (v1 : Int) (v5 : Int) (o15616 : Sl U0) : Option Ret := Y.om.lab 28 (stk prog 28 19) (σ28_19 v1 v5 o15616.n (fun k0 => tS0.cells (o15616.get k0)))
def σ28_23 (v1 : Int) (v5 : Int) (o15616n : Nat) (o15616g : Nat → List V) : St := ⟨[(0, .ref 15616 none), (1, .int .i64 v1), (5, .int .i64 v5)], [(15616, some ⟨false, .dp, tS0.sz, tS0.flat, o15616n, (fun k0 => o15616g k0), 0⟩)]⟩
noncomputable def L28_23 (v1 : Int) (v5 : Int) (o15616 : Sl U0) : Option Ret := Y.om.lab 28 (stk prog 28 23) (σ28_23 v1 v5 o15616.n (fun k0 => tS0.cells (o15616.get k0)))
def σ28_27 (v1 : Int) (v5 : Int) (o15616n : Nat) (o15616g : Nat → List V) : St := ⟨[(0, .ref 15616 none), (1, .int .i64 v1), (5, .int .i64 v5)], [(15616, some ⟨false, .dp, tS0.sz, tS0.flat, o15616n, (fun k0 => o15616g k0), 0⟩)]⟩
noncomputable def L28_27 (v1 : Int) (v5 : Int) (o15616 : Sl U0) : Option Ret := Y.om.lab 28 (stk prog 28 27) (σ28_27 v1 v5 o15616.n (fun k0 => tS0.cells (o15616.get k0)))
def σ28_31 (v1 : Int) (v5 : Int) (o15616n : Nat) (o15616g : Nat → List V) : St := ⟨[(0, .ref 15616 none), (1, .int .i64 v1), (5, .int .i64 v5)], [(15616, some ⟨false, .dp, tS0.sz, tS0.flat, o15616n, (fun k0 => o15616g k0), 0⟩)]⟩
noncomputable def L28_31 (v1 : Int) (v5 : Int) (o15616 : Sl U0) : Option Ret := Y.om.lab 28 (stk prog 28 31) (σ28_31 v1 v5 o15616.n (fun k0 => tS0.cells (o15616.get k0)))
def σ27_8 (v0n : Nat) (v0g : Nat → List V) (v1n : Nat) (v1g : Nat → List V) (v5 : Int) : St := ⟨[(0, .sl tS0.sz tS0.flat none none v0n (fun k0 => v0g k0)), (1, .sl tS0.sz tS0.flat none none v1n (fun k0 => v1g k0)), (5, .int .i64 v5)], []⟩
noncomputable def L27_8 (v0 : Sl U0) (v1 : Sl U0) (v5 : Int) : Option Ret := Y.om.lab 27 (stk prog 27 8) (σ27_8 v0.n (fun k0 => tS0.cells (v0.get k0)) v1.n (fun k0 => tS0.cells (v1.get k0)) v5)
def σ64_8 (v0n : Nat) (v0g : Nat → List V) (v1n : Nat) (v1g : Nat → List V) (v5 : Int) : St := ⟨[(0, .sl tS5.sz tS5.flat none none v0n (fun k0 => v0g k0)), (1, .sl tS5.sz tS5.flat none none v1n (fun k0 => v1g k0)), (5, .int .i64 v5)], []⟩
noncomputable def L64_8 (v0 : Sl U5) (v1 : Sl U5) (v5 : Int) : Option Ret := Y.om.lab 64 (stk prog 64 8) (σ64_8 v0.n (fun k0 => tS5.cells (v0.get k0)) v1.n (fun k0 => tS5.cells (v1.get k0)) v5)
def σ63_8 (v0n : Nat) (v0g : Nat → List V) (v1n : Nat) (v1g : Nat → List V) (v5 : Int) : St := ⟨[(0, .sl tS2.sz tS2.flat none none v0n (fun k0 => v0g k0)), (1, .sl tS2.sz tS2.flat none none v1n (fun k0 => v1g k0)), (5, .int .i64 v5)], []⟩
noncomputable def L63_8 (v0 : Sl U2) (v1 : Sl U2) (v5 : Int) : Option Ret := Y.om.lab 63 (stk prog 63 8) (σ63_8 v0.n (fun k0 => tS2.cells (v0.get k0)) v1.n (fun k0 => tS2.cells (v1.get k0)) v5)
def σ151_8 (v0n : Nat) (v0g : Nat → List V) (v1n : Nat) (v1g : Nat → List V) (v5 : Int) : St := ⟨[(0, .sl tI.sz tI.flat none none v0n (fun k0 => v0g k0)), (1, .sl tI.sz tI.flat none none v1n (fun k0 => v1g k0)), (5, .int .i64 v5)], []⟩
noncomputable def L151_8 (v0 : Sl Int) (v1 : Sl Int) (v5 : Int) : Option Ret := Y.om.lab 151 (stk prog 151 8) (σ151_8 v0.n (fun k0 => tI.cells (v0.get k0)) v1.n (fun k0 => tI.cells (v1.get k0)) v5)
def σ150_8 (v0n : Nat) (v0g : Nat → List V) (v1n : Nat) (v1g : Nat → List V) (v5 : Int) : St := ⟨[(0, .sl tS3.sz tS3.flat none none v0n (fun k0 => v0g k0)), (1, .sl tS3.sz tS3.flat none none v1n (fun k0 => v1g k0)), (5, .int .i64 v5)], []⟩
noncomputable def L150_8 (v0 : Sl U3) (v1 : Sl U3) (v5 : Int) : Option Ret := Y.om.lab 150 (stk prog 150 8) (σ150_8 v0.n (fun k0 => tS3.cells (v0.get k0)) v1.n (fun k0 => tS3.cells (v1.get k0)) v5)
def σ149_6 (v0n : Nat) (v0g : Nat → List V) (v3 : Int) (v6n : Nat) (v6g : Nat → List V) (v7 : Int) (v8 : Int) : St := ⟨[(0, .sl tS0.sz tS0.flat none none v0n (fun k0 => v0g k0)), (3, .int .i64 v3), (6, .sl tS0.sz tS0.flat none none v6n (fun k0 => v6g k0)), (7, .int .i64 v7), (8, .int .i64 v8)], []⟩
noncomputable def L149_6 (v0 : Sl U0) (v3 : Int) (v6 : Sl U0) (v7 : Int) (v8 : Int) : Option Ret := Y.om.lab 149 (stk prog 149 6) (σ149_6 v0.n (fun k0 => tS0.cells (v0.get k0)) v3 v6.n (fun k0 => tS0.cells (v6.get k0)) v7 v8)
def σ257_2 (b511_0 : Int) (b511_1 : Int) (b511_2 : Int) (b767_0 : Int) (b767_1 : Int) (b767_2 : Int) : St := ⟨[(1, .adr 511 0 0), (2, .adr 767 0 0)], [(511, some ⟨true, .dp, 3, false, 1, fun _ => [.int .i64 b511_0, .int .i64 b511_1, .int .i64 b511_2], 0⟩), (767, some ⟨true, .dp, 3, false, 1, fun _ => [.int .i64 b767_0, .int .i64 b767_1, .int .i64 b767_2], 0⟩)]⟩
noncomputable def L257_2 (b511_0 : Int) (b511_1 : Int) (b511_2 : Int) (b767_0 : Int) (b767_1 : Int) (b767_2 : Int) : Option Ret := Y.om.lab 257 (stk prog 257 2) (σ257_2 b511_0 b511_1 b511_2 b767_0 b767_1 b767_2)
def σ148_14 (v0n : Nat) (v0g : Nat → List V) (v3 : Int) (v4 : Int) (v5 : Int) (v23n : Nat) (v23g : Nat → List V) (v24 : Int) (v25 : Int) : St := ⟨[(0, .sl tS0.sz tS0.flat none none v0n (fun k0 => v0g k0)), (3, .int .i64 v3), (4, .int .i64 v4), (5, .int .i64 v5), (23, .sl tS0.sz tS0.flat none none v23n (fun k0 => v23g k0)), (24, .int .i64 v24), (25, .int .i64 v25)], []⟩
noncomputable def L148_14 (v0 : Sl U0) (v3 : Int) (v4 : Int) (v5 : Int) (v23 : Sl U0) (v24 : Int) (v25 : Int) : Option Ret := Y.om.lab 148 (stk prog 148 14) (σ148_14 v0.n (fun k0 => tS0.cells (v0.get k0)) v3 v4 v5 v23.n (fun k0 => tS0.cells (v23.get k0)) v24 v25)
def σ186_6 (v11 : Int) (b1535_0 : Int) (b1535_1 : Int) (b1535_2 : Int) (b1535_3 : Int) (b1535_4 : Int) (b1535_5 : Int) : St := ⟨[(5, .adr 1535 0 0), (11, .int .i64 v11)], [(1535, some ⟨true, .dp, 6, false, 1, fun _ => [.int .i64 b1535_0, .int .i64 b1535_1, .int .i64 b1535_2, .int .i64 b1535_3, .int .i64 b1535_4, .int .i64 b1535_5], 0⟩)]⟩
noncomputable def L186_6 (v11 : Int) (b1535_0 : Int) (b1535_1 : Int) (b1535_2 : Int) (b1535_3 : Int) (b1535_4 : Int) (b1535_5 : Int) : Option Ret := Y.om.lab 186 (stk prog 186 6) (σ186_6 v11 b1535_0 b1535_1 b1535_2 b1535_3 b1535_4 b1535_5)
def σ215c184_4 (v0n : Nat) (v0g : Nat → List V) (v7 : Int) (v8 : Int) : St := ⟨[(0, .sl tS0.sz tS0.flat none none v0n (fun k0 => v0g k0)), (1, .fn 184 []), (7, .int .i64 v7), (8, .int .i64 v8)], []⟩
noncomputable def L215c184_4 (v0 : Sl U0) (v7 : Int) (v8 : Int) : Option Ret := Y.om.lab 215 (stk prog 215 4) (σ215c184_4 v0.n (fun k0 => tS0.cells (v0.get k0)) v7 v8)
def σ97_10 (v0n : Nat) (v0g : Nat → List V) (v3 : Int) (v4 : Int) : St := ⟨[(0, .sl tS0.sz tS0.flat none none v0n (fun k0 => v0g k0)), (3, .int .i64 v3), (4, .int .i64 v4)], []⟩
noncomputable def L97_10 (v0 : Sl U0) (v3 : Int) (v4 : Int) : Option Ret := Y.om.lab 97 (stk prog 97 10) (σ97_10 v0.n (fun k0 => tS0.cells (v0.get k0)) v3 v4)
def σ97_28 (v3 : Int) (v7 : Int) (v8 : Int) (o1535n : Nat) (o1535g : Nat → List V) : St := ⟨[(3, .int .i64 v3), (5, .ref 1535 none), (7, .int .i64 v7), (8, .int .i64 v8)], [(1535, some ⟨false, .dp, tI.sz, tI.flat, o1535n, (fun k0 => o1535g k0), 0⟩)]⟩
noncomputable def L97_28 (v3 : Int) (v7 : Int) (v8 : Int) (o1535 : Sl Int) : Option Ret := Y.om.lab 97 (stk prog 97 28) (σ97_28 v3 v7 v8 o1535.n (fun k0 => tI.cells (o1535.get k0)))
def σ143_6 (v0n : Nat) (v0g : Nat → List V) (v5 : Int) (o1279n : Nat) (o1279g : Nat → List V) : St := ⟨[(0, .sl tS0.sz tS0.flat none none v0n (fun k0 => v0g k0)), (4, .ref 1279 none), (5, .int .i64 v5)], [(1279, some ⟨false, .dp, tI.sz, tI.flat, o1279n, (fun k0 => o1279g k0), 0⟩)]⟩
noncomputable def L143_6 (v0 : Sl U0) (v5 : Int) (o1279 : Sl Int) : Option Ret := Y.om.lab 143 (stk prog 143 6) (σ143_6 v0.n (fun k0 => tS0.cells (v0.get k0)) v5 o1279.n (fun k0 => tI.cells (o1279.get k0)))
def σ180_4 (v3 : Int) (b511_0 : Int) (b511_1 : Int) (b511_2 : Int) (b511_3 : Int) (b511_4 : Int) (b511_5 : Int) : St := ⟨[(1, .adr 511 0 0), (3, .int .i64 v3)], [(511, some ⟨true, .dp, 6, false, 1, fun _ => [.int .i64 b511_0, .int .i64 b511_1, .int .i64 b511_2, .int .i64 b511_3, .int .i64 b511_4, .int .i64 b511_5], 0⟩)]⟩
noncomputable def L180_4 (v3 : Int) (b511_0 : Int) (b511_1 : Int) (b511_2 : Int) (b511_3 : Int) (b511_4 : Int) (b511_5 : Int) : Option Ret := Y.om.lab 180 (stk prog 180 4) (σ180_4 v3 b511_0 b511_1 b511_2 b511_3 b511_4 b511_5)
def σ240_2 (b767_0 : Int) (b767_1 : Int) (b767_2 : Int) (b1023_0 : Int) (b1023_1 : Int) (b1023_2 : Int) (b1279_0 : Int) (b1279_1 : Int) (b1279_2 : Int) : St := ⟨[(2, .adr 767 0 0), (3, .adr 1023 0 0), (4, .adr 1279 0 0)], [(767, some ⟨true, .dp, 3, false, 1, fun _ => [.int .i64 b767_0, .int .i64 b767_1, .int .i64 b767_2], 0⟩), (1023, some ⟨true, .dp, 3, false, 1, fun _ => [.int .i64 b1023_0, .int .i64 b1023_1, .int .i64 b1023_2], 0⟩), (1279, some ⟨true, .dp, 3, false, 1, fun _ => [.int .i64 b1279_0, .int .i64 b1279_1, .int .i64 b1279_2], 0⟩)]⟩
noncomputable def L240_2 (b767_0 : Int) (b767_1 : Int) (b767_2 : Int) (b1023_0 : Int) (b1023_1 : Int) (b1023_2 : Int) (b1279_0 : Int) (b1279_1 : Int) (b1279_2 : Int) : Option Ret := Y.om.lab 240 (stk prog 240 2) (σ240_2 b767_0 b767_1 b767_2 b1023_0 b1023_1 b1023_2 b1279_0 b1279_1 b1279_2)
def σ240_10 (b767_0 : Int) (b767_1 : Int) (b767_2 : Int) (b1023_0 : Int) (b1023_1 : Int) (b1023_2 : Int) (b1279_0 : Int) (b1279_1 : Int) (b1279_2 : Int) : St := ⟨[(2, .adr 767 0 0), (3, .adr 1023 0 0), (4, .adr 1279 0 0)], [(767, some ⟨true, .dp, 3, false, 1, fun _ => [.int .i64 b767_0, .int .i64 b767_1, .int .i64 b767_2], 0⟩), (1023, some ⟨true, .dp, 3, false, 1, fun _ => [.int .i64 b1023_0, .int .i64 b1023_1, .int .i64 b1023_2], 0⟩), (1279, some ⟨true, .dp, 3, false, 1, fun _ => [.int .i64 b1279_0, .int .i64 b1279_1, .int .i64 b1279_2], 0⟩)]⟩
noncomputable def L240_10 (b767_0 : Int) (b767_1 : Int) (b767_2 : Int) (b1023_0 : Int) (b1023_1 : Int) (b1023_2 : Int) (b1279_0 : Int) (b1279_1 : Int) (b1279_2 : Int) : Option Ret := Y.om.lab 240 (stk prog 240 10) (σ240_10 b767_0 b767_1 b767_2 b1023_0 b1023_1 b1023_2 b1279_0 b1279_1 b1279_2)
def σ223_6 (b511_0 : Int) (b511_1 : Int) (b511_2 : Int) (b767_0 : Int) (b767_1 : Int) (b767_2 : Int) : St := ⟨[(1, .adr 511 0 0), (2, .adr 767 0 0)], [(511, some ⟨true, .dp, 3, false, 1, fun _ => [.int .i64 b511_0, .int .i64 b511_1, .int .i64 b511_2], 0⟩), (767, some ⟨true, .dp, 3, false, 1, fun _ => [.int .i64 b767_0, .int .i64 b767_1, .int .i64 b767_2], 0⟩)]⟩
noncomputable def L223_6 (b511_0 : Int) (b511_1 : Int) (b511_2 : Int) (b767_0 : Int) (b767_1 : Int) (b767_2 : Int) : Option Ret := Y.om.lab 223 (stk prog 223 6) (σ223_6 b511_0 b511_1 b511_2 b767_0 b767_1 b767_2)
def σ144_6 (v0n : Nat) (v0g : Nat → List V) (v4 : Int) (o1023n : Nat) (o1023g : Nat → List V) : St := ⟨[(0, .sl tS0.sz tS0.flat none none v0n (fun k0 => v0g k0)), (3, .ref 1023 none), (4, .int .i64 v4)], [(1023, some ⟨false, .dp, tS0.sz, tS0.flat, o1023n, (fun k0 => o1023g k0), 0⟩)]⟩
noncomputable def L144_6 (v0 : Sl U0) (v4 : Int) (o1023 : Sl U0) : Option Ret := Y.om.lab 144 (stk prog 144 6) (σ144_6 v0.n (fun k0 => tS0.cells (v0.get k0)) v4 o1023.n (fun k0 => tS0.cells (o1023.get k0)))
def σ24_6 (v0n : Nat) (v0g : Nat → List V) (v4 : Int) (o1023n : Nat) (o1023g : Nat → List V) : St := ⟨[(0, .sl tS0.sz tS0.flat none none v0n (fun k0 => v0g k0)), (3, .ref 1023 none), (4, .int .i64 v4)], [(1023, some ⟨false, .dp, tS0.sz, tS0.flat, o1023n, (fun k0 => o1023g k0), 0⟩)]⟩
noncomputable def L24_6 (v0 : Sl U0) (v4 : Int) (o1023 : Sl U0) : Option Ret := Y.om.lab 24 (stk prog 24 6) (σ24_6 v0.n (fun k0 => tS0.cells (v0.get k0)) v4 o1023.n (fun k0 => tS0.cells (o1023.get k0)))
end Go.Vk.St
end

section
namespace Go.Vk.St
open Go Go.Proofs Go.Vk
set_option linter.unusedVariables false
set_option maxRecDepth 100000
theorem e6 (x0 : Sl U0) : enterK prog Ms Ls Gs tb Y.om.lab 6 [svl tS0 x0] =
  k22 x0 (1048576 : Int) (fun r1 => (bif (decide (r1.1.1 < (0 : Int))) then some (s6.E ((true, ()), ()))
 else k24 x0 (fun r2 => k23 r2.1.1 (fun r3 => k24 x0 (fun r4 => k25 r4.1.1 (fun r5 => k26 r5.1.1 r3.1.1 (fun r6 => (bif (!r6.1.1) then some (s6.E ((false, ()), ()))
 else (bif (r5.1.2.1 != r3.1.2.1) then some (s6.E ((false, ()), ()))
 else k24 x0 (fun r7 => k27 r4.1.1 r7.1.1 (fun r8 => (bif (!r8.1.1) then some (s6.E ((false, ()), ()))
 else k28 r4.1.1 (1 : Int) (fun r9 => (bif (decide (r9.1.1 < (0 : Int))) then some (s6.E ((false, ()), ()))
 else k26 r5.1.1 r3.1.1 (fun r10 => (bif (!r10.1.1) then some (s6.E ((false, ()), ()))
 else (bif (r5.1.2.1 != r3.1.2.1) then some (s6.E ((false, ()), ()))
 else k29 r5.1.1 (1 : Int) (fun r11 => k30 (r11.2.1, r11.2.2.1) (1 : Int) (fun r12 => (bif (decide (r12.1.1 < (0 : Int))) then some (s6.E ((false, ()), ()))
 else (bif (r12.1.1 != r11.1.1) then some (s6.E ((false, ()), ()))
 else k24 x0 (fun r13 => k25 r13.1.1 (fun r14 => k26 r14.1.1 r3.1.1 (fun r15 => (bif (!r15.1.1) then some (s6.E ((false, ()), ()))
 else (bif (r14.1.2.1 != r3.1.2.1) then some (s6.E ((false, ()), ()))
 else k30 (r11.2.1, r11.2.2.1) (1 : Int) (fun r16 => (bif (decide (r16.1.1 < (0 : Int))) then some (s6.E ((false, ()), ()))
 else (bif (r16.1.1 != r11.1.1) then some (s6.E ((false, ()), ()))
 else some (s6.E ((true, ()), ()))))))))))))))))))))))))))))))) := by kernel_rfl
theorem e30 (x0 : U7) (x1 : Int) : enterK prog Ms Ls Gs tb Y.om.lab 30 [.agg (tS7.cells x0), .int .i64 x1] =
  k68 x0.1 x1 (fun r1 => (bif (decide (r1.1.1 < (0 : Int))) then some (s30.E (((-1 : Int), ()), ()))
 else k69 x0.2 r1.1.1 (fun r2 => (bif (decide (r2.1.1 < (0 : Int))) then some (s30.E (((-1 : Int), ()), ()))
 else some (s30.E ((r2.1.1, ()), ())))))) := by kernel_rfl
theorem e69 (x0 : Sl U5) (x1 : Int) : enterK prog Ms Ls Gs tb Y.om.lab 69 [svl tS5 x0, .int .i64 x1] =
  L69_4 x0 x1 (0 : Int) := by kernel_rfl
theorem l69_4 (v0 : Sl U5) (v1 : Int) (v5 : Int) : atK prog Ms Ls Gs tb Y.om.lab 69 (stk prog 69 4) (σ69_4 v0.n (fun k0 => tS5.cells (v0.get k0)) v1 v5) =
  (bif (decide (v5 < ((v0.n : Nat) : Int))) then (if 0 ≤ v5 then (if v5 < ((v0.n : Nat) : Int) then k77 v1 (fun r1 => (bif (!(((v0.get (v5).toNat).1).toList == r1.1.1.toList)) then some (s69.E (((-1 : Int), ()), ()))
 else (if 0 ≤ v5 then (if v5 < ((v0.n : Nat) : Int) then (bif ((v0.get (v5).toNat).2.1 != (IntKind.i64.wrap (v1 + (1 : Int)))) then some (s69.E (((-1 : Int), ()), ()))
 else (if 0 ≤ v5 then (if v5 < ((v0.n : Nat) : Int) then (bif ((v0.get (v5).toNat).2.2.1 != (IntKind.i64.wrap ((IntKind.i64.wrap (v1 + (1 : Int))) + (1 : Int)))) then some (s69.E (((-1 : Int), ()), ()))
 else (if 0 ≤ v5 then (if v5 < ((v0.n : Nat) : Int) then (bif ((v0.get (v5).toNat).2.2.2.1 != (IntKind.i64.wrap ((IntKind.i64.wrap ((IntKind.i64.wrap (v1 + (1 : Int))) + (1 : Int))) + (1 : Int)))) then some (s69.E (((-1 : Int), ()), ()))
 else (if 0 ≤ v5 then (if v5 < ((v0.n : Nat) : Int) then (bif ((v0.get (v5).toNat).2.2.2.2 != (IntKind.i64.wrap ((IntKind.i64.wrap ((IntKind.i64.wrap ((IntKind.i64.wrap (v1 + (1 : Int))) + (1 : Int))) + (1 : Int))) + (1 : Int)))) then some (s69.E (((-1 : Int), ()), ()))
 else L69_4 v0 (IntKind.i64.wrap ((IntKind.i64.wrap ((IntKind.i64.wrap ((IntKind.i64.wrap ((IntKind.i64.wrap (v1 + (1 : Int))) + (1 : Int))) + (1 : Int))) + (1 : Int))) + (1 : Int))) (IntKind.i64.wrap (v5 + (1 : Int)))) else none) else none)) else none) else none)) else none) else none)) else none) else none))) else none) else none)
 else some (s69.E ((v1, ()), ()))) := by kernel_rfl
theorem e77 (x0 : Int) : enterK prog Ms Ls Gs tb Y.om.lab 77 [.int .i64 x0] =
  (bif (decide (x0 ≤ (0 : Int))) then some (s77.E (((ByteArray.mk #[109, 48]), ()), ()))
 else L77_8 x0 ByteArray.empty) := by kernel_rfl
theorem l77_8 (v0 : Int) (v3 : ByteArray) : atK prog Ms Ls Gs tb Y.om.lab 77 (stk prog 77 8) (σ77_8 v0 v3) =
  (bif (decide (v0 > (0 : Int))) then none
 else (if (ByteArray.mk #[109]).size + v3.size ≤ maxRow then some (s77.E ((((ByteArray.mk #[109]) ++ v3), ()), ())) else none)) := by kernel_rfl
theorem e68 (x0 : Sl U2) (x1 : Int) : enterK prog Ms Ls Gs tb Y.om.lab 68 [svl tS2 x0, .int .i64 x1] =
  L68_4 x0 x1 (0 : Int) := by kernel_rfl
theorem l68_4 (v0 : Sl U2) (v1 : Int) (v5 : Int) : atK prog Ms Ls Gs tb Y.om.lab 68 (stk prog 68 4) (σ68_4 v0.n (fun k0 => tS2.cells (v0.get k0)) v1 v5) =
  (bif (decide (v5 < ((v0.n : Nat) : Int))) then (if 0 ≤ v5 then (if v5 < ((v0.n : Nat) : Int) then k106 ((v0.get (v5).toNat).1) v1 (fun r1 => (bif (decide (r1.1.1 < (0 : Int))) then some (s68.E (((-1 : Int), ()), ()))
 else (if 0 ≤ v5 then (if v5 < ((v0.n : Nat) : Int) then k107 ((v0.get (v5).toNat).2.1) r1.1.1 (fun r2 => (bif (decide (r2.1.1 < (0 : Int))) then some (s68.E (((-1 : Int), ()), ()))
 else (if 0 ≤ v5 then (if v5 < ((v0.n : Nat) : Int) then k108 ((v0.get (v5).toNat).2.2) r2.1.1 (fun r3 => (bif (decide (r3.1.1 < (0 : Int))) then some (s68.E (((-1 : Int), ()), ()))
 else L68_4 v0 r3.1.1 (IntKind.i64.wrap (v5 + (1 : Int))))) else none) else none))) else none) else none))) else none) else none)
 else some (s68.E ((v1, ()), ()))) := by kernel_rfl
theorem e108 (x0 : Sl Int) (x1 : Int) : enterK prog Ms Ls Gs tb Y.om.lab 108 [svl tI x0, .int .i64 x1] =
  L108_4 x0 x1 (0 : Int) := by kernel_rfl
theorem l108_4 (v0 : Sl Int) (v1 : Int) (v5 : Int) : atK prog Ms Ls Gs tb Y.om.lab 108 (stk prog 108 4) (σ108_4 v0.n (fun k0 => tI.cells (v0.get k0)) v1 v5) =
  (bif (decide (v5 < ((v0.n : Nat) : Int))) then (if 0 ≤ v5 then (if v5 < ((v0.n : Nat) : Int) then (bif ((v0.get (v5).toNat) != v1) then some (s108.E (((-1 : Int), ()), ()))
 else L108_4 v0 (IntKind.i64.wrap (v1 + (1 : Int))) (IntKind.i64.wrap (v5 + (1 : Int)))) else none) else none)
 else some (s108.E ((v1, ()), ()))) := by kernel_rfl
theorem e107 (x0 : Sl U3) (x1 : Int) : enterK prog Ms Ls Gs tb Y.om.lab 107 [svl tS3 x0, .int .i64 x1] =
  L107_4 x0 x1 (0 : Int) := by kernel_rfl
theorem l107_4 (v0 : Sl U3) (v1 : Int) (v5 : Int) : atK prog Ms Ls Gs tb Y.om.lab 107 (stk prog 107 4) (σ107_4 v0.n (fun k0 => tS3.cells (v0.get k0)) v1 v5) =
  (bif (decide (v5 < ((v0.n : Nat) : Int))) then (if 0 ≤ v5 then (if v5 < ((v0.n : Nat) : Int) then k106 ((v0.get (v5).toNat).1) v1 (fun r1 => (bif (decide (r1.1.1 < (0 : Int))) then some (s107.E (((-1 : Int), ()), ()))
 else (if 0 ≤ v5 then (if v5 < ((v0.n : Nat) : Int) then (bif ((v0.get (v5).toNat).2.1 != r1.1.1) then some (s107.E (((-1 : Int), ()), ()))
 else (if 0 ≤ v5 then (if v5 < ((v0.n : Nat) : Int) then (bif (!((v0.get (v5).toNat).2.2.1 == ((Int.tmod (IntKind.i64.wrap (r1.1.1 + (1 : Int))) (3 : Int)) == (0 : Int)))) then some (s107.E (((-1 : Int), ()), ()))
 else (if 0 ≤ v5 then (if v5 < ((v0.n : Nat) : Int) then (bif ((v0.get (v5).toNat).2.2.2.1.1 != (IntKind.i64.wrap ((IntKind.i64.wrap (r1.1.1 + (1 : Int))) + (1 : Int)))) then some (s107.E (((-1 : Int), ()), ()))
 else (if 0 ≤ v5 then (if v5 < ((v0.n : Nat) : Int) then (bif ((v0.get (v5).toNat).2.2.2.1.2.1 != (IntKind.i64.wrap ((IntKind.i64.wrap ((IntKind.i64.wrap (r1.1.1 + (1 : Int))) + (1 : Int))) + (1 : Int)))) then some (s107.E (((-1 : Int), ()), ()))
 else (if 0 ≤ v5 then (if v5 < ((v0.n : Nat) : Int) then (bif ((v0.get (v5).toNat).2.2.2.1.2.2 != (IntKind.i64.wrap ((IntKind.i64.wrap ((IntKind.i64.wrap ((IntKind.i64.wrap (r1.1.1 + (1 : Int))) + (1 : Int))) + (1 : Int))) + (1 : Int)))) then some (s107.E (((-1 : Int), ()), ()))
 else (if 0 ≤ v5 then (if v5 < ((v0.n : Nat) : Int) then (bif ((v0.get (v5).toNat).2.2.2.2.1 != (IntKind.i64.wrap ((IntKind.i64.wrap ((IntKind.i64.wrap ((IntKind.i64.wrap ((IntKind.i64.wrap (r1.1.1 + (1 : Int))) + (1 : Int))) + (1 : Int))) + (1 : Int))) + (1 : Int)))) then some (s107.E (((-1 : Int), ()), ()))
 else (if 0 ≤ v5 then (if v5 < ((v0.n : Nat) : Int) then (bif ((v0.get (v5).toNat).2.2.2.2.2.1 != (IntKind.i64.wrap ((IntKind.i64.wrap ((IntKind.i64.wrap ((IntKind.i64.wrap ((IntKind.i64.wrap ((IntKind.i64.wrap (r1.1.1 + (1 : Int))) + (1 : Int))) + (1 : Int))) + (1 : Int))) + (1 : Int))) + (1 : Int)))) then some (s107.E (((-1 : Int), ()), ()))
 else (if 0 ≤ v5 then (if v5 < ((v0.n : Nat) : Int) then (bif ((v0.get (v5).toNat).2.2.2.2.2.2 != (IntKind.i64.wrap ((IntKind.i64.wrap ((IntKind.i64.wrap ((IntKind.i64.wrap ((IntKind.i64.wrap ((IntKind.i64.wrap ((IntKind.i64.wrap (r1.1.1 + (1 : Int))) + (1 : Int))) + (1 : Int))) + (1 : Int))) + (1 : Int))) + (1 : Int))) + (1 : Int)))) then some (s107.E (((-1 : Int), ()), ()))
 else L107_4 v0 (IntKind.i64.wrap ((IntKind.i64.wrap ((IntKind.i64.wrap ((IntKind.i64.wrap ((IntKind.i64.wrap ((IntKind.i64.wrap ((IntKind.i64.wrap ((IntKind.i64.wrap (r1.1.1 + (1 : Int))) + (1 : Int))) + (1 : Int))) + (1 : Int))) + (1 : Int))) + (1 : Int))) + (1 : Int))) + (1 : Int))) (IntKind.i64.wrap (v5 + (1 : Int)))) else none) else none)) else none) else none)) else none) else none)) else none) else none)) else none) else none)) else none) else none)) else none) else none)) else none) else none))) else none) else none)
 else some (s107.E ((v1, ()), ()))) := by kernel_rfl
theorem e106 (x0 : Sl U0) (x1 : Int) : enterK prog Ms Ls Gs tb Y.om.lab 106 [svl tS0 x0, .int .i64 x1] =
  L106_4 x0 x1 (0 : Int) := by kernel_rfl
theorem l106_4 (v0 : Sl U0) (v1 : Int) (v5 : Int) : atK prog Ms Ls Gs tb Y.om.lab 106 (stk prog 106 4) (σ106_4 v0.n (fun k0 => tS0.cells (v0.get k0)) v1 v5) =
  (bif (decide (v5 < ((v0.n : Nat) : Int))) then (if 0 ≤ v5 then (if v5 < ((v0.n : Nat) : Int) then (bif ((v0.get (v5).toNat).1.1 != v1) then some (s106.E (((-1 : Int), ()), ()))
 else (if 0 ≤ v5 then (if v5 < ((v0.n : Nat) : Int) then (bif ((v0.get (v5).toNat).1.2.1 != (IntKind.i64.wrap (v1 + (1 : Int)))) then some (s106.E (((-1 : Int), ()), ()))
 else (if 0 ≤ v5 then (if v5 < ((v0.n : Nat) : Int) then (bif ((v0.get (v5).toNat).1.2.2 != (IntKind.i64.wrap ((IntKind.i64.wrap (v1 + (1 : Int))) + (1 : Int)))) then some (s106.E (((-1 : Int), ()), ()))
 else (if 0 ≤ v5 then (if v5 < ((v0.n : Nat) : Int) then (bif ((v0.get (v5).toNat).2.1 != (IntKind.i64.wrap ((IntKind.i64.wrap ((IntKind.i64.wrap (v1 + (1 : Int))) + (1 : Int))) + (1 : Int)))) then some (s106.E (((-1 : Int), ()), ()))
 else (if 0 ≤ v5 then (if v5 < ((v0.n : Nat) : Int) then (bif ((v0.get (v5).toNat).2.2.1 != (IntKind.i64.wrap ((IntKind.i64.wrap ((IntKind.i64.wrap ((IntKind.i64.wrap (v1 + (1 : Int))) + (1 : Int))) + (1 : Int))) + (1 : Int)))) then some (s106.E (((-1 : Int), ()), ()))
 else (if 0 ≤ v5 then (if v5 < ((v0.n : Nat) : Int) then (bif ((v0.get (v5).toNat).2.2.2 != (IntKind.i64.wrap ((IntKind.i64.wrap ((IntKind.i64.wrap ((IntKind.i64.wrap ((IntKind.i64.wrap (v1 + (1 : Int))) + (1 : Int))) + (1 : Int))) + (1 : Int))) + (1 : Int)))) then some (s106.E (((-1 : Int), ()), ()))
 else L106_4 v0 (IntKind.i64.wrap ((IntKind.i64.wrap ((IntKind.i64.wrap ((IntKind.i64.wrap ((IntKind.i64.wrap ((IntKind.i64.wrap (v1 + (1 : Int))) + (1 : Int))) + (1 : Int))) + (1 : Int))) + (1 : Int))) + (1 : Int))) (IntKind.i64.wrap (v5 + (1 : Int)))) else none) else none)) else none) else none)) else none) else none)) else none) else none)) else none) else none)) else none) else none)
 else some (s106.E ((v1, ()), ()))) := by kernel_rfl
theorem e29 (x0 : U7) (x1 : Int) : enterK prog Ms Ls Gs tb Y.om.lab 29 [.agg (tS7.cells x0), .int .i64 x1] =
  k66 x0.1 x1 (fun r1 => k67 x0.2 r1.1.1 (fun r2 => some (s29.E ((r2.1.1, ()), (r1.2.1, r2.2.1, ()))))) := by kernel_rfl
theorem e67 (x0 : Sl U5) (x1 : Int) : enterK prog Ms Ls Gs tb Y.om.lab 67 [svl tS5 x0, .int .i64 x1] =
  L67_4 x1 (0 : Int) x0 := by kernel_rfl
theorem l67_4 (v1 : Int) (v5 : Int) (o14336 : Sl U5) : atK prog Ms Ls Gs tb Y.om.lab 67 (stk prog 67 4) (σ67_4 v1 v5 o14336.n (fun k0 => tS5.cells (o14336.get k0))) =
  (bif (decide (v5 < ((o14336.n : Nat) : Int))) then k77 v1 (fun r1 => (if 0 ≤ v5 then (if v5 < ((o14336.n : Nat) : Int) then (if (0 + (v5).toNat) < o14336.n then L67_11 v1 v5 (Sl.set tS5 o14336 (0 + (v5).toNat) (r1.1.1, (o14336.get (0 + (v5).toNat)).2)) else none) else none) else none))
 else some (s67.E ((v1, ()), (o14336, ())))) := by kernel_rfl
theorem l67_11 (v1 : Int) (v5 : Int) (o14336 : Sl U5) : atK prog Ms Ls Gs tb Y.om.lab 67 (stk prog 67 11) (σ67_11 v1 v5 o14336.n (fun k0 => tS5.cells (o14336.get k0))) =
  (if 0 ≤ v5 then (if v5 < ((o14336.n : Nat) : Int) then (if (0 + (v5).toNat) < o14336.n then L67_15 (IntKind.i64.wrap (v1 + (1 : Int))) v5 (Sl.set tS5 o14336 (0 + (v5).toNat) ((o14336.get (0 + (v5).toNat)).1, ((IntKind.i64.wrap (v1 + (1 : Int))), (o14336.get (0 + (v5).toNat)).2.2))) else none) else none) else none) := by kernel_rfl
theorem l67_15 (v1 : Int) (v5 : Int) (o14336 : Sl U5) : atK prog Ms Ls Gs tb Y.om.lab 67 (stk prog 67 15) (σ67_15 v1 v5 o14336.n (fun k0 => tS5.cells (o14336.get k0))) =
  (if 0 ≤ v5 then (if v5 < ((o14336.n : Nat) : Int) then (if (0 + (v5).toNat) < o14336.n then L67_19 (IntKind.i64.wrap (v1 + (1 : Int))) v5 (Sl.set tS5 o14336 (0 + (v5).toNat) ((o14336.get (0 + (v5).toNat)).1, ((o14336.get (0 + (v5).toNat)).2.1, ((IntKind.i64.wrap (v1 + (1 : Int))), (o14336.get (0 + (v5).toNat)).2.2.2.1, (o14336.get (0 + (v5).toNat)).2.2.2.2)))) else none) else none) else none) := by kernel_rfl
theorem l67_19 (v1 : Int) (v5 : Int) (o14336 : Sl U5) : atK prog Ms Ls Gs tb Y.om.lab 67 (stk prog 67 19) (σ67_19 v1 v5 o14336.n (fun k0 => tS5.cells (o14336.get k0))) =
  (if 0 ≤ v5 then (if v5 < ((o14336.n : Nat) : Int) then (if (0 + (v5).toNat) < o14336.n then L67_23 (IntKind.i64.wrap (v1 + (1 : Int))) v5 (Sl.set tS5 o14336 (0 + (v5).toNat) ((o14336.get (0 + (v5).toNat)).1, ((o14336.get (0 + (v5).toNat)).2.1, ((o14336.get (0 + (v5).toNat)).2.2.1, (IntKind.i64.wrap (v1 + (1 : Int))), (o14336.get (0 + (v5).toNat)).2.2.2.2)))) else none) else none) else none) := by kernel_rfl
theorem l67_23 (v1 : Int) (v5 : Int) (o14336 : Sl U5) : atK prog Ms Ls Gs tb Y.om.lab 67 (stk prog 67 23) (σ67_23 v1 v5 o14336.n (fun k0 => tS5.cells (o14336.get k0))) =
  (if 0 ≤ v5 then (if v5 < ((o14336.n : Nat) : Int) then (if (0 + (v5).toNat) < o14336.n then L67_27 (IntKind.i64.wrap (v1 + (1 : Int))) v5 (Sl.set tS5 o14336 (0 + (v5).toNat) ((o14336.get (0 + (v5).toNat)).1, ((o14336.get (0 + (v5).toNat)).2.1, ((o14336.get (0 + (v5).toNat)).2.2.1, (o14336.get (0 + (v5).toNat)).2.2.2.1, (IntKind.i64.wrap (v1 + (1 : Int))))))) else none) else none) else none) := by kernel_rfl
theorem l67_27 (v1 : Int) (v5 : Int) (o14336 : Sl U5) : atK prog Ms Ls Gs tb Y.om.lab 67 (stk prog 67 27) (σ67_27 v1 v5 o14336.n (fun k0 => tS5.cells (o14336.get k0))) =
  L67_4 (IntKind.i64.wrap (v1 + (1 : Int))) (IntKind.i64.wrap (v5 + (1 : Int))) o14336 := by kernel_rfl
theorem e66 (x0 : Sl U2) (x1 : Int) : enterK prog Ms Ls Gs tb Y.om.lab 66 [svl tS2 x0, .int .i64 x1] =
  L66_4 x1 (0 : Int) x0 := by kernel_rfl
theorem l66_4r (v1 : Int) (v5 : Int) (o8704 : Sl U2) : atK prog Ms Ls Gs tb Y.om.lab 66 (stk prog 66 4) (σ66_4 v1 v5 o8704.n (fun k0 => tS2.cells (o8704.get k0))) =
  (bif (decide (v5 < ((o8704.n : Nat) : Int))) then (if 0 ≤ v5 then (if v5 < ((o8704.n : Nat) : Int) then (if (0 + (v5).toNat) < o8704.n then k28 ((o8704.get (0 + (v5).toNat)).1) v1 (fun r1 => Lr66_11 r1.1.1 v5 o8704.n (fun k0 => mrgE (Nat.beq k0 (0 + (v5).toNat)) (setAt (.sl tS0.sz tS0.flat none none r1.2.1.n (fun k1 => tS0.cells (r1.2.1.get k1))) 0 (mrgE (Nat.beq (0 + (v5).toNat) (0 + (v5).toNat)) (setAt (.hole) 0 (tS2.cells (o8704.get (0 + (v5).toNat)))) (tS2.cells (o8704.get (0 + (v5).toNat))))) (mrgE (Nat.beq k0 (0 + (v5).toNat)) (setAt (.hole) 0 (tS2.cells (o8704.get (0 + (v5).toNat)))) (tS2.cells (o8704.get k0))))) else none) else none) else none)
 else some (s66.E ((v1, ()), (o8704, ())))) := by kernel_rfl
theorem l66_4 (v1 : Int) (v5 : Int) (o8704 : Sl U2) : atK prog Ms Ls Gs tb Y.om.lab 66 (stk prog 66 4) (σ66_4 v1 v5 o8704.n (fun k0 => tS2.cells (o8704.get k0))) =
  (bif (decide (v5 < ((o8704.n : Nat) : Int))) then (if 0 ≤ v5 then (if v5 < ((o8704.n : Nat) : Int) then (if (0 + (v5).toNat) < o8704.n then k28 ((o8704.get (0 + (v5).toNat)).1) v1 (fun r1 => L66_11 r1.1.1 v5 (Sl.set tS2 o8704 (0 + (v5).toNat) (r1.2.1, (o8704.get (0 + (v5).toNat)).2.1, (o8704.get (0 + (v5).toNat)).2.2))) else none) else none) else none)
 else some (s66.E ((v1, ()), (o8704, ())))) := (l66_4r v1 v5 o8704).trans (by simp only [rows_push]; kernel_rfl)
theorem l66_11r (v1 : Int) (v5 : Int) (o8704 : Sl U2) : atK prog Ms Ls Gs tb Y.om.lab 66 (stk prog 66 11) (σ66_11 v1 v5 o8704.n (fun k0 => tS2.cells (o8704.get k0))) =
  (if 0 ≤ v5 then (if v5 < ((o8704.n : Nat) : Int) then (if (0 + (v5).toNat) < o8704.n then k104 ((o8704.get (0 + (v5).toNat)).2.1) v1 (fun r1 => Lr66_13 r1.1.1 v5 o8704.n (fun k0 => mrgE (Nat.beq k0 (0 + (v5).toNat)) (setAt (.sl tS3.sz tS3.flat none none r1.2.1.n (fun k1 => tS3.cells (r1.2.1.get k1))) 1 (mrgE (Nat.beq (0 + (v5).toNat) (0 + (v5).toNat)) (setAt (.hole) 1 (tS2.cells (o8704.get (0 + (v5).toNat)))) (tS2.cells (o8704.get (0 + (v5).toNat))))) (mrgE (Nat.beq k0 (0 + (v5).toNat)) (setAt (.hole) 1 (tS2.cells (o8704.get (0 + (v5).toNat)))) (tS2.cells (o8704.get k0))))) else none) else none) else none) := by kernel_rfl
theorem l66_11 (v1 : Int) (v5 : Int) (o8704 : Sl U2) : atK prog Ms Ls Gs tb Y.om.lab 66 (stk prog 66 11) (σ66_11 v1 v5 o8704.n (fun k0 => tS2.cells (o8704.get k0))) =
  (if 0 ≤ v5 then (if v5 < ((o8704.n : Nat) : Int) then (if (0 + (v5).toNat) < o8704.n then k104 ((o8704.get (0 + (v5).toNat)).2.1) v1 (fun r1 => L66_13 r1.1.1 v5 (Sl.set tS2 o8704 (0 + (v5).toNat) ((o8704.get (0 + (v5).toNat)).1, r1.2.1, (o8704.get (0 + (v5).toNat)).2.2))) else none) else none) else none) := (l66_11r v1 v5 o8704).trans (by simp only [rows_push]; kernel_rfl)
theorem l66_13r (v1 : Int) (v5 : Int) (o8704 : Sl U2) : atK prog Ms Ls Gs tb Y.om.lab 66 (stk prog 66 13) (σ66_13 v1 v5 o8704.n (fun k0 => tS2.cells (o8704.get k0))) =
  (if 0 ≤ v5 then (if v5 < ((o8704.n : Nat) : Int) then (if (0 + (v5).toNat) < o8704.n then k105 ((o8704.get (0 + (v5).toNat)).2.2) v1 (fun r1 => Lr66_4 r1.1.1 (IntKind.i64.wrap (v5 + (1 : Int))) o8704.n (fun k0 => mrgE (Nat.beq k0 (0 + (v5).toNat)) (setAt (.sl tI.sz tI.flat none none r1.2.1.n (fun k1 => tI.cells (r1.2.1.get k1))) 2 (mrgE (Nat.beq (0 + (v5).toNat) (0 + (v5).toNat)) (setAt (.hole) 2 (tS2.cells (o8704.get (0 + (v5).toNat)))) (tS2.cells (o8704.get (0 + (v5).toNat))))) (mrgE (Nat.beq k0 (0 + (v5).toNat)) (setAt (.hole) 2 (tS2.cells (o8704.get (0 + (v5).toNat)))) (tS2.cells (o8704.get k0))))) else none) else none) else none) := by kernel_rfl
theorem l66_13 (v1 : Int) (v5 : Int) (o8704 : Sl U2) : atK prog Ms Ls Gs tb Y.om.lab 66 (stk prog 66 13) (σ66_13 v1 v5 o8704.n (fun k0 => tS2.cells (o8704.get k0))) =
  (if 0 ≤ v5 then (if v5 < ((o8704.n : Nat) : Int) then (if (0 + (v5).toNat) < o8704.n then k105 ((o8704.get (0 + (v5).toNat)).2.2) v1 (fun r1 => L66_4 r1.1.1 (IntKind.i64.wrap (v5 + (1 : Int))) (Sl.set tS2 o8704 (0 + (v5).toNat) ((o8704.get (0 + (v5).toNat)).1, (o8704.get (0 + (v5).toNat)).2.1, r1.2.1))) else none) else none) else none) := (l66_13r v1 v5 o8704).trans (by simp only [rows_push]; kernel_rfl)
theorem e105 (x0 : Sl Int) (x1 : Int) : enterK prog Ms Ls Gs tb Y.om.lab 105 [svl tI x0, .int .i64 x1] =
  L105_4 x1 (0 : Int) x0 := by kernel_rfl
theorem l105_4 (v1 : Int) (v5 : Int) (o4864 : Sl Int) : atK prog Ms Ls Gs tb Y.om.lab 105 (stk prog 105 4) (σ105_4 v1 v5 o4864.n (fun k0 => tI.cells (o4864.get k0))) =
  (bif (decide (v5 < ((o4864.n : Nat) : Int))) then (if 0 ≤ v5 then (if v5 < ((o4864.n : Nat) : Int) then (if (0 + (v5).toNat) < o4864.n then L105_4 (IntKind.i64.wrap (v1 + (1 : Int))) (IntKind.i64.wrap (v5 + (1 : Int))) (Sl.set tI o4864 (0 + (v5).toNat) v1) else none) else none) else none)
 else some (s105.E ((v1, ()), (o4864, ())))) := by kernel_rfl
theorem e104 (x0 : Sl U3) (x1 : Int) : enterK prog Ms Ls Gs tb Y.om.lab 104 [svl tS3 x0, .int .i64 x1] =
  L104_4 x1 (0 : Int) x0 := by kernel_rfl
theorem l104_4r (v1 : Int) (v5 : Int) (o23552 : Sl U3) : atK prog Ms Ls Gs tb Y.om.lab 104 (stk prog 104 4) (σ104_4 v1 v5 o23552.n (fun k0 => tS3.cells (o23552.get k0))) =
  (bif (decide (v5 < ((o23552.n : Nat) : Int))) then (if 0 ≤ v5 then (if v5 < ((o23552.n : Nat) : Int) then (if (0 + (v5).toNat) < o23552.n then k28 ((o23552.get (0 + (v5).toNat)).1) v1 (fun r1 => Lr104_11 r1.1.1 v5 o23552.n (fun k0 => mrgE (Nat.beq k0 (0 + (v5).toNat)) (setAt (.sl tS0.sz tS0.flat none none r1.2.1.n (fun k1 => tS0.cells (r1.2.1.get k1))) 0 (mrgE (Nat.beq (0 + (v5).toNat) (0 + (v5).toNat)) (setAt (.hole) 0 (tS3.cells (o23552.get (0 + (v5).toNat)))) (tS3.cells (o23552.get (0 + (v5).toNat))))) (mrgE (Nat.beq k0 (0 + (v5).toNat)) (setAt (.hole) 0 (tS3.cells (o23552.get (0 + (v5).toNat)))) (tS3.cells (o23552.get k0))))) else none) else none) else none)
 else some (s104.E ((v1, ()), (o23552, ())))) := by kernel_rfl
theorem l104_4 (v1 : Int) (v5 : Int) (o23552 : Sl U3) : atK prog Ms Ls Gs tb Y.om.lab 104 (stk prog 104 4) (σ104_4 v1 v5 o23552.n (fun k0 => tS3.cells (o23552.get k0))) =
  (bif (decide (v5 < ((o23552.n : Nat) : Int))) then (if 0 ≤ v5 then (if v5 < ((o23552.n : Nat) : Int) then (if (0 + (v5).toNat) < o23552.n then k28 ((o23552.get (0 + (v5).toNat)).1) v1 (fun r1 => L104_11 r1.1.1 v5 (Sl.set tS3 o23552 (0 + (v5).toNat) (r1.2.1, (o23552.get (0 + (v5).toNat)).2))) else none) else none) else none)
 else some (s104.E ((v1, ()), (o23552, ())))) := (l104_4r v1 v5 o23552).trans (by simp only [rows_push]; kernel_rfl)
theorem l104_11 (v1 : Int) (v5 : Int) (o23552 : Sl U3) : atK prog Ms Ls Gs tb Y.om.lab 104 (stk prog 104 11) (σ104_11 v1 v5 o23552.n (fun k0 => tS3.cells (o23552.get k0))) =
  (if 0 ≤ v5 then (if v5 < ((o23552.n : Nat) : Int) then (if (0 + (v5).toNat) < o23552.n then L104_13 v1 v5 (Sl.set tS3 o23552 (0 + (v5).toNat) ((o23552.get (0 + (v5).toNat)).1, (v1, (o23552.get (0 + (v5).toNat)).2.2.1, (o23552.get (0 + (v5).toNat)).2.2.2.1, (o23552.get (0 + (v5).toNat)).2.2.2.2))) else none) else none) else none) := by kernel_rfl
theorem l104_13 (v1 : Int) (v5 : Int) (o23552 : Sl U3) : atK prog Ms Ls Gs tb Y.om.lab 104 (stk prog 104 13) (σ104_13 v1 v5 o23552.n (fun k0 => tS3.cells (o23552.get k0))) =
  (if 0 ≤ v5 then (if v5 < ((o23552.n : Nat) : Int) then (if (0 + (v5).toNat) < o23552.n then L104_17 (IntKind.i64.wrap (v1 + (1 : Int))) v5 (Sl.set tS3 o23552 (0 + (v5).toNat) ((o23552.get (0 + (v5).toNat)).1, ((o23552.get (0 + (v5).toNat)).2.1, ((Int.tmod (IntKind.i64.wrap (v1 + (1 : Int))) (3 : Int)) == (0 : Int)), (o23552.get (0 + (v5).toNat)).2.2.2.1, (o23552.get (0 + (v5).toNat)).2.2.2.2))) else none) else none) else none) := by kernel_rfl
theorem l104_17 (v1 : Int) (v5 : Int) (o23552 : Sl U3) : atK prog Ms Ls Gs tb Y.om.lab 104 (stk prog 104 17) (σ104_17 v1 v5 o23552.n (fun k0 => tS3.cells (o23552.get k0))) =
  (if 0 ≤ v5 then (if v5 < ((o23552.n : Nat) : Int) then (if (0 + (v5).toNat) < o23552.n then L104_21 (IntKind.i64.wrap (v1 + (1 : Int))) v5 (Sl.set tS3 o23552 (0 + (v5).toNat) ((o23552.get (0 + (v5).toNat)).1, ((o23552.get (0 + (v5).toNat)).2.1, (o23552.get (0 + (v5).toNat)).2.2.1, ((IntKind.i64.wrap (v1 + (1 : Int))), (o23552.get (0 + (v5).toNat)).2.2.2.1.2.1, (o23552.get (0 + (v5).toNat)).2.2.2.1.2.2), (o23552.get (0 + (v5).toNat)).2.2.2.2))) else none) else none) else none) := by kernel_rfl
theorem l104_21 (v1 : Int) (v5 : Int) (o23552 : Sl U3) : atK prog Ms Ls Gs tb Y.om.lab 104 (stk prog 104 21) (σ104_21 v1 v5 o23552.n (fun k0 => tS3.cells (o23552.get k0))) =
  (if 0 ≤ v5 then (if v5 < ((o23552.n : Nat) : Int) then (if (0 + (v5).toNat) < o23552.n then L104_25 (IntKind.i64.wrap (v1 + (1 : Int))) v5 (Sl.set tS3 o23552 (0 + (v5).toNat) ((o23552.get (0 + (v5).toNat)).1, ((o23552.get (0 + (v5).toNat)).2.1, (o23552.get (0 + (v5).toNat)).2.2.1, ((o23552.get (0 + (v5).toNat)).2.2.2.1.1, (IntKind.i64.wrap (v1 + (1 : Int))), (o23552.get (0 + (v5).toNat)).2.2.2.1.2.2), (o23552.get (0 + (v5).toNat)).2.2.2.2))) else none) else none) else none) := by kernel_rfl
theorem l104_25 (v1 : Int) (v5 : Int) (o23552 : Sl U3) : atK prog Ms Ls Gs tb Y.om.lab 104 (stk prog 104 25) (σ104_25 v1 v5 o23552.n (fun k0 => tS3.cells (o23552.get k0))) =
  (if 0 ≤ v5 then (if v5 < ((o23552.n : Nat) : Int) then (if (0 + (v5).toNat) < o23552.n then L104_29 (IntKind.i64.wrap (v1 + (1 : Int))) v5 (Sl.set tS3 o23552 (0 + (v5).toNat) ((o23552.get (0 + (v5).toNat)).1, ((o23552.get (0 + (v5).toNat)).2.1, (o23552.get (0 + (v5).toNat)).2.2.1, ((o23552.get (0 + (v5).toNat)).2.2.2.1.1, (o23552.get (0 + (v5).toNat)).2.2.2.1.2.1, (IntKind.i64.wrap (v1 + (1 : Int)))), (o23552.get (0 + (v5).toNat)).2.2.2.2))) else none) else none) else none) := by kernel_rfl
theorem l104_29 (v1 : Int) (v5 : Int) (o23552 : Sl U3) : atK prog Ms Ls Gs tb Y.om.lab 104 (stk prog 104 29) (σ104_29 v1 v5 o23552.n (fun k0 => tS3.cells (o23552.get k0))) =
  (if 0 ≤ v5 then (if v5 < ((o23552.n : Nat) : Int) then (if (0 + (v5).toNat) < o23552.n then L104_33 (IntKind.i64.wrap (v1 + (1 : Int))) v5 (Sl.set tS3 o23552 (0 + (v5).toNat) ((o23552.get (0 + (v5).toNat)).1, ((o23552.get (0 + (v5).toNat)).2.1, (o23552.get (0 + (v5).toNat)).2.2.1, (o23552.get (0 + (v5).toNat)).2.2.2.1, ((IntKind.i64.wrap (v1 + (1 : Int))), (o23552.get (0 + (v5).toNat)).2.2.2.2.2.1, (o23552.get (0 + (v5).toNat)).2.2.2.2.2.2)))) else none) else none) else none) := by kernel_rfl
end Go.Vk.St
end
