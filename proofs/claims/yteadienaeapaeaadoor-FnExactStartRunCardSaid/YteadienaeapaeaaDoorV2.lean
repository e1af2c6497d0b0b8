/- The statement FnExactStartRun, as its card says, holds of the given program: no conditions. Part 2. -/
import Derived.Test.YteadienaeapaeaaDoorV1
set_option linter.unusedSectionVars false
set_option linter.unusedVariables false
set_option linter.unusedSimpArgs false
section
namespace Go.Vk
open Go
set_option linter.unusedVariables false
set_option linter.unusedSimpArgs false
variable {w w' w0 : World} {S0 : SS} {F0 : Set'} {G G' : Gh} {ob ob' : Ob} {v : V} {x : Value} {σ σ' : St} {tm : Array Value} {id : Nat} {o o' : VO}
variable {R : Type} {r : R} {k : V → Option R} {kσ : St → Option R} {E : Env} {P : Program}

def noVO : VO := ⟨true, .fz, 0, false, 0, fun _ => [], 0⟩
def obAt (σ : St) (k : Nat) : VO := match look σ.objs k with | some (some o) => o | _ => noVO
theorem obAt_of {k : Nat} (h : look σ.objs k = some (some o)) : obAt σ k = o := by simp [obAt, h]

/-- The value of the place that an object was handed for. -/
def lkX (X : Slot → Value) : List Nat → List Slot → Nat → Value
  | id :: ids, s :: ms, k => if id = k then X s else lkX X ids ms k
  | _, _, _ => default
theorem lkX_at {X : Slot → Value} : ∀ {ids : List Nat} {ms : List Slot}, distinct ids = true → ∀ {i id : Nat} {s : Slot}, ids[i]? = some id → ms[i]? = some s → lkX X ids ms id = X s
  | [], ms, _, i, id, s, h, _ => by simp at h
  | a :: ids, [], _, i, id, s, _, h => by simp at h
  | a :: ids, s0 :: ms, hd, i, id, s, h1, h2 => by
    obtain ⟨d1, d2⟩ := distinct_cons hd
    simp only [lkX]
    cases i with
    | zero => simp at h1 h2; subst h1 h2; rw [if_pos rfl]
    | succ i =>
      have h1 : ids[i]? = some id := by simpa using h1
      rw [if_neg fun e => d1 id (List.mem_of_getElem? h1) e.symm]
      exact lkX_at d2 h1 (by simpa using h2)

theorem distinct_idx : ∀ {ids : List Nat}, distinct ids = true → ∀ {i j id : Nat}, ids[i]? = some id → ids[j]? = some id → i = j
  | [], _, i, j, id, h, _ => by simp at h
  | a :: ids, hd, i, j, id, h1, h2 => by
    obtain ⟨d1, d2⟩ := distinct_cons hd
    cases i with
    | zero =>
      cases j with
      | zero => rfl
      | succ j => simp at h1 h2; subst h1; exact (d1 a (List.mem_of_getElem? h2) rfl).elim
    | succ i =>
      cases j with
      | zero => simp at h1 h2; subst h2; exact (d1 a (List.mem_of_getElem? h1) rfl).elim
      | succ j => have := distinct_idx d2 (i := i) (j := j) (id := id) (by simpa using h1) (by simpa using h2); rw [this]

theorem memL_iff {l : List Nat} {a : Nat} : memL l a = true ↔ a ∈ l := by
  simp only [memL, List.any_eq_true]
  constructor
  · rintro ⟨y, hy, he⟩; rw [Nat.eq_of_beq_eq_true he]; exact hy
  · intro h; exact ⟨a, h, by simp⟩

theorem cellAt_dead {cs : List V} {j : Nat} (h : ¬ j < cs.length) : cellAt cs j = .dead := by simp [cellAt, List.getElem?_eq_none (Nat.le_of_not_lt h)]

theorem slot_rep {args : List V} {xs : List Value} (hl : args.length = xs.length) (hc : ∀ i, i < args.length → RepT w G ob (cellAt args i) (xs.getD i default)) (s : Slot) : RepT w G ob (slotV args s) (slotVal xs.toArray s) := by
  obtain ⟨p, j⟩ := s
  by_cases hp : p < args.length
  · have hr := hc p hp
    cases j with
    | none => simpa [slotV, slotVal] using hr
    | some j =>
      simp only [slotV, slotVal]
      cases ha : cellAt args p with
      | agg cs =>
        rw [ha] at hr
        obtain ⟨ys, e, hl', hc'⟩ := hr.agg_inv
        have e' : xs.toArray.getD p default = .agg ys := by simpa using e
        rw [e']
        by_cases hj : j < cs.length
        · exact hc' j hj
        · simp only [cellAt_dead hj]; exact .dead _
      | _ => exact .dead _
  · have hd := cellAt_dead hp
    cases j with
    | none => rw [show slotV args (p, none) = .dead from hd]; exact .dead _
    | some j => simp only [slotV, hd]; exact .dead _

theorem ref_one (h : RepT w G ob (.ref id none) x) : ∃ a l c, x = .slice a l c := by
  cases h with
  | val _ _ h => cases h
  | ref _ _ _ hx => exact hx

theorem ArgOk.agg_inv {F : Set'} {cs : List V} (h : ArgOk w F (.agg cs) x) : ∃ ys, x = .agg ys ∧ cs.length = ys.size ∧ ∀ i, i < cs.length → Rep w F false (cellAt cs i) (ys.getD i default) none' := by
  cases h with
  | val _ _ hr => cases hr
  | agg _ ys hl h => exact ⟨ys, rfl, hl, h⟩
theorem ArgOk.agg_inv' {F : Set'} {ys : Array Value} (h : ArgOk w F v (.agg ys)) : ∃ cs, v = .agg cs ∧ cs.length = ys.size ∧ ∀ i, i < cs.length → Rep w F false (cellAt cs i) (ys.getD i default) none' := by
  cases h with
  | val _ _ hr => cases hr; rename_i hh; cases hh
  | agg cs _ hl h => exact ⟨cs, rfl, hl, h⟩

theorem callW_sound {callF : FuncId → List V → Option Ret} (hE : EnvOk E) (hp : Pre E w0 S0 F0) (hI : Inv w0 S0 F0 G σ tm w) (hcall : SoundCall E callF) {d : Nat} {dst : Option Nat} {f : FuncId} {ts : List Nat} {args : List V} {xs : List Value} (h : callW E callF σ d dst f ts args kσ = some r)
    (hl : args.length = xs.length) (hc : ∀ i, i < args.length → RepT w G (look σ.objs) (cellAt args i) (xs.getD i default)) (hd : dstIn tm.size dst = true) {next : Act → World → Prop} (cont : Cont w0 S0 F0 kσ r next tm.size) :
    HasBody E.P f ∧ Calls E.P f xs.toArray w fun e w' => ∃ v, e = .returned v ∧ next ⟨putT tm dst v, []⟩ w' := by
  unfold callW at h
  generalize hms : E.M f = ms at h
  obtain ⟨σ1, G1, ids, lg, h, I1, st1, t1, lenI, refs, logs, _⟩ := pullL_sound (X := slotVal xs.toArray) ms _ σ G none' _ h hI (fun s => slot_rep hl hc s) (fun _ h => h.elim)
  obtain ⟨hb, h⟩ := bif_some h
  simp only [Bool.and_eq_true] at hb
  obtain ⟨⟨hdis, hz0⟩, hlg⟩ := hb
  -- the places' handles
  have slotRef : ∀ s, s ∈ ms → ∃ (i id : Nat), ms[i]? = some s ∧ ids[i]? = some id ∧ RepT w G1 (look σ1.objs) (.ref id none) (slotVal xs.toArray s) := fun s hs => by
    obtain ⟨i, hi⟩ := List.getElem?_of_mem hs
    have hlt : i < ids.length := by rw [lenI]; exact (List.getElem?_eq_some_iff.1 hi).1
    exact ⟨i, ids[i], hi, List.getElem?_eq_getElem hlt, refs i _ s (List.getElem?_eq_getElem hlt) hi⟩
  have slotOne : ∀ s, s ∈ ms → (slotVal xs.toArray s).oneCell' = true := fun s hs => by
    obtain ⟨i, id, _, _, hr⟩ := slotRef s hs
    obtain ⟨a, l, c, e⟩ := ref_one hr
    rw [e]; rfl
  have lenB : (blanks args ms).length = args.length := fillA_len _ _ _
  have lkH : ∀ s v, lkS ms (ms.map fun _ => V.hole) s = some v → v = .hole ∧ s ∈ ms := fun s v hv => by
    obtain ⟨i, h1, h2⟩ := lkS_some hv
    rw [List.getElem?_map, h1] at h2
    exact ⟨by simpa using h2.symm, List.mem_of_getElem? h1⟩
  -- the arguments but for what is written
  have blankRep : ∀ i, i < (blanks args ms).length → RepT w G1 (look σ1.objs) (cellAt (blanks args ms) i) (xs.getD i default) := fun i hi => by
    rw [lenB] at hi
    have e : cellAt (blanks args ms) i = fill1 (lkS ms (ms.map fun _ => V.hole)) (0 + i) (cellAt args i) := fillA_at _ 0 args i hi
    rw [e, Nat.zero_add]
    unfold fill1
    cases hf : lkS ms (ms.map fun _ => V.hole) (i, none) with
    | some v =>
      obtain ⟨rfl, hs⟩ := lkH _ _ hf
      have := slotOne _ hs
      exact .val _ _ (.hole _ _ _ (by simpa [slotVal] using this))
    | none =>
      have hr := (hc i hi).step st1
      cases ha : cellAt args i with
      | agg cs =>
        rw [ha] at hr
        obtain ⟨ys, e, hl', hc'⟩ := hr.agg_inv
        rw [e]
        refine .agg _ _ (by rw [fillC_len]; exact hl') fun j hj => ?_
        rw [fillC_len] at hj
        rw [fillC_at _ _ _ _ hj, Nat.zero_add]
        cases hf2 : lkS ms (ms.map fun _ => V.hole) (i, some j) with
        | none => exact hc' j hj
        | some v =>
          obtain ⟨rfl, hs⟩ := lkH _ _ hf2
          have := slotOne _ hs
          have e' : slotVal xs.toArray (i, some j) = ys.getD j default := by
            have e2 : xs.toArray.getD i default = .agg ys := by simpa using e
            simp only [slotVal, e2]
          rw [e'] at this
          exact .val _ _ (.hole _ _ _ this)
      | _ => rw [ha] at hr; exact hr
  obtain ⟨args', h, hl', hargs⟩ := argsC_sound I1 ((blanks args ms).flatMap (idsIn σ1)) ts (blanks args ms) xs _ h (by rw [lenB, hl]) blankRep (fun v hv id hid => List.mem_flatMap.2 ⟨v, hv, hid⟩)
  obtain ⟨trees, h, lenT, htr⟩ := treesL_sound ids _ h
  cases hcf : callF f (fillSlots args' ms trees) with
  | none => rw [hcf] at h; cases h
  | some ret =>
  rw [hcf] at h
  simp only at h
  obtain ⟨hdp, h⟩ := bif_some h
  obtain ⟨hbody, hcalls⟩ := hcall f _ ret hcf
  rw [hms] at hcalls
  refine ⟨hbody, ?_⟩
  -- the objects that are handed over
  let X : Nat → Value := lkX (slotVal xs.toArray) ids ms
  have hX : ∀ (i id : Nat) (s : Slot), ids[i]? = some id → ms[i]? = some s → X id = slotVal xs.toArray s := fun i id s h1 h2 => lkX_at hdis h1 h2
  have idx : ∀ k, k ∈ ids → ∃ (i : Nat) (s : Slot), ids[i]? = some k ∧ ms[i]? = some s := fun k hk => by
    obtain ⟨i, hi⟩ := List.getElem?_of_mem hk
    have hlt : i < ms.length := by rw [← lenI]; exact (List.getElem?_eq_some_iff.1 hi).1
    exact ⟨i, ms[i], hi, List.getElem?_eq_getElem hlt⟩
  have obk : ∀ k, k ∈ ids → look σ1.objs k = some (some (obAt σ1 k)) ∧ (obAt σ1 k).box = false ∧ (obAt σ1 k).st = .dp := fun k hk => by
    obtain ⟨i, s, h1, h2⟩ := idx k hk
    obtain ⟨o, q1, q2, q3, q4⟩ := htr i k h1
    rw [obAt_of q1]; exact ⟨q1, q2, q3⟩
  have refk : ∀ k, k ∈ ids → RefOk w (G1.loc k) (obAt σ1 k) none (X k) := fun k hk => by
    obtain ⟨i, s, h1, h2⟩ := idx k hk
    have := (ref_inv (refs i k s h1 h2)).2 _ (obk k hk).1
    rw [hX i k s h1 h2]; exact this
  let Sk : Nat → Set' := fun k b => (∀ a n c, X k = .slice a n c → c ≠ 0) ∧ (G1.N k b ∨ ∃ off, G1.loc k = some (b, off))
  have treek : ∀ k, k ∈ ids → Rep w G1.F true (.sl (obAt σ1 k).sz (obAt σ1 k).fl none none (obAt σ1 k).n (obAt σ1 k).get) (X k) (Sk k) := fun k hk => by
    obtain ⟨q1, q2, q3⟩ := obk k hk
    have tr := ((I1.objs k _ q1).tree q2 (refk k hk) (fun b off hl hh => (I1.root k _ b off q1 hl (by rw [q3]; simp)).2.2.2 k hh)).1 q3
    by_cases hz : ∀ a n c, X k = .slice a n c → c ≠ 0
    · exact tr.wider fun b hb => ⟨hz, hb.elim (fun h => .inr h) .inl⟩
    · obtain ⟨_, a, c, e, hnc, _⟩ := refk k hk
      have hc0 : c = 0 := by
        rcases Nat.eq_zero_or_pos c with h0 | h0
        · exact h0
        · refine absurd (fun a' n' c' e' => ?_) hz
          rw [e] at e'; injection e' with _ _ e3; omega
      subst hc0
      have hn0 : (obAt σ1 k).n = 0 := by have : (obAt σ1 k).n ≤ 0 := hnc; omega
      have e' : X k = .slice a 0 0 := by rw [e]; show Value.slice a (obAt σ1 k).n 0 = _; rw [hn0]
      rw [e', hn0]
      exact .nul _ _ _ _ _ _ _ _ (.inl rfl)
  have zlt : ∀ b, Zone G1 σ1 ((blanks args ms).flatMap (idsIn σ1)) b → b < w.heap.size := by
    rintro b (hb | ⟨id, _, o, hlk, hb | ⟨off, hb⟩⟩)
    · exact I1.flt b hb
    · exact (I1.nest id b hb).1
    · exact (I1.root' hlk hb).1
  have skLt : ∀ k b, k ∈ ids → Sk k b → b < w.heap.size ∧ ¬ G1.F b := fun k b hk hs => by
    obtain ⟨q1, q2, q3⟩ := obk k hk
    rcases hs.2 with hn | ⟨off, hl⟩
    · exact ⟨(I1.nest k b hn).1, (I1.nest k b hn).2.2⟩
    · have := I1.root k _ b off q1 hl (by rw [q3]; simp); exact ⟨this.1, this.2.2.1⟩
  have skDis : ∀ k k' b, k ∈ ids → k' ∈ ids → Sk k b → Sk k' b → k = k' := fun k k' b hk hk' hs hs' => by
    obtain ⟨q1, q2, q3⟩ := obk k hk
    obtain ⟨p1, p2, p3⟩ := obk k' hk'
    rcases hs.2 with hn | ⟨off, hl⟩
    · rcases hs'.2 with hn' | ⟨off', hl'⟩
      · exact I1.ndis k k' b hn hn'
      · exact ((I1.root k' _ b off' p1 hl' (by rw [p3]; simp)).2.2.2 k hn).elim
    · rcases hs'.2 with hn' | ⟨off', hl'⟩
      · exact ((I1.root k _ b off q1 hl (by rw [q3]; simp)).2.2.2 k' hn').elim
      · exact I1.rdis k _ k' _ b off off' q1 p1 hl hl' (by rw [q3]; simp)
  have skZone : ∀ k b, k ∈ ids → Sk k b → ¬ Zone G1 σ1 ((blanks args ms).flatMap (idsIn σ1)) b := fun k b hk hs hz => by
    obtain ⟨q1, q2, q3⟩ := obk k hk
    have nf := (skLt k b hk hs).2
    rcases hz with hz | ⟨id, hid, o, hlk, hz⟩
    · exact nf hz
    · have hne : id ∉ ids := fun hh => by
        have := List.all_eq_true.1 hz0 id hid
        rw [memL_iff.2 hh] at this; cases this
      rcases hs.2 with hn | ⟨off, hl⟩
      · rcases hz with hz | ⟨off', hz⟩
        · exact hne (I1.ndis k id b hn hz ▸ hk)
        · by_cases hf : o.st = .fz
          · exact nf ((I1.root' hlk hz).2 hf)
          · exact (I1.root id o b off' hlk hz hf).2.2.2 k hn
      · rcases hz with hz | ⟨off', hz⟩
        · exact (I1.root k _ b off q1 hl (by rw [q3]; simp)).2.2.2 id hz
        · exact hne (I1.rdis k _ id o b off off' q1 hlk hl hz (by rw [q3]; simp) ▸ hk)
  -- what is handed to the call
  let Ss : Slot → Set' := fun s b => ∃ (i id : Nat), ms[i]? = some s ∧ ids[i]? = some id ∧ Sk id b
  have hA : ArgsM w (Zone G1 σ1 ((blanks args ms).flatMap (idsIn σ1))) ms (fillSlots args' ms trees) xs.toArray Ss := by
    have lenF : (fillSlots args' ms trees).length = args'.length := fillA_len _ _ _
    have lkT : ∀ s, s ∈ ms → ∃ (i id : Nat), ms[i]? = some s ∧ ids[i]? = some id ∧ lkS ms trees s = some (.sl (obAt σ1 id).sz (obAt σ1 id).fl none none (obAt σ1 id).n (obAt σ1 id).get) := fun s hs => by
      cases ht : lkS ms trees s with
      | none => exact (lkS_none (by rw [lenT, lenI]) ht hs).elim
      | some v =>
        obtain ⟨i, h1, h2⟩ := lkS_some ht
        have hlt : i < ids.length := by rw [lenI]; exact (List.getElem?_eq_some_iff.1 h1).1
        obtain ⟨o, q1, q2, q3, q4⟩ := htr i _ (List.getElem?_eq_getElem hlt)
        rw [q4] at h2
        refine ⟨i, ids[i], h1, List.getElem?_eq_getElem hlt, ?_⟩
        rw [obAt_of q1]; exact h2.symm ▸ rfl
    refine ⟨by rw [lenF, hl', lenB, hl]; simp, fun i hi => ?_, fun s hs => ?_, fun s hs b hb => ?_, fun s hs s' hs' b hb hb' => ?_⟩
    · rw [lenF] at hi
      have hr := hargs i (by omega)
      have hr : ArgOk w (Zone G1 σ1 ((blanks args ms).flatMap (idsIn σ1))) (cellAt args' i) (xs.toArray.getD i default) := by simpa using hr
      have e : cellAt (blanks (fillSlots args' ms trees) ms) i = fill1 (lkS ms (ms.map fun _ => V.hole)) (0 + i) (cellAt (fillSlots args' ms trees) i) := fillA_at _ 0 _ i (by rw [lenF]; exact hi)
      have e2 : cellAt (fillSlots args' ms trees) i = fill1 (lkS ms trees) (0 + i) (cellAt args' i) := fillA_at _ 0 _ i hi
      rw [e, e2, Nat.zero_add]
      have some_of : ∀ s v, lkS ms trees s = some v → s ∈ ms := fun s v hv => by obtain ⟨q, h1, _⟩ := lkS_some hv; exact List.mem_of_getElem? h1
      unfold fill1
      cases hf : lkS ms (ms.map fun _ => V.hole) (i, none) with
      | some v =>
        obtain ⟨rfl, hs⟩ := lkH _ _ hf
        exact .val _ _ (.hole _ _ _ (slotOne _ hs))
      | none =>
        have hns : (i, none) ∉ ms := lkS_none (by simp) hf
        cases hf2 : lkS ms trees (i, none) with
        | some v => exact (hns (some_of _ _ hf2)).elim
        | none =>
          simp only
          cases ha : cellAt args' i with
          | agg cs =>
            rw [ha] at hr
            simp only
            obtain ⟨ys, e4, hly, hcy⟩ := hr.agg_inv
            · rw [e4]
              refine .agg _ _ (by rw [fillC_len, fillC_len]; exact hly) fun j hj => ?_
              rw [fillC_len, fillC_len] at hj
              rw [fillC_at _ _ _ _ (by rw [fillC_len]; exact hj), Nat.zero_add]
              cases hf3 : lkS ms (ms.map fun _ => V.hole) (i, some j) with
              | some v =>
                obtain ⟨rfl, hs⟩ := lkH _ _ hf3
                have := slotOne _ hs
                have e6 : slotVal xs.toArray (i, some j) = ys.getD j default := by simp only [slotVal, e4]
                rw [e6] at this
                exact .hole _ _ _ this
              | none =>
                have hns3 : (i, some j) ∉ ms := lkS_none (by simp) hf3
                simp only
                rw [fillC_at _ _ _ _ hj, Nat.zero_add]
                cases hf4 : lkS ms trees (i, some j) with
                | some v => exact (hns3 (some_of _ _ hf4)).elim
                | none => exact hcy j hj
          | _ => rw [ha] at hr; exact hr
    · obtain ⟨i, id, h1, h2, h3⟩ := lkT s hs
      obtain ⟨i', id', g1, g2, hrf⟩ := slotRef s hs
      have hk : id ∈ ids := List.mem_of_getElem? h2
      have tr := treek id hk
      rw [hX i id s h2 h1] at tr
      have val : slotV (fillSlots args' ms trees) s = .sl (obAt σ1 id).sz (obAt σ1 id).fl none none (obAt σ1 id).n (obAt σ1 id).get := by
        obtain ⟨p, q⟩ := s
        obtain ⟨a0, l0, c0, ex⟩ := ref_one hrf
        have hplt : p < args'.length := by
          by_cases hplt : p < args'.length
          · exact hplt
          · exfalso
            have : xs.toArray.getD p default = default := by
              simp only [Array.getD_eq_getD_getElem?]
              rw [Array.getElem?_eq_none (by simp; omega)]; rfl
            cases q with
            | none => simp only [slotVal, this] at ex; cases ex
            | some q => simp only [slotVal, this] at ex; cases ex
        have e2 : cellAt (fillSlots args' ms trees) p = fill1 (lkS ms trees) (0 + p) (cellAt args' p) := fillA_at _ 0 _ p hplt
        rw [Nat.zero_add] at e2
        cases q with
        | none => simp only [slotV, e2, fill1, h3]
        | some q =>
          have hns : lkS ms trees (p, none) = none := by
            cases hh : lkS ms trees (p, none) with
            | none => rfl
            | some v =>
              exfalso
              obtain ⟨y, y1, _⟩ := lkS_some hh
              obtain ⟨_, _, _, _, hrr⟩ := slotRef _ (List.mem_of_getElem? y1)
              obtain ⟨_, _, _, ey⟩ := ref_one hrr
              simp only [slotVal] at ey ex
              rw [ey] at ex; cases ex
          have hr := hargs p (by omega)
          have hr : ArgOk w (Zone G1 σ1 ((blanks args ms).flatMap (idsIn σ1))) (cellAt args' p) (xs.toArray.getD p default) := by simpa using hr
          simp only [slotVal] at ex
          cases hxp : xs.toArray.getD p default with
          | agg ys =>
            rw [hxp] at hr ex
            simp only at ex
            obtain ⟨cs, e4, hly, hcy⟩ := hr.agg_inv'
            · have hq : q < cs.length := by
                by_cases hq : q < cs.length
                · exact hq
                · exfalso
                  have : ys.getD q default = default := by
                    simp only [Array.getD_eq_getD_getElem?]
                    rw [Array.getElem?_eq_none (by omega)]; rfl
                  rw [this] at ex; cases ex
              simp only [slotV, e2, fill1, hns, e4]
              rw [fillC_at _ _ _ _ hq, Nat.zero_add, h3]
          | _ => rw [hxp] at ex; cases ex
      rw [val]
      exact (tr.zone rfl).wider fun b hb => ⟨i, id, h1, h2, hb⟩
    · obtain ⟨i, id, h1, h2, hb⟩ := hb
      have hk : id ∈ ids := List.mem_of_getElem? h2
      exact ⟨(skLt id b hk hb).1, skZone id b hk hb⟩
    · obtain ⟨i, id, h1, h2, hb⟩ := hb
      obtain ⟨i', id', h1', h2', hb'⟩ := hb'
      have := skDis id id' b (List.mem_of_getElem? h2) (List.mem_of_getElem? h2') hb hb'
      subst this
      have := distinct_idx hdis h2 h2'
      subst this
      rw [h1] at h1'; cases h1'; rfl
  refine Calls.mono (hcalls w (Zone G1 σ1 ((blanks args ms).flatMap (idsIn σ1))) xs.toArray Ss zlt (fun g row hg => ?_) hA) fun e w' ho => ?_
  · have hr : Rep w0 F0 false (.pv none row 0) (.pointer (some ⟨g, 0, none⟩)) none' := hp.glob g row hg
    refine (hr.world fun b hb => ?_).mono fun b hb => .inl (I1.fsub b hb)
    have hF : F0 b := hb.elim (fun h => h.elim) (fun h => h)
    exact hI.base.block b (hp.F0lt b hF) (hp.dis b hF)
  obtain ⟨base, ys, F', Rs, rfl, f1, f2, f3, lq, lo, rep, own, dis⟩ := ho
  obtain ⟨σ2, h, t2, lenO, same2, ch2⟩ := backL_sound ids ret.outs σ1 h hdis
  have lenAll : ret.all.length = ret.res.length + ret.outs.length := by simp [Ret.all]
  have outAt : ∀ i, i < ret.outs.length → ret.all[ret.res.length + i]? = (ret.outs[i]?).map fun v => (v, Own.dp) := fun i hi => by
    simp [Ret.all, List.getElem?_append_right]
  let S1 : Nat → Set' := fun k b => ∃ i : Nat, ids[i]? = some k ∧ Rs (ret.res.length + i) b
  have hback : Back w w' G1 σ1 σ2 (fun k => k ∈ ids) (obAt σ1) (obAt σ2) X F' (fun b => ∃ s ∈ ms, Ss s b) Sk S1 := by
    have at2 : ∀ (i k : Nat), ids[i]? = some k → ∃ fl cap src n g, ret.outs[i]? = some (V.sl (obAt σ1 k).sz fl cap src n g) ∧ look σ2.objs k = some (some ⟨false, .dp, (obAt σ1 k).sz, fl, n, g, (obAt σ1 k).ver + 1⟩) := fun i k hi => by
      obtain ⟨o, fl, cap, src, n, g, q1, q2, q3⟩ := ch2 i k hi
      rw [obAt_of q1]; exact ⟨fl, cap, src, n, g, q2, q3⟩
    have of : ∀ k, k ∈ ids → ∃ (i : Nat) (s : Slot) (fl : Bool) (cap : Option Nat) (src : Option (Nat × Nat × Nat × Nat)) (n : Nat) (g : Nat → List V), ids[i]? = some k ∧ ms[i]? = some s ∧ ret.outs[i]? = some (V.sl (obAt σ1 k).sz fl cap src n g) ∧ look σ2.objs k = some (some ⟨false, .dp, (obAt σ1 k).sz, fl, n, g, (obAt σ1 k).ver + 1⟩) := fun k hk => by
      obtain ⟨i, s, h1, h2⟩ := idx k hk
      obtain ⟨fl, cap, src, n, g, h3, h4⟩ := at2 i k h1
      exact ⟨i, s, fl, cap, src, n, g, h1, h2, h3, h4⟩
    refine ⟨fun k hk => same2 k hk, t2, fun k hk => ?_, fun k hk => ?_, fun k hk => ?_, fun k hk => ?_, fun k hk => ?_, fun k hk => ?_, base, fun b hb => ?_, fun k b hk hb => ?_, fun k k' b hk hk' hb hb' => ?_⟩
    · obtain ⟨i, s, fl, cap, src, n, g, h1, h2, h3, h4⟩ := of k hk
      rw [obAt_of h4]; exact h4
    · obtain ⟨i, s, fl, cap, src, n, g, h1, h2, h3, h4⟩ := of k hk
      rw [obAt_of h4]
    · obtain ⟨i, s, fl, cap, src, n, g, h1, h2, h3, h4⟩ := of k hk
      rw [obAt_of h4]
    · obtain ⟨i, s, fl, cap, src, n, g, h1, h2, h3, h4⟩ := of k hk
      rw [obAt_of h4]
    · obtain ⟨i, s, fl, cap, src, n, g, h1, h2, h3, h4⟩ := of k hk
      rw [obAt_of h4]
    · obtain ⟨i, s, fl, cap, src, n, g, h1, h2, h3, h4⟩ := of k hk
      rw [obAt_of h4]
      have hil : i < ret.outs.length := (List.getElem?_eq_some_iff.1 h3).1
      have hrep := rep (ret.res.length + i) (V.sl (obAt σ1 k).sz fl cap src n g, .dp) (X k) (by rw [outAt i hil, h3]; rfl) (by
        rw [List.getElem?_append_right (by omega), ← lq, show ret.res.length + i - ret.res.length = i by omega, List.getElem?_map, h2, hX i k s h1 h2]; rfl)
      cases hrep with
      | dp _ _ _ hr => exact hr.retag.wider fun b hb => ⟨i, h1, hb⟩
    · obtain ⟨s, hs, i, id, h1, h2, hb⟩ := hb
      exact ⟨id, List.mem_of_getElem? h2, hb⟩
    · obtain ⟨i, h1, hb⟩ := hb
      have hil : i < ids.length := (List.getElem?_eq_some_iff.1 h1).1
      obtain ⟨b1, b2, b3⟩ := own _ b (by rw [lenAll, lenO]; omega) hb
      exact ⟨b1, b2⟩
    · obtain ⟨i, h1, hb⟩ := hb
      obtain ⟨i', h1', hb'⟩ := hb'
      have hil : i < ids.length := (List.getElem?_eq_some_iff.1 h1).1
      have hil' : i' < ids.length := (List.getElem?_eq_some_iff.1 h1').1
      have := dis _ _ b (by rw [lenAll, lenO]; omega) (by rw [lenAll, lenO]; omega) hb hb'
      have : i = i' := by omega
      subst this
      rw [h1] at h1'; cases h1'; rfl
  obtain ⟨G2, I2, st2, _, _, lo2, new2, root2⟩ := I1.call ⟨fun k hk => (obk k hk).1, fun k hk => (obk k hk).2.1, fun k hk => (obk k hk).2.2, fun k hk => refk k hk, fun k b hk hs => hs.2⟩ (fun k b hk hs => hs.1) hback
  have hlg2 : ∀ q ∈ lg, ∃ x, LogOk w' G2 (look σ2.objs) q x := fun q hq => by
    obtain ⟨x, hx⟩ := logs q hq
    refine ⟨x, hx.step st2 fun o b off ho hl => root2 _ o b off (fun hh => ?_) ho hl⟩
    have := List.all_eq_true.1 hlg q hq
    rw [memL_iff.2 hh] at this; cases this
  obtain ⟨σ3, G3, h, I3, st3, t3, lo3⟩ := pushL_sound lg σ2 G2 (fun b => ∃ i, i < ret.res.length ∧ Rs i b) h I2 hlg2 (fun b ⟨i, hi, hb⟩ => by
    obtain ⟨b1, b2, b3⟩ := own i b (by rw [lenAll]; omega) hb
    refine new2 b b1 b2 fun k hk ⟨i', h1, hb'⟩ => ?_
    have hil : i' < ids.length := (List.getElem?_eq_some_iff.1 h1).1
    have := dis i _ b (by rw [lenAll]; omega) (by rw [lenAll, lenO]; omega) hb hb'
    omega)
  obtain ⟨hb, h⟩ := bif_some h
  simp only [Bool.and_eq_true] at hb
  obtain ⟨hfree, hdis2⟩ := hb
  refine call_finish hd cont I3 (Ss := Rs) ⟨lq, fun i p y hp' hy => ?_, fun i b hi hb => ⟨lo3 b ⟨i, hi, hb⟩, fun h => h⟩, fun i i' b hi hi' hb hb' => dis i i' b (by rw [lenAll]; omega) (by rw [lenAll]; omega) hb hb'⟩ (fun q hq => List.all_eq_true.1 hfree q hq) hdis2 h
  have hpd : p.2.isDp = true := List.all_eq_true.1 hdp p (List.mem_of_getElem? hp')
  have hlt : i < ret.res.length := (List.getElem?_eq_some_iff.1 hp').1
  have hrep := rep i p y (by rw [Ret.all, List.getElem?_append_left hlt]; exact hp') (by rw [List.getElem?_append_left (by omega)]; exact hy)
  obtain ⟨u, ow⟩ := p
  cases ow with
  | dp => exact hrep.dp_any
  | sh => cases hpd
  | fz => cases hpd

theorem callC_sound {callF : FuncId → List V → Option Ret} (hE : EnvOk E) (hp : Pre E w0 S0 F0) (hI : Inv w0 S0 F0 G σ tm w) (hcall : SoundCall E callF) {d : Nat} {dst : Option Nat} {f : FuncId} {ts : List Nat} {args : List V} {xs : List Value} (h : callC E callF σ d dst f ts args kσ = some r)
    (hl : args.length = xs.length) (hc : ∀ i, i < args.length → RepT w G (look σ.objs) (cellAt args i) (xs.getD i default)) (hd : dstIn tm.size dst = true) {next : Act → World → Prop} (cont : Cont w0 S0 F0 kσ r next tm.size) :
    HasBody E.P f ∧ Calls E.P f xs.toArray w fun e w' => ∃ v, e = .returned v ∧ next ⟨putT tm dst v, []⟩ w' := by
  cases hM : (E.M f).isEmpty with
  | true => exact call0_sound hE hp hI hcall hM h hl hc hd cont
  | false =>
    unfold callC at h
    rw [hM] at h
    simp only [Bool.not_false, cond_true] at h
    exact callW_sound hE hp hI hcall h hl hc hd cont
end Go.Vk
end

section
namespace Go.Vk
open Go
set_option linter.unusedVariables false
set_option linter.unusedSimpArgs false
variable {w w' w0 : World} {S0 : SS} {F0 : Set'} {G G' : Gh} {ob ob' : Ob} {v : V} {x : Value} {σ σ' : St} {tm : Array Value} {id : Nat} {o o' : VO}
variable {R : Type} {r : R} {k : V → Option R} {kσ : St → Option R} {E : Env} {P : Program} {op : Oper} {next : Act → World → Prop} {Q : Exit → Act → World → Prop}

theorem evs_ok (hp : Pre E w0 S0 F0) (hI : Inv w0 S0 F0 G σ tm w) : ∀ (xs : List Operand) (ts : List Nat), (evs E σ xs ts).length = xs.length ∧ ∀ i, i < xs.length → RepT w G (look σ.objs) (cellAt (evs E σ xs ts) i) ((xs.map (Act.eval ⟨tm, []⟩)).getD i default)
  | [], ts => ⟨by simp [evs], fun i hi => absurd hi (by simp)⟩
  | x :: xs, ts => by
    have go : ∀ t ts', (E.ev σ t x :: evs E σ xs ts').length = (x :: xs).length ∧ ∀ i, i < (x :: xs).length → RepT w G (look σ.objs) (cellAt (E.ev σ t x :: evs E σ xs ts') i) (((x :: xs).map (Act.eval ⟨tm, []⟩)).getD i default) := by
      intro t ts'
      obtain ⟨h1, h2⟩ := evs_ok hp hI xs ts'
      refine ⟨by simp [h1], fun i hi => ?_⟩
      cases i with
      | zero => exact ev_ok hp hI t x
      | succ i => exact h2 i (by simpa using hi)
    cases ts with
    | nil => exact go 0 []
    | cons t ts' => exact go t ts'

/-- An operation that has made its value, the state already written. -/
theorem done (hrun : (execOp (Act.eval ⟨tm, []⟩) op).run P w = .ok (.value x) w') (hI : Inv w0 S0 F0 G' σ' (putT tm op.dst x) w') (hk : kσ σ' = some r) (cont : Cont w0 S0 F0 kσ r next tm.size) : op.wp P ⟨tm, []⟩ w next Q :=
  wp_val hrun (cont _ _ _ _ hI (putT_size _ _) hk)

theorem run_v {s : Sem Value} (h : s.run P w = .ok x w') : (do pure (.value (← s)) : Sem Next).run P w = .ok (.value x) w' := by
  simp [h]
theorem run_u {s : Sem Unit} (h : s.run P w = .ok () w') : (do s; pure .skip : Sem Next).run P w = .ok .skip w' := by
  simp [h]

theorem run_len_str {t ty : Nat} {s : ByteArray} (hu : P.underlying t = some .string) (w : World) : (Builtin.len_ #[t] ty #[.string s]).run P w = .ok (.int .i64 s.size) w := by
  simp [Builtin.len_, run_underlying hu, goInt, Result.andThen]
theorem run_len_slice {t ty e : Nat} {a : Option Addr} {n c : Nat} (hu : P.underlying t = some (.slice e)) (w : World) : (Builtin.len_ #[t] ty #[.slice a n c]).run P w = .ok (.int .i64 n) w := by
  simp [Builtin.len_, run_underlying hu, goInt, Result.andThen]

theorem run_enter {f : FuncId} {fn : Func} {c : Code} (hf : P.funcs[f]? = some fn) (hname : (fn.name == "runtime.NumGoroutine") = false) (hb : fn.body = some c) (args : Array Value) (w : World) :
    (callFunc f args).run P w = .ok (.enter f args) w := by
  have h1 : fn.name ≠ "runtime.NumGoroutine" := by simpa using hname
  simp [callFunc, hf, h1, hb]

theorem args_one {xs : List Operand} {ρ : Operand → Value} {a : V} {l : List V} (hl : l.length = xs.length) (hs : l = [a]) (hev : ∀ i, i < xs.length → RepT w G ob (cellAt l i) ((xs.map ρ).getD i default)) : ∃ xo, xs = [xo] ∧ RepT w G ob a (ρ xo) := by
  subst hs
  obtain ⟨xo, rfl⟩ := List.length_eq_one_iff.1 (show xs.length = 1 by simpa using hl.symm)
  exact ⟨xo, rfl, hev 0 (by simp)⟩
theorem args_two {xs : List Operand} {ρ : Operand → Value} {a b : V} {l : List V} (hl : l.length = xs.length) (hs : l = [a, b]) (hev : ∀ i, i < xs.length → RepT w G ob (cellAt l i) ((xs.map ρ).getD i default)) : ∃ xo yo, xs = [xo, yo] ∧ RepT w G ob a (ρ xo) ∧ RepT w G ob b (ρ yo) := by
  subst hs
  match xs, hl with
  | [xo, yo], _ => exact ⟨xo, yo, rfl, hev 0 (by simp), hev 1 (by simp)⟩
theorem arr1 {α : Type} {as : Array α} {x : α} (h : as.toList = [x]) : as = #[x] := by rw [← Array.toList_inj, h]
theorem arr2 {α : Type} {as : Array α} {x y : α} (h : as.toList = [x, y]) : as = #[x, y] := by rw [← Array.toList_inj, h]

theorem callX_sound {callF : FuncId → List V → Option Ret} (hE : EnvOk E) (hp : Pre E w0 S0 F0) (hI : Inv w0 S0 F0 G σ tm w) (hcall : SoundCall E callF) {c : Call} (hop : op.op = .call c) (h : callX E callF σ op.dst c kσ = some r) (hd : dstIn tm.size op.dst = true)
    (cont : Cont w0 S0 F0 kσ r next tm.size) : op.wp E.P ⟨tm, []⟩ w next Q := by
  unfold callX at h
  obtain ⟨callee, args, ats⟩ := c
  simp only at h
  obtain ⟨hl, hev⟩ := evs_ok hp hI args.toList ats.toList
  split at h
  · -- len
    split at h
    · rename_i t s ht hs
      obtain ⟨hb, h⟩ := bif_some h
      simp only [Bool.and_eq_true] at hb
      obtain ⟨i, dd, hT⟩ := hE.T t hb.1
      have hu : E.P.underlying t = some .string := by have := hT.und; rw [hT.str hb.2] at this; exact this
      obtain ⟨xo, e1, hx⟩ := args_one hl hs hev
      have hx : Act.eval ⟨tm, []⟩ xo = .string s := hx.str_inv
      obtain rfl := arr1 e1
      obtain rfl := arr1 ht
      refine fin hI (.val _ _ (.int _ _ _ _)) hd ?_ h cont
      simp only [execOp, hop]
      simp [resolve, invoke, builtin, hx, run_len_str hu, Result.andThen]
    · rename_i t a hns ht hs
      obtain ⟨hb, h⟩ := bif_some h
      obtain ⟨i, d, e, ie, ze, hT, hde, hu, _⟩ := slok_elem hE hb
      obtain ⟨xo, e1, hx⟩ := args_one hl hs hev
      obtain ⟨a', n, c, hxa, h⟩ := lenC_sound hI h hx
      obtain rfl := arr1 e1
      obtain rfl := arr1 ht
      refine fin hI (.val _ _ (.int _ _ _ _)) hd ?_ h cont
      simp only [execOp, hop]
      simp [resolve, invoke, builtin, hxa, run_len_slice hu, Result.andThen]
    · cases h
  · -- append
    split at h
    · rename_i dst t t2 a b hdst ht hs
      obtain ⟨xo, yo, e1, hx, hy⟩ := args_two hl hs hev
      rw [hdst] at hd
      obtain ⟨σ', G', w', xv, hk, I', hrun⟩ := appendC_sound (ty := op.type) hE hI h hx hy hd
      obtain rfl := arr2 e1
      obtain rfl := arr2 ht
      refine done ?_ (hdst ▸ I') hk cont
      simp only [execOp, hop]
      simp [resolve, invoke, builtin, hrun, Result.andThen]
    · cases h
  · -- max
    split at h
    · rename_i kk a kb b hs
      obtain ⟨xo, yo, e1, hx, hy⟩ := args_two hl hs hev
      have hx := hx.int_inv
      have hy := hy.int_inv
      obtain rfl := arr2 e1
      refine fin hI (.val _ _ (.int _ _ _ _)) hd ?_ h cont
      simp only [execOp, hop]
      simp [resolve, invoke, builtin, Builtin.max_, Builtin.max2, hx, hy, Result.andThen]
    · cases h
  · -- min
    split at h
    · rename_i kk a kb b hs
      obtain ⟨xo, yo, e1, hx, hy⟩ := args_two hl hs hev
      have hx := hx.int_inv
      have hy := hy.int_inv
      obtain rfl := arr2 e1
      refine fin hI (.val _ _ (.int _ _ _ _)) hd ?_ h cont
      simp only [execOp, hop]
      simp [resolve, invoke, builtin, Builtin.min_, Builtin.min2, hx, hy, Result.andThen]
    · cases h
  · -- a function of the program
    rename_i cl g
    split at h
    · rename_i f caps hg
      have hgv : RepT w G (look σ.objs) (.fn f caps) (Act.eval ⟨tm, []⟩ g) := by rw [← hg]; exact ev_ok hp hI 0 g
      obtain ⟨cs, hxg, hlc, hcc⟩ := hgv.fn_inv
      obtain ⟨hbody, hcalls⟩ := callC_sound (xs := args.toList.map (Act.eval ⟨tm, []⟩) ++ cs.toList) hE hp hI hcall h (by simp [hl, hlc]) (fun i hi => by
        by_cases hlt : i < args.toList.length
        · have e1 : cellAt (evs E σ args.toList ats.toList ++ caps) i = cellAt (evs E σ args.toList ats.toList) i := by
            simp [cellAt, List.getElem?_append_left (show i < (evs E σ args.toList ats.toList).length by omega)]
          rw [e1]
          have e2 : (args.toList.map (Act.eval ⟨tm, []⟩) ++ cs.toList).getD i default = (args.toList.map (Act.eval ⟨tm, []⟩)).getD i default := by
            simp only [List.getD_eq_getElem?_getD]
            rw [List.getElem?_append_left (by simpa using hlt)]
          rw [e2]; exact hev i hlt
        · have hge : args.toList.length ≤ i := by omega
          have e1 : cellAt (evs E σ args.toList ats.toList ++ caps) i = cellAt caps (i - args.toList.length) := by
            simp [cellAt, List.getElem?_append_right (show (evs E σ args.toList ats.toList).length ≤ i by omega), hl]
          have e2 : (args.toList.map (Act.eval ⟨tm, []⟩) ++ cs.toList).getD i default = cs.getD (i - args.toList.length) default := by
            simp only [List.getD_eq_getElem?_getD]
            rw [List.getElem?_append_right (by simpa using hge)]
            simp
          rw [e1, e2]
          exact hcc (i - args.toList.length) (by rw [List.length_append, hl] at hi; omega)) hd cont
      obtain ⟨fn, c, hf, hname, hb⟩ := hbody
      have hrun : (execOp (Act.eval ⟨tm, []⟩) op).run E.P w = .ok (.enter f (args.map (Act.eval ⟨tm, []⟩) ++ cs)) w := by
        simp only [execOp, hop]
        simp [resolve, hxg, Deferred.ofValue, invoke, run_enter hf hname hb, Result.andThen]
      unfold Oper.wp
      rw [hrun, Oper.upon_enter]
      have e2 : (args.toList.map (Act.eval ⟨tm, []⟩) ++ cs.toList).toArray = args.map (Act.eval ⟨tm, []⟩) ++ cs := by
        rw [← Array.toList_inj]; simp
      rw [e2] at hcalls
      refine Calls.mono hcalls fun e w' he => ?_
      obtain ⟨v, rfl, hn⟩ := he
      show next (Act.put ⟨tm, []⟩ op.dst v) w'
      unfold Act.put putT at *
      revert hn
      cases op.dst <;> exact fun h => h
    · cases h
  · cases h
end Go.Vk
end

section
namespace Go.Vk
open Go
set_option linter.unusedVariables false
set_option linter.unusedSimpArgs false
variable {w w' w0 : World} {S0 : SS} {F0 : Set'} {G G' : Gh} {ob ob' : Ob} {v : V} {x : Value} {σ σ' : St} {tm : Array Value} {id : Nat} {o o' : VO}
variable {R : Type} {r : R} {k : V → Option R} {kσ : St → Option R} {E : Env} {P : Program} {op : Oper} {next : Act → World → Prop} {Q : Exit → Act → World → Prop}

theorem run_v' {f : Value → Value} {s : Sem Value} (h : s.run P w = .ok x w') : (do pure (.value (← s)) : Sem Next).run P w = .ok (.value x) w' := by
  simp [h]

theorem opC_sound {callF : FuncId → List V → Option Ret} (hE : EnvOk E) (hp : Pre E w0 S0 F0) (hI : Inv w0 S0 F0 G σ tm w) (hcall : SoundCall E callF) (h : opC E callF op σ kσ = some r) (hd : dstIn tm.size op.dst = true)
    (cont : Cont w0 S0 F0 kσ r next tm.size) : op.wp E.P ⟨tm, []⟩ w next Q := by
  have ev : ∀ t x, RepT w G (look σ.objs) (E.ev σ t x) (Act.eval ⟨tm, []⟩ x) := fun t x => ev_ok hp hI t x
  unfold opC at h
  split at h
  · rename_i y hop
    exact fin hI (ev _ y) hd (by simp [execOp, hop]) h cont
  · rename_i y hop
    exact fin hI (ev _ y) hd (by simp [execOp, hop]) h cont
  · rename_i c a b hop
    obtain ⟨v, t, e, h, hv⟩ := pickC_sound h (ev 4 c) (ev _ a) (ev _ b)
    refine fin hI hv hd ?_ h cont
    simp only [execOp, hop, e]
    simp [asBool, Result.andThen]
  · rename_i bo xt y z yt hop
    cases hnil : isNilOp z with
    | true =>
      rw [hnil] at h
      simp only [cond_true] at h
      have hz := isNilOp_eq hnil
      obtain ⟨v, xv, h, hv, hrun⟩ := nilEqC_sound hE (xo := y) (yo := z) h (ev xt y)
      refine fin hI hv hd ?_ h cont
      simp only [execOp, hop]
      subst hz
      exact run_v hrun
    | false =>
      rw [hnil] at h
      simp only [cond_false] at h
      obtain ⟨v, xv, h, hv, hrun⟩ := binX_sound hE (xo := y) (yo := z) h (ev xt y) (ev yt z)
      refine fin hI hv hd ?_ h cont
      simp only [execOp, hop]
      exact run_v hrun
  · rename_i uo xt y hop
    obtain ⟨v, xv, h, hv, hrun⟩ := unC_sound (P := E.P) (w := w) h (ev xt y)
    refine fin hI hv hd ?_ h cont
    simp only [execOp, hop]
    exact run_v hrun
  · rename_i s t y hop
    obtain ⟨v, xv, h, hv, hrun⟩ := convC_sound hE h (ev s y)
    refine fin hI hv hd ?_ h cont
    simp only [execOp, hop]
    exact run_v hrun
  · rename_i t i hop
    obtain ⟨v, xv, h, hv, hrun⟩ := extractC_sound (P := E.P) (w := w) h (ev 0 t)
    refine fin hI hv hd ?_ h cont
    simp only [execOp, hop]
    exact run_v hrun
  · rename_i t y f hop
    obtain ⟨v, xv, h, hv, hrun⟩ := fieldV_sound hE h (ev t y)
    refine fin hI hv hd ?_ h cont
    simp only [execOp, hop]
    exact run_v hrun
  · rename_i t y i hop
    obtain ⟨v, xv, h, hv, hrun⟩ := strIdx_sound hE h (ev t y) (ev 3 i)
    refine fin hI hv hd ?_ h cont
    simp only [execOp, hop]
    exact run_v hrun
  · rename_i t parts hop
    obtain ⟨hb, h⟩ := bif_none h
    simp only [Bool.or_eq_false_iff, Bool.not_eq_false'] at hb
    split at h
    · rename_i cs hcs
      obtain ⟨xs, hrun, hv⟩ := build_sound hE hb.1 (fun x => ev 0 x) hcs hb.2
      refine fin hI hv hd ?_ h cont
      simp only [execOp, hop]
      exact run_v (by simpa using hrun)
    · cases h
  · rename_i t hop
    obtain ⟨hb, h⟩ := bif_none h
    obtain ⟨i, d, hT⟩ := hE.T t (by simpa using hb)
    obtain ⟨z, hz, hzo, hzl⟩ := hT.zero
    obtain ⟨σ', G', hk, I'⟩ := boxC_sound hI h hd (zero_cells hzo) t
    refine done ?_ I' hk cont
    simp only [execOp, hop]
    exact run_v (alloc_run hT hz w)
  · rename_i t y hop
    obtain ⟨hb, h⟩ := bif_none h
    obtain ⟨i, d, hT⟩ := hE.T t (by simpa using hb)
    have hone : (E.ev σ t y).cells.all V.one = true := by
      unfold boxC at h
      cases hdst : op.dst with
      | none => rw [hdst] at h; cases h
      | some d =>
        rw [hdst] at h
        have := (bif_some h).1
        simp only [Bool.and_eq_true] at this
        exact this.1.1
    have hcells := (ev t y).cells hone
    obtain ⟨σ', G', hk, I'⟩ := boxC_sound hI h hd (xs := (Act.eval ⟨tm, []⟩ y).cells) ⟨hcells.1, fun i hi => (hcells.2 i hi).1⟩ t
    refine done ?_ I' hk cont
    simp only [execOp, hop]
    exact run_v (box_run t _ w)
  · rename_i t n parts hop
    obtain ⟨σ', G', w', xv, hk, I', hrun⟩ := buildSlice_sound hE hI (fun x => ev 0 x) h hd
    refine done ?_ I' hk cont
    simp only [execOp, hop]
    exact run_v hrun
  · rename_i t l c hop
    obtain ⟨kl, n, e1, hx, h⟩ := asInt_some h (ev 3 l)
    obtain ⟨kc, m, e2, hy, h⟩ := asInt_some h (ev 3 c)
    obtain ⟨h0, h⟩ := if_some h
    obtain ⟨h1, h⟩ := if_some h
    obtain ⟨h2, h⟩ := if_some h
    obtain ⟨σ', G', w', xv, hk, I', hrun⟩ := makeSlice_sound (kl := kl) (kc := kc) hE hI h0 h1 h2 hd h
    refine done ?_ I' hk cont
    simp only [execOp, hop, hx, hy]
    exact run_v hrun
  · rename_i t a hop
    obtain ⟨v, xv, h, hv, hrun⟩ := loadC_sound hE hI h (ev 0 a)
    refine fin hI hv hd ?_ h cont
    simp only [execOp, hop]
    exact run_v hrun
  · rename_i t a y hop
    obtain ⟨σ', G', w', h, I', hrun⟩ := storeC_sound hE hI h (ev 0 a) (ev t y)
    refine wp_skip' (w' := w') (by simp only [execOp, hop]; exact run_u hrun) ?_
    exact cont _ _ _ _ (I'.put (.dead _) hd) (putT_size _ _) h
  · rename_i s y f hop
    obtain ⟨v, xv, h, hv, hrun⟩ := fieldC_sound (w := w) hE h (ev 0 y)
    refine fin hI hv hd ?_ h cont
    simp only [execOp, hop]
    exact run_v hrun
  · rename_i t y i hop
    obtain ⟨v, xv, h, hv, hrun⟩ := indexC_sound hE hI h (ev t y) (ev 3 i)
    refine fin hI hv hd ?_ h cont
    simp only [execOp, hop]
    exact run_v hrun
  · rename_i t y lo hi mx hop
    obtain ⟨v, xv, h, hv, hrun⟩ := sliceC_sound hE hI (fun x => ev 3 x) h (ev t y)
    refine fin hI hv hd ?_ h cont
    simp only [execOp, hop]
    exact run_v hrun
  · rename_i y hop
    obtain ⟨h, h1, h2, h3, h4⟩ := nilC_sound h (ev 0 y) (fun f cs e => by
      have := ev 0 y
      rw [e] at this
      obtain ⟨xs, e, _⟩ := this.fn_inv
      exact ⟨xs, e⟩)
    refine fin hI (ev 0 y) hd ?_ h cont
    simp only [execOp, hop]
    rfl
  · rename_i f first caps hop
    obtain ⟨hb, h⟩ := bif_some h
    obtain ⟨hl, hev⟩ := evs_ok hp hI caps.toList []
    have hv : RepT w G (look σ.objs) (.fn f (evs E σ caps.toList [])) (.func (.func f) #[] (caps.map (Act.eval ⟨tm, []⟩))) :=
      .fn _ _ _ (by simp [hl]) fun i hi => by simpa using hev i (by omega)
    refine fin hI hv hd ?_ h cont
    have hf : first = #[] := by simpa using hb
    simp only [execOp, hop, hf]
    exact run_v (by simp [Instr.makeFunc])
  · rename_i c hop
    exact callX_sound hE hp hI hcall hop h hd cont
  · cases h
end Go.Vk
end

section
namespace Go.Vk
open Go
set_option linter.unusedVariables false
set_option linter.unusedSimpArgs false
variable {w w' w0 : World} {S0 : SS} {F0 : Set'} {G G' : Gh} {ob ob' : Ob} {v : V} {x : Value} {σ σ' : St} {tm : Array Value} {id : Nat} {o o' : VO}
variable {R : Type} {r : R} {k : V → Option R} {kσ : St → Option R} {E : Env} {P : Program} {op : Oper} {next : Act → World → Prop} {Q : Exit → Act → World → Prop}

theorem yield_of {all : Array Oper} {j g : Nat} {b : Bool} (hg : (all[j]?).bind (·.dst) = some g) (hb : tm.getD g undef = .bool b) : yielded all tm j = some b := by
  unfold yielded
  rw [hg]
  have : tm[g]? = some (.bool b) := by
    rw [Array.getD_eq_getD_getElem?] at hb
    cases h : tm[g]? with
    | none => rw [h] at hb; cases hb
    | some y => rw [h] at hb; simp at hb; rw [hb]
  simp [this]

theorem yield_undef {all : Array Oper} {j g : Nat} (hg : (all[j]?).bind (·.dst) = some g) (hb : tm.getD g undef = undef) : yielded all tm j = none := by
  unfold yielded
  rw [hg]
  cases h : tm[g]? with
  | none => simp [h]
  | some y =>
    rw [Array.getD_eq_getD_getElem?, h] at hb
    have hb : y = undef := hb
    subst hb
    simp [h, undef]
theorem rep_undef {w : World} {G : Gh} {ob : Ob} : RepT w G ob (.tup []) undef := .tup [] #[] rfl (fun i hi => by simp at hi)
theorem rep_undef_inv {w : World} {G : Gh} {ob : Ob} {x : Value} (h : RepT w G ob (.tup []) x) : x = undef := by
  cases h with
  | val _ _ h => cases h
  | tup _ xs hl _ =>
    have : xs = #[] := Array.eq_empty_of_size_eq_zero hl.symm
    rw [this]; rfl

theorem opsC_sound {callF : FuncId → List V → Option Ret} (hE : EnvOk E) (hp : Pre E w0 S0 F0) (hcall : SoundCall E callF) {nt : Nat} {all : Array Oper} (cont : Cont w0 S0 F0 kσ r (Q .normal) nt) : ∀ (l : List Nat) (σ : St) (G : Gh) (tm : Array Value) (w : World), Inv w0 S0 F0 G σ tm w → tm.size = nt →
    opsC E callF nt all (l.filterMap (all[·]?)) σ kσ = some r → wpOps E.P all Q l ⟨tm, []⟩ w
  | [], σ, G, tm, w, hI, hs, h => cont σ G tm w hI hs h
  | i :: l, σ, G, tm, w, hI, hs, h => by
    simp only [wpOps]
    cases ho : all[i]? with
    | none =>
      simp only [List.filterMap_cons, ho] at h
      exact opsC_sound hE hp hcall cont l σ G tm w hI hs h
    | some o =>
      simp only [List.filterMap_cons, ho, opsC] at h
      obtain ⟨hd, h⟩ := bif_none h
      have hd : dstIn tm.size o.dst = true := by rw [hs]; simpa using hd
      have ih : ∀ σ' G' tm' w', Inv w0 S0 F0 G' σ' tm' w' → tm'.size = tm.size → opsC E callF nt all (l.filterMap (all[·]?)) σ' kσ = some r → wpOps E.P all Q l ⟨tm', []⟩ w' :=
        fun σ' G' tm' w' hI' hs' h' => opsC_sound hE hp hcall cont l σ' G' tm' w' hI' (hs'.trans hs) h'
      have skip : ∀ σ', Inv w0 S0 F0 G σ' tm w → opsC E callF nt all (l.filterMap (all[·]?)) (σ'.put o.dst (.tup [])) kσ = some r → wpOps E.P all Q l (Act.put ⟨tm, []⟩ o.dst undef) w := by
        intro σ' hI' h'
        have := ih _ G (putT tm o.dst undef) w (hI'.put rep_undef hd) (putT_size _ _) h'
        unfold putT at this
        unfold Act.put
        revert this
        cases o.dst <;> exact fun h => h
      cases hg : o.guard with
      | none =>
        rw [hg] at h
        have hw : Region.wanted o (yielded all tm) = true := by simp [Region.wanted, hg]
        show (if Region.wanted o (yielded all tm) = true then _ else _)
        rw [if_pos hw]
        exact .inl (opC_sound hE hp hI hcall h hd fun σ' G' tm' w' hI' hs' h' => ih σ' G' tm' w' hI' hs' h')
      | some p =>
        obtain ⟨j, want⟩ := p
        rw [hg] at h
        simp only at h
        cases hgt : (all[j]?).bind (·.dst) with
        | none => rw [hgt] at h; cases h
        | some g =>
          rw [hgt] at h
          simp only at h
          cases hv : σ.tmp g with
          | bool b =>
            rw [hv] at h
            simp only at h
            have hrep := hI.tmps g
            rw [hv] at hrep
            have hx := hrep.bool_inv
            have hy := yield_of hgt hx
            have hgin : dstIn tm.size (some g) = true := by
              have hlt : g < tm.size := by
                rcases Nat.lt_or_ge g tm.size with h | h
                · exact h
                · rw [Array.getD_eq_getD_getElem?, Array.getElem?_eq_none h] at hx; cases hx
              simpa [dstIn] using hlt
            have hput : ∀ b' : Bool, b = b' → Inv w0 S0 F0 G (σ.put (some g) (.bool b')) tm w := by
              intro b' e
              refine hI.congr rfl fun t => ?_
              rw [tmp_put]
              split
              · rename_i e'; subst e' e; exact hv.symm
              · rfl
            have hwant : Region.wanted o (yielded all tm) = (b == want) := by
              simp [Region.wanted, hg, hy]
            show (if Region.wanted o (yielded all tm) = true then _ else _)
            rw [hwant]
            cases b with
            | true =>
              cases want with
              | true =>
                simp only [cond_true] at h
                exact .inl (opC_sound hE hp (hput true rfl) hcall h hd fun σ' G' tm' w' hI' hs' h' => ih σ' G' tm' w' hI' hs' h')
              | false => exact skip _ (hput true rfl) h
            | false =>
              cases want with
              | true => exact skip _ (hput false rfl) h
              | false =>
                simp only [cond_false] at h
                exact .inl (opC_sound hE hp (hput false rfl) hcall h hd fun σ' G' tm' w' hI' hs' h' => ih σ' G' tm' w' hI' hs' h')
          | tup cs =>
            rw [hv] at h
            cases cs with
            | cons _ _ => cases h
            | nil =>
              simp only at h
              have hrep := hI.tmps g
              rw [hv] at hrep
              have hwant : Region.wanted o (yielded all tm) = false := by
                simp [Region.wanted, hg, yield_undef hgt (rep_undef_inv hrep)]
              show (if Region.wanted o (yielded all tm) = true then _ else _)
              rw [hwant]
              exact skip _ hI h
          | _ => rw [hv] at h; cases h

theorem range_filterMap (all : Array Oper) : (List.range all.size).filterMap (all[·]?) = all.toList := by
  have : ∀ (l : List Oper), (List.range l.length).filterMap (l[·]?) = l := by
    intro l
    induction l with
    | nil => rfl
    | cons a l ih =>
      rw [List.length_cons, List.range_succ_eq_map, List.filterMap_cons]
      simp only [List.getElem?_cons_zero, List.filterMap_map]
      exact congrArg (a :: ·) ih
  have := this all.toList
  simpa using this

/-- A region whose order is fixed. -/
theorem region_sound {callF : FuncId → List V → Option Ret} (hE : EnvOk E) (hp : Pre E w0 S0 F0) (hcall : SoundCall E callF) (hI : Inv w0 S0 F0 G σ tm w) {rid : Nat} {all : Array Oper} (h : opsC E callF tm.size all all.toList σ kσ = some r)
    (cont : Cont w0 S0 F0 kσ r (Q .normal) tm.size) : (Code.region rid all false).wp E.P Q ⟨tm, []⟩ w := by
  refine wp_region (opsC_sound hE hp hcall cont _ σ G tm w hI rfl ?_)
  rw [range_filterMap]; exact h
end Go.Vk
end

section
namespace Go.Vk
open Go
set_option linter.unusedVariables false
set_option linter.unusedSimpArgs false

/-- A function's numbers: itself, its slots, its results with their types. -/
structure Fr where
  f : FuncId
  nt : Nat
  rs : List (Nat × ResultVar)
  ws : List Nat

/-- The tables that an evaluation asks: calls, and places in the code of a function (a stack of what is still to be done). -/
structure Tabs where
  call : FuncId → List V → Option Ret
  lab : FuncId → List Item → St → Option Ret

abbrev Canon := List (Nat × Nat) → St → Option St

/-- What has become of what a call may write. -/
def outsL {R : Type} (E : Env) : List Nat → St → (St → List V → Option R) → Option R
  | [], σ, k => k σ []
  | id :: ids, σ, k => retV E 0 σ (.ref id none) fun σ' v w => bif w.isDp then outsL E ids σ' fun σ'' l => k σ'' (v :: l) else none

/-- Where one of two results came about: they must say the same. -/
def AgRet (a b : Ret) : Prop := a.res.length = b.res.length ∧ a.outs.length = b.outs.length ∧ ∀ (i : Nat) (p q : V × Own), a.all[i]? = some p → b.all[i]? = some q → ∀ (w : World) (F : Set') (x : Value) (S : Set'), ResRep w F q.1 q.2 x S → ResRep w F p.1 p.2 x S
open Classical in
noncomputable def both (A B : Option Ret) : Option Ret :=
  match A, B with
  | some a, some b => if AgRet a b then some a else none
  | _, _ => none
theorem both_some {A B : Option Ret} {r : Ret} (h : both A B = some r) : A = some r ∧ ∃ b, B = some b ∧ AgRet r b := by
  unfold both at h
  split at h
  · split at h
    · rename_i hab; cases h; exact ⟨rfl, _, rfl, hab⟩
    · cases h
  · cases h
theorem both_of {A B : Option Ret} {r b : Ret} (hA : A = some r) (hB : B = some b) (h : AgRet r b) : both A B = some r := by
  subst hA hB
  simp only [both, if_pos h]

section
variable (cn : Canon) (E : Env) (L : FuncId → Nat → Option (List (Nat × Nat))) (F : Fr) (T : Tabs) (draw : Nat → Array Oper → St → (St → Option Ret) → Option Ret)

def toLab (l : Option (List (Nat × Nat))) (items : List Item) (σ : St) (other : Option Ret) : Option Ret :=
  match l with
  | some live => match cn (live ++ F.ws.map fun id => (id, 2)) σ with | some σ' => T.lab F.f items σ' | none => none
  | none => other

/-- To come to a stack: it may have a name. -/
def arrive (self : List Item → St → Option Ret) (items : List Item) (σ : St) : Option Ret :=
  match items with
  | .code b :: _ => toLab cn F T (L F.f (2 * keyOf b + 1)) items σ (self items σ)
  | _ => self items σ

def leave (σ : St) : Option Ret := retL E F.rs σ fun σ' l => outsL E F.ws σ' fun _ outs => some ⟨l, outs⟩

noncomputable def stepC (self : List Item → St → Option Ret) : List Item → St → Option Ret
  | [], σ => leave E F σ
  | .code .skip :: k, σ => arrive cn L F T self k σ
  | .code (.label _) :: k, σ => arrive cn L F T self k σ
  | .code (.region id ops dr) :: k, σ => bif dr then draw id ops σ fun σ' => arrive cn L F T self k σ' else opsC E T.call F.nt ops ops.toList σ fun σ' => arrive cn L F T self k σ'
  | .code (.seq a b) :: k, σ => self (.code a :: .code b :: k) σ
  | .code (.cond c a b) :: k, σ => match E.ev σ 4 c with
    | .bool t => bif t then self (.code a :: k) σ else self (.code b :: k) σ
    | .ub => both (self (.code a :: k) σ) (self (.code b :: k) σ)
    | _ => none
  | .code (.block id c) :: k, σ => self (.code c :: .inBlock id :: k) σ
  | .code (.loop c) :: k, σ => toLab cn F T (L F.f (2 * keyOf c)) (.code c :: .inLoop c :: k) σ none
  | .code (.exit id) :: k, σ => match exitTo id k with | some k' => arrive cn L F T self k' σ | none => none
  | .code .ret :: _, σ => leave E F σ
  | .inBlock _ :: k, σ => arrive cn L F T self k σ
  | .inLoop c :: k, σ => toLab cn F T (L F.f (2 * keyOf c)) (.code c :: .inLoop c :: k) σ none
  | _, _ => none

noncomputable def goC : Nat → List Item → St → Option Ret
  | 0, _, _ => none
  | n + 1, items, σ => stepC cn E L F T draw (goC n) items σ
end

variable {w w' w0 : World} {S0 : SS} {F0 : Set'} {G G' : Gh} {ob ob' : Ob} {v : V} {x : Value} {σ σ' : St} {tm : Array Value} {id : Nat} {o o' : VO}
variable {R : Type} {r : R} {k : V → Option R} {kσ : St → Option R} {E : Env} {P : Program} {op : Oper} {next : Act → World → Prop} {Q : Exit → Act → World → Prop}

/-- From a stack to the call's end. -/
def Ends (P : Program) (b : Frame) (cs : List Frame) (todo : List Item) (tm : Array Value) (w : World) (Post : Ending → World → Prop) : Prop :=
  ∃ fr v w', Post (.returned v) w' ∧ Steps P (lone (b.at ⟨tm, []⟩ todo) cs w) (lone fr cs w') ∧ fr.fn = b.fn ∧ fr.leaving P w' (.returned v)

theorem Ends.step {b : Frame} {cs : List Frame} {todo todo' : List Item} {tm' : Array Value} {Post : Ending → World → Prop} (h : Steps P (lone (b.at ⟨tm, []⟩ todo) cs w) (lone (b.at ⟨tm', []⟩ todo') cs w')) (h' : Ends P b cs todo' tm' w' Post) : Ends P b cs todo tm w Post := by
  obtain ⟨fr, v, w2, p, s, f, l⟩ := h'
  exact ⟨fr, v, w2, p, h.trans s, f, l⟩

/-- What a function's numbers must be. -/
structure FrOk (P : Program) (F : Fr) : Prop where
  fn : ∃ fn c, P.funcs[F.f]? = some fn ∧ (fn.name == "runtime.NumGoroutine") = false ∧ fn.body = some c ∧ fn.ntmps = F.nt ∧ fn.results.toList = F.rs.map (·.2)

def CanonOk (cn : Canon) : Prop := ∀ live σ σ' w0 S0 F0 G tm w, cn live σ = some σ' → (∀ p ∈ S0.keep, ∃ id, p.1 = .ref id none ∧ (id, 2) ∈ live) → Inv w0 S0 F0 G σ tm w → ∃ G', Inv w0 S0 F0 G' σ' tm w

/-- The handles that stay true through an activation: those of what it may write. -/
structure KeepOk (F : Fr) (S0 : SS) (vs : List Value) : Prop where
  len : vs.length = F.ws.length
  keep : S0.keep = (F.ws.map fun id => V.ref id none).zip vs

theorem KeepOk.live {F : Fr} {S0 : SS} {vs : List Value} (h : KeepOk F S0 vs) (live : List (Nat × Nat)) : ∀ p ∈ S0.keep, ∃ id, p.1 = .ref id none ∧ (id, 2) ∈ live ++ F.ws.map fun id => (id, 2) := fun p hp => by
  rw [h.keep] at hp
  obtain ⟨id, hid, e⟩ := List.mem_map.1 (List.of_mem_zip (a := p.1) (b := p.2) hp).1
  exact ⟨id, e.symm, List.mem_append_right _ (List.mem_map.2 ⟨id, hid, rfl⟩)⟩

/-- Named stacks that tell the truth: for this activation. -/
def SoundLab (E : Env) (F : Fr) (lab : FuncId → List Item → St → Option Ret) : Prop := ∀ items σ ret, lab F.f items σ = some ret → ∀ (w0 : World) (S0 : SS) (F0 : Set') (vs : List Value) (G : Gh) (tm : Array Value) (w : World) (b : Frame) (cs : List Frame),
  Pre E w0 S0 F0 → KeepOk F S0 vs → Inv w0 S0 F0 G σ tm w → tm.size = F.nt → b.fn = F.f → b.kind = .normal → Ends E.P b cs items tm w (Out w0 S0.s F0 vs ret)

def DrawOk (E : Env) (F : Fr) (call : FuncId → List V → Option Ret) (draw : Nat → Array Oper → St → (St → Option Ret) → Option Ret) : Prop := ∀ (rid : Nat) (all : Array Oper) (σ : St) (kσ : St → Option Ret) (r : Ret), draw rid all σ kσ = some r → ∀ (w0 : World) (S0 : SS) (F0 : Set') (G : Gh) (tm : Array Value) (w : World) (Q : Exit → Act → World → Prop),
  Pre E w0 S0 F0 → Inv w0 S0 F0 G σ tm w → tm.size = F.nt → Cont w0 S0 F0 kσ r (Q .normal) F.nt → (Code.region rid all true).wp E.P Q ⟨tm, []⟩ w

theorem results_run {fn : Func} {tm : Array Value} {xs : List Value} (h : (fn.results.toList.mapM (resVal tm)).run P w = .ok xs w) : (results fn tm).run P w = .ok (packed xs) w := by
  have e : results fn tm = (do let vs ← fn.results.mapM (resVal tm); pure (if h : vs.size = 1 then vs[0] else Value.tuple vs)) := by
    unfold results
    congr 2
  rw [e, Array.mapM_eq_mapM_toList]
  simp only [Sem.run_bind, map_eq_pure_bind, h, Result.andThen_ok, Sem.run_pure]
  congr 1
  match xs with
  | [] => rfl
  | [x] => rfl
  | x :: y :: l => simp [packed]

theorem outsL_sound (hE : EnvOk E) : ∀ (ids : List Nat) (vs : List Value) (σ : St) (G : Gh) (A0 : Set') (kk : St → List V → Option R), outsL E ids σ kk = some r → Inv w0 S0 F0 G σ tm w → vs.length = ids.length → (∀ (i id : Nat) (x : Value), ids[i]? = some id → vs[i]? = some x → RepT w G (look σ.objs) (.ref id none) x) → (∀ b, A0 b → Loose w0 S0 G σ w b) →
    ∃ (σ' : St) (G' : Gh) (outs : List V) (Ss : Nat → Set'), kk σ' outs = some r ∧ Inv w0 S0 F0 G' σ' tm w ∧ Step w G (look σ.objs) w G' (look σ'.objs) ∧ outs.length = ids.length ∧ (∀ (i : Nat) (v : V) (x : Value), outs[i]? = some v → vs[i]? = some x → ResRep w G'.F v .dp x (Ss i)) ∧
      (∀ i b, i < ids.length → Ss i b → Loose w0 S0 G' σ' w b ∧ ¬ A0 b) ∧ (∀ i i' b, i < ids.length → i' < ids.length → Ss i b → Ss i' b → i = i') ∧ (∀ b, A0 b → Loose w0 S0 G' σ' w b)
  | [], vs, σ, G, A0, kk, h, hI, hl, hv, hA => ⟨σ, G, [], fun _ => none', h, hI, .same, rfl, (fun i v x h => by simp at h), (fun i b h => by simp at h), (fun i i' b h => by simp at h), hA⟩
  | id :: ids, [], σ, G, A0, kk, h, hI, hl, hv, hA => by simp at hl
  | id :: ids, y :: vs, σ, G, A0, kk, h, hI, hl, hv, hA => by
    unfold outsL at h
    obtain ⟨σ1, G1, u, own, S, h, I1, st1, t1, rr, lo, a1⟩ := retV_sound hE hI h (hv 0 id y rfl rfl) hA
    obtain ⟨hdp, h⟩ := bif_some h
    have hdp : own = .dp := by cases own <;> first | rfl | cases hdp
    subst hdp
    obtain ⟨σ2, G2, outs, Ss, h, I2, st2, lo2, rep2, own2, dis2, a2⟩ := outsL_sound hE ids vs σ1 G1 (fun b => A0 b ∨ S b) _ h I1 (by simpa using hl) (fun i id' x h1 h2 => (hv (i + 1) id' x (by simpa using h1) (by simpa using h2)).step st1) (fun b hb => hb.elim (a1 b) fun hb => (lo b hb).1)
    refine ⟨σ2, G2, u :: outs, fun i => match i with | 0 => S | i + 1 => Ss i, h, I2, st1.trans' st2, by simp [lo2], fun i v x h1 h2 => ?_, fun i b hi hb => ?_, fun i i' b hi hi' hb hb' => ?_, fun b hb => a2 b (.inl hb)⟩
    · cases i with
      | zero => simp at h1 h2; subst h1 h2; exact rr.mono st2.F
      | succ i => exact rep2 i v x (by simpa using h1) (by simpa using h2)
    · cases i with
      | zero => exact ⟨a2 b (.inr hb), (lo b hb).2⟩
      | succ i =>
        obtain ⟨b1, b2⟩ := own2 i b (by simpa using hi) hb
        exact ⟨b1, fun hh => b2 (.inl hh)⟩
    · cases i with
      | zero =>
        cases i' with
        | zero => rfl
        | succ i' => exact ((own2 i' b (by simpa using hi') hb').2 (.inr hb)).elim
      | succ i =>
        cases i' with
        | zero => exact ((own2 i b (by simpa using hi) hb).2 (.inr hb')).elim
        | succ i' => have := dis2 i i' b (by simpa using hi) (by simpa using hi') hb hb'; omega

theorem leave_sound {F : Fr} (hE : EnvOk E) (hF : FrOk E.P F) (hp : Pre E w0 S0 F0) {vs : List Value} (hk : KeepOk F S0 vs) (hI : Inv w0 S0 F0 G σ tm w) {ret : Ret} (h : leave E F σ = some ret) : ∃ v, Out w0 S0.s F0 vs ret (.returned v) w ∧ ∃ fn, E.P.funcs[F.f]? = some fn ∧ (results fn tm).run E.P w = .ok v w := by
  unfold leave at h
  obtain ⟨σ1, G1, l, xs, Ss, h, I1, st1, hrun, giv, _, hlen⟩ := retL_sound (A0 := none') (tm := tm) hE F.rs σ G _ h hI (fun _ h => h.elim)
  obtain ⟨σ', G', outs, So, h, I', st2, lo2, rep2, own2, dis2, a2⟩ := outsL_sound hE F.ws vs σ1 G1 (fun b => ∃ i, i < l.length ∧ Ss i b) _ h I1 hk.len (fun i id x h1 h2 => by
    have : (V.ref id none, x) ∈ S0.keep := by
      rw [hk.keep]
      refine List.mem_of_getElem? (i := i) ?_
      rw [List.getElem?_zip_eq_some]
      exact ⟨by rw [List.getElem?_map, h1]; rfl, h2⟩
    exact I1.keep _ this) (fun b ⟨i, hi, hb⟩ => (giv.loose i b hi hb).1)
  cases h
  obtain ⟨fn, c, hf, hname, hb, hnt, hrs⟩ := hF.fn
  have eall : (⟨l, outs⟩ : Ret).all = l ++ outs.map fun v => (v, Own.dp) := rfl
  have lenAll : (⟨l, outs⟩ : Ret).all.length = l.length + F.ws.length := by rw [eall]; simp [lo2]
  refine ⟨packed xs, ⟨I'.base, xs, G'.F, fun i => if i < l.length then Ss i else So (i - l.length), rfl, I'.fsub, fun b hb => ?_, I'.flt, giv.len, by rw [hk.len]; exact lo2, fun i p x hp hx => ?_, fun i b hi hb => ?_, fun i i' b hi hi' hb hb' => ?_⟩, fn, hf, results_run (by rw [hrs]; exact hrun)⟩
  · exact (I'.fmine b hb).imp (fun h => h) (fun h => h)
  · by_cases hlt : i < l.length
    · rw [eall, List.getElem?_append_left hlt] at hp
      rw [List.getElem?_append_left (by rw [← giv.len]; exact hlt)] at hx
      simp only [if_pos hlt]
      exact (giv.rep i p x hp hx).mono st2.F
    · rw [eall, List.getElem?_append_right (by omega), List.getElem?_map] at hp
      rw [List.getElem?_append_right (by rw [← giv.len]; omega), ← giv.len] at hx
      simp only [if_neg hlt]
      cases ho : outs[i - l.length]? with
      | none => rw [ho] at hp; cases hp
      | some v => rw [ho] at hp; cases hp; exact rep2 _ v x ho hx
  · have fin : ∀ (b : Nat), Loose w0 S0 G' σ' w b → (w0.heap.size ≤ b ∨ S0 b) ∧ b < w.heap.size ∧ ¬ G'.F b := fun b hl => ⟨hl.mine, hl.lt, hl.nF⟩
    by_cases hlt : i < l.length
    · simp only [if_pos hlt] at hb; exact fin b (a2 b ⟨i, hlt, hb⟩)
    · simp only [if_neg hlt] at hb; exact fin b (own2 _ b (by rw [lenAll] at hi; omega) hb).1
  · rw [lenAll] at hi hi'
    by_cases hlt : i < l.length
    · simp only [if_pos hlt] at hb
      by_cases hlt' : i' < l.length
      · simp only [if_pos hlt'] at hb'; exact giv.dis i i' b hlt hlt' hb hb'
      · simp only [if_neg hlt'] at hb'; exact ((own2 _ b (by omega) hb').2 ⟨i, hlt, hb⟩).elim
    · simp only [if_neg hlt] at hb
      by_cases hlt' : i' < l.length
      · simp only [if_pos hlt'] at hb'; exact ((own2 _ b (by omega) hb).2 ⟨i', hlt', hb'⟩).elim
      · simp only [if_neg hlt'] at hb'
        have := dis2 _ _ b (by omega) (by omega) hb hb'
        omega

theorem RepT.ub_inv {G : Gh} {ob : Ob} {x : Value} (h : RepT w G ob .ub x) : ∃ b, x = .bool b := by
  cases h with
  | val _ _ h => cases h
  | ub b => exact ⟨b, rfl⟩
theorem Ends.mono {b : Frame} {cs : List Frame} {todo : List Item} {Post Post' : Ending → World → Prop} (h : Ends P b cs todo tm w Post) (hm : ∀ e w', Post e w' → Post' e w') : Ends P b cs todo tm w Post' := by
  obtain ⟨fr, v, w2, p, s⟩ := h
  exact ⟨fr, v, w2, hm _ _ p, s⟩
theorem Out.agree {S F : Set'} {vs : List Value} {ret ret' : Ret} {e : Ending} (h : AgRet ret ret') (ho : Out w S F vs ret' e w') : Out w S F vs ret e w' := by
  obtain ⟨hb, xs, F', Ss, a1, a2, a3, a4, a5, a6, a7, a8, a9⟩ := ho
  obtain ⟨g1, g2, g3⟩ := h
  have hl : ret.all.length = ret'.all.length := by simp [Ret.all, g1, g2]
  refine ⟨hb, xs, F', Ss, a1, a2, a3, a4, g1.trans a5, g2.trans a6, fun i p x hp hx => ?_, fun i b hi => a8 i b (by rw [← hl]; exact hi), fun i i' b hi hi' => a9 i i' b (by rw [← hl]; exact hi) (by rw [← hl]; exact hi')⟩
  have hi : i < ret'.all.length := by rw [← hl]; exact (List.getElem?_eq_some_iff.1 hp).1
  exact g3 i p _ hp (List.getElem?_eq_getElem hi) _ _ _ _ (a7 i _ x (List.getElem?_eq_getElem hi) hx)

theorem goC_sound {cn : Canon} {L : FuncId → Nat → Option (List (Nat × Nat))} {F : Fr} {T : Tabs} {draw : Nat → Array Oper → St → (St → Option Ret) → Option Ret} (hcn : CanonOk cn) (hE : EnvOk E) (hF : FrOk E.P F) (hcall : SoundCall E T.call) (hlab : SoundLab E F T.lab) (hdraw : DrawOk E F T.call draw) :
    ∀ (n : Nat) (items : List Item) (σ : St) (ret : Ret), goC cn E L F T draw n items σ = some ret → ∀ (w0 : World) (S0 : SS) (F0 : Set') (vs : List Value) (G : Gh) (tm : Array Value) (w : World) (b : Frame) (cs : List Frame),
      Pre E w0 S0 F0 → KeepOk F S0 vs → Inv w0 S0 F0 G σ tm w → tm.size = F.nt → b.fn = F.f → b.kind = .normal → Ends E.P b cs items tm w (Out w0 S0.s F0 vs ret)
  | 0, items, σ, ret, h => by cases h
  | n + 1, items, σ, ret, h => by
    have ih := goC_sound (L := L) hcn hE hF hcall hlab hdraw n
    intro w0 S0 F0 vs G tm w b cs hp hk0 hI hs hbf hbk
    -- a name
    have toL : ∀ (l : Option (List (Nat × Nat))) (items : List Item) (σ : St) (other : Option Ret), toLab cn F T l items σ other = some ret → (∀ (G : Gh) (tm : Array Value) (w : World), other = some ret → Inv w0 S0 F0 G σ tm w → tm.size = F.nt → Ends E.P b cs items tm w (Out w0 S0.s F0 vs ret)) →
        ∀ (G : Gh) (tm : Array Value) (w : World), Inv w0 S0 F0 G σ tm w → tm.size = F.nt → Ends E.P b cs items tm w (Out w0 S0.s F0 vs ret) := by
      intro l items σ other h ho G tm w hI hs
      unfold toLab at h
      cases l with
      | none => exact ho G tm w h hI hs
      | some live =>
        simp only at h
        cases hc : cn (live ++ F.ws.map fun id => (id, 2)) σ with
        | none => rw [hc] at h; cases h
        | some σ' =>
          rw [hc] at h
          obtain ⟨G', hI'⟩ := hcn _ σ σ' _ _ _ _ _ _ hc (hk0.live live) hI
          exact hlab items σ' ret h w0 S0 F0 vs G' tm w b cs hp hk0 hI' hs hbf hbk
    have arr : ∀ (items : List Item) (σ : St), arrive cn L F T (goC cn E L F T draw n) items σ = some ret → ∀ (G : Gh) (tm : Array Value) (w : World), Inv w0 S0 F0 G σ tm w → tm.size = F.nt → Ends E.P b cs items tm w (Out w0 S0.s F0 vs ret) := by
      intro items σ h G tm w hI hs
      unfold arrive at h
      split at h
      · exact toL _ _ _ _ h (fun G tm w h hI hs => ih _ _ _ h w0 S0 F0 vs G tm w b cs hp hk0 hI hs hbf hbk) G tm w hI hs
      · exact ih _ _ _ h w0 S0 F0 vs G tm w b cs hp hk0 hI hs hbf hbk
    have out : ∀ (todo : List Item) (a : Frame), leave E F σ = some ret → Steps E.P (lone (b.at ⟨tm, []⟩ todo) cs w) (lone { b.at ⟨tm, []⟩ todo with mode := .returning } cs w) → Ends E.P b cs todo tm w (Out w0 S0.s F0 vs ret) := by
      intro todo a h hst
      obtain ⟨v, ho, fn, hf, hr⟩ := leave_sound hE hF hp hk0 hI h
      exact ⟨_, v, w, ho, hst, rfl, rfl, rfl, hbk, fn, by rw [← hbf] at hf; exact hf, hr⟩
    have region : ∀ (c : Code) (k : List Item) (kσ : St → Option Ret), (∀ (Q : Exit → Act → World → Prop), Cont w0 S0 F0 kσ ret (Q .normal) F.nt → c.wp E.P Q ⟨tm, []⟩ w) → (∀ (σ' : St) (G' : Gh) (tm' : Array Value) (w' : World), kσ σ' = some ret → Inv w0 S0 F0 G' σ' tm' w' → tm'.size = F.nt → Ends E.P b cs k tm' w' (Out w0 S0.s F0 vs ret)) → Ends E.P b cs (.code c :: k) tm w (Out w0 S0.s F0 vs ret) := by
      intro c k kσ hwp hk
      obtain ⟨e, a', w', hq, harr⟩ := hwp (fun e a w' => e = .normal ∧ a.defers = [] ∧ Ends E.P b cs k a.tmps w' (Out w0 S0.s F0 vs ret)) (fun σ' G' tm' w' hI' hs' h' => ⟨rfl, rfl, hk σ' G' tm' w' h' hI' hs'⟩) b k cs
      obtain ⟨rfl, hd, he⟩ := hq
      obtain ⟨tm', ds⟩ := a'
      simp only at hd; subst hd
      exact Ends.step harr he
    simp only [goC] at h
    unfold stepC at h
    split at h
    · exact out [] b h (.one step_end)
    · exact Ends.step (.one step_skip) (arr _ _ h G tm w hI hs)
    · exact Ends.step (.one step_label) (arr _ _ h G tm w hI hs)
    · rename_i rid ops dr k
      cases dr with
      | true => exact region _ _ (fun σ' => arrive cn L F T (goC cn E L F T draw n) k σ') (fun Q hc => hdraw rid ops σ _ ret h w0 S0 F0 G tm w Q hp hI hs hc) (fun σ' G' tm' w' h' hI' hs' => arr _ _ h' G' tm' w' hI' hs')
      | false => exact region _ _ (fun σ' => arrive cn L F T (goC cn E L F T draw n) k σ') (fun Q hc => region_sound hE hp hcall hI (by rw [hs]; exact h) (by rw [hs]; exact hc)) (fun σ' G' tm' w' h' hI' hs' => arr _ _ h' G' tm' w' hI' hs')
    · exact Ends.step (.one step_seq) (ih _ _ _ h w0 S0 F0 vs G tm w b cs hp hk0 hI hs hbf hbk)
    · rename_i c x y k
      cases hv : E.ev σ 4 c with
      | bool t =>
        rw [hv] at h
        have hx := ev_ok hp hI 4 c
        rw [hv] at hx
        refine Ends.step (.one (step_cond hx.bool_inv)) ?_
        cases t with
        | true => exact ih _ _ _ h w0 S0 F0 vs G tm w b cs hp hk0 hI hs hbf hbk
        | false => exact ih _ _ _ h w0 S0 F0 vs G tm w b cs hp hk0 hI hs hbf hbk
      | ub =>
        rw [hv] at h
        have hx := ev_ok hp hI 4 c
        rw [hv] at hx
        obtain ⟨h1, b', h2, hag⟩ := both_some h
        obtain ⟨t, ht⟩ := hx.ub_inv
        refine Ends.step (.one (step_cond ht)) ?_
        cases t with
        | true => exact ih _ _ _ h1 w0 S0 F0 vs G tm w b cs hp hk0 hI hs hbf hbk
        | false => exact (ih _ _ _ h2 w0 S0 F0 vs G tm w b cs hp hk0 hI hs hbf hbk).mono fun e w' => Out.agree hag
      | _ => rw [hv] at h; cases h
    · exact Ends.step (.one step_block) (ih _ _ _ h w0 S0 F0 vs G tm w b cs hp hk0 hI hs hbf hbk)
    · exact Ends.step (.one step_loop) (toL _ _ _ _ h (fun _ _ _ h => by cases h) G tm w hI hs)
    · rename_i rid k
      split at h
      · rename_i k' hk
        exact Ends.step (.one (step_exit hk)) (arr _ _ h G tm w hI hs)
      · cases h
    · exact out _ b h (.one step_ret)
    · exact Ends.step (.one step_inBlock) (arr _ _ h G tm w hI hs)
    · exact Ends.step (.one step_inLoop) (toL _ _ _ _ h (fun _ _ _ h => by cases h) G tm w hI hs)
    · cases h
end Go.Vk
end

section
namespace Go.Vk
open Go
set_option linter.unusedVariables false
set_option linter.unusedSimpArgs false

def entryT : Nat → List V → List (Nat × V)
  | _, [] => []
  | i, v :: vs => (i, v) :: entryT (i + 1) vs
def entry (args : List V) : St := ⟨entryT 0 args, []⟩

/-- All that an evaluation of a program needs. -/
structure Sys where
  E : Env
  fn : FuncId → Option (Fr × Code)
  cn : Canon
  L : FuncId → Nat → Option (List (Nat × Nat))
  draw : Fr → (FuncId → List V → Option Ret) → Nat → Array Oper → St → (St → Option Ret) → Option Ret
  fuel : Nat

noncomputable def Sys.go (Y : Sys) (F : Fr) (T : Tabs) (items : List Item) (σ : St) : Option Ret := goC Y.cn Y.E Y.L F T (Y.draw F T.call) Y.fuel items σ

/-- The numbers of the objects of what a call may write. -/
def slotId (nt : Nat) : Slot → Nat
  | (p, none) => (nt + p) * 256
  | (p, some j) => (nt + p) * 256 + 1 + j

def slotObjs (nt : Nat) (args : List V) : List Slot → Option (List (Nat × Option VO))
  | [] => some []
  | s :: ms => match slotV args s with
    | .sl sz fl _ _ n g => match slotObjs nt args ms with
      | some D => some ((slotId nt s, some ⟨false, .dp, sz, fl, n, g, 0⟩) :: D)
      | none => none
    | _ => none

/-- A call's beginning, where it writes what it is handed. -/
def entryW (nt : Nat) (ms : List Slot) (args : List V) : Option St := match slotObjs nt args ms with
  | some D => bif distinct (D.map (·.1)) then some ⟨entryT 0 (fillSlots args ms (ms.map fun s => .ref (slotId nt s) none)), D⟩ else none
  | none => none

def entryM (nt : Nat) (ms : List Slot) (args : List V) : Option St := bif ms.isEmpty then some (entry args) else entryW nt ms args

noncomputable def Sys.enter (Y : Sys) (T : Tabs) (f : FuncId) (args : List V) : Option Ret := match Y.fn f with
  | some (F, body) => bif Nat.ble args.length F.nt then (match entryM F.nt (Y.E.M f) args with | some σ => Y.go F T [.code body] σ | none => none) else none
  | none => none
noncomputable def Sys.at (Y : Sys) (T : Tabs) (f : FuncId) (items : List Item) (σ : St) : Option Ret := match Y.fn f with
  | some (F, _) => Y.go F T items σ
  | none => none

noncomputable def Sys.tabs (Y : Sys) : Nat → Tabs
  | 0 => ⟨fun _ _ => none, fun _ _ _ => none⟩
  | n + 1 => ⟨Y.enter (Y.tabs n), Y.at (Y.tabs n)⟩

structure SysOk (Y : Sys) : Prop where
  E : EnvOk Y.E
  fn : ∀ f F body, Y.fn f = some (F, body) → F.f = f ∧ FrOk Y.E.P F ∧ F.ws = (Y.E.M f).map (slotId F.nt) ∧ ∃ fn, Y.E.P.funcs[f]? = some fn ∧ fn.body = some body
  cn : CanonOk Y.cn
  draw : ∀ F call, SoundCall Y.E call → DrawOk Y.E F call (Y.draw F call)

variable {w w' w0 : World} {S0 : SS} {F0 : Set'} {G G' : Gh} {ob ob' : Ob} {v : V} {x : Value} {σ σ' : St} {tm : Array Value} {id : Nat} {o o' : VO}

theorem entryT_look : ∀ (args : List V) (i t : Nat), look (entryT i args) t = if i ≤ t then args[t - i]? else none
  | [], i, t => by simp [entryT, look]
  | v :: vs, i, t => by
    rw [entryT, look_cons, entryT_look vs (i + 1) t]
    by_cases h : i = t
    · subst h; simp
    · rw [if_neg h]
      by_cases h1 : i ≤ t
      · have : i + 1 ≤ t := by omega
        rw [if_pos this, if_pos h1]
        have e : t - i = (t - (i + 1)) + 1 := by omega
        rw [e, List.getElem?_cons_succ]
      · rw [if_neg h1, if_neg (by omega)]

theorem entry_tmp (args : List V) (t : Nat) : (entry args).tmp t = cellAt args t := by
  simp only [St.tmp, entry, entryT_look, cellAt]
  simp

theorem entry_tmps (l : List V) (D : List (Nat × Option VO)) (t : Nat) : (⟨entryT 0 l, D⟩ : St).tmp t = cellAt l t := by
  simp only [St.tmp, entryT_look, cellAt]
  simp

theorem argOk_repT {F : Set'} {u : V} {y : Value} (h : ArgOk w F u y) (hF : ∀ b, F b → G.F b) : RepT w G ob u y := by
  cases h with
  | val _ _ h => exact .val _ _ (h.mono hF)
  | agg cs xs hl h => exact .agg _ _ hl fun i hi => .val _ _ ((h i hi).mono hF)

theorem getD_vals {vals : Array Value} {n t : Nat} (h : t < vals.size) : (vals ++ Array.replicate n undef).getD t undef = vals.getD t default := by
  simp only [Array.getD_eq_getD_getElem?]
  rw [Array.getElem?_append_left h]
  simp [h]

/-- The blocks that are handed over lie loose. -/
theorem inv_blank {F S : Set'} {vals : Array Value} (hF : ∀ b, F b → b < w.heap.size) : Inv w ⟨S, []⟩ F ⟨F, fun _ => none, fun _ => none'⟩ ⟨[], []⟩ vals w :=
  ⟨⟨rfl, rfl, rfl, Nat.le_refl _, fun _ _ _ => rfl, .refl w⟩, fun _ h => h, fun _ h => .inl h, hF, fun t => .dead _, (fun p hp => by cases hp), fun id o h => (by cases h), fun id o b off h => (by cases h), fun id o id' o' b off off' h => (by cases h), fun id b h => h.elim, fun id id' b h => h.elim⟩

theorem slots_lay {S F : Set'} {nt : Nat} {args : List V} {X : Slot → Value} {Ss : Slot → Set'} : ∀ (ms : List Slot) (D : List (Nat × Option VO)) (G : Gh) (A0 : Set'), slotObjs nt args ms = some D → distinct (D.map (·.1)) = true → Inv w ⟨S, []⟩ F G ⟨[], []⟩ tm w →
    (∀ s ∈ ms, Rep w G.F true (slotV args s) (X s) (Ss s)) → (∀ s ∈ ms, ∀ b, Ss s b → Loose w ⟨S, []⟩ G ⟨[], []⟩ w b ∧ ¬ A0 b) → (∀ s ∈ ms, ∀ s' ∈ ms, ∀ b, Ss s b → Ss s' b → s = s') → (∀ b, A0 b → Loose w ⟨S, []⟩ G ⟨[], []⟩ w b) →
    ∃ G', Inv w ⟨S, []⟩ F G' ⟨[], D⟩ tm w ∧ (∀ b, G.F b → G'.F b) ∧ D.map (·.1) = ms.map (slotId nt) ∧ (∀ s ∈ ms, RepT w G' (look D) (.ref (slotId nt s) none) (X s)) ∧ (∀ b, A0 b → Loose w ⟨S, []⟩ G' ⟨[], D⟩ w b)
  | [], D, G, A0, h, _, hI, _, _, _, hA => by cases h; exact ⟨G, hI, fun _ h => h, rfl, fun s hs => by simp at hs, hA⟩
  | s :: ms, D, G, A0, h, hd, hI, hr, hS, hdis, hA => by
    unfold slotObjs at h
    split at h
    · rename_i sz fl cap src n g hv
      split at h
      · rename_i D' hD'
        cases h
        obtain ⟨d1, d2⟩ := distinct_cons hd
        have hne : ∀ s' ∈ ms, s' ≠ s := fun s' hs' e => by
          subst e
          have key : ∀ (ms : List Slot) (D : List (Nat × Option VO)), slotObjs nt args ms = some D → D.map (·.1) = ms.map (slotId nt) := by
            intro ms
            induction ms with
            | nil => intro D h; cases h; rfl
            | cons a ms ih =>
              intro D h
              unfold slotObjs at h
              split at h
              · split at h
                · rename_i D2 hD2; cases h; simp [ih D2 hD2]
                · cases h
              · cases h
          refine d1 (slotId nt s') ?_ rfl
          rw [key ms D' hD']
          exact List.mem_map.2 ⟨s', hs', rfl⟩
        obtain ⟨G1, I1, f1, m1, r1, a1⟩ := slots_lay ms D' G (fun b => A0 b ∨ Ss s b) hD' d2 hI (fun s' hs' => hr s' (by simp [hs'])) (fun s' hs' b hb => ⟨(hS s' (by simp [hs']) b hb).1, fun hh => hh.elim (hS s' (by simp [hs']) b hb).2 fun hb' => hne s' hs' (hdis s' (by simp [hs']) s (by simp) b hb hb')⟩)
          (fun s' hs' s2 hs2 b hb hb' => hdis s' (by simp [hs']) s2 (by simp [hs2]) b hb hb') (fun b hb => hb.elim (hA b) fun hb => (hS s (by simp) b hb).1)
        have hr0 := (hr s (by simp)).mono f1
        rw [hv] at hr0
        have hfree : (⟨[], D'⟩ : St).free (slotId nt s) = true := by
          have : look D' (slotId nt s) = none := look_none D' _ fun q hq => d1 q.1 (List.mem_map.2 ⟨q, hq, rfl⟩)
          simp [St.free, this]
        obtain ⟨G2, I2, r2, st2, a2⟩ := I1.laySl hfree hr0 (fun b hb => a1 b (.inr hb)) (A0 := A0) (fun b hb => a1 b (.inl hb)) (fun b hb => (hS s (by simp) b hb).2)
        refine ⟨G2, I2, fun b hb => st2.F b (f1 b hb), by simp [m1], fun s' hs' => ?_, a2⟩
        rcases List.mem_cons.1 hs' with rfl | hs'
        · exact r2
        · exact (r1 s' hs').step st2
      · cases h
    · cases h

theorem inv_entryW {F : Set'} {args : List V} {vals : Array Value} {n nt : Nat} {ms : List Slot} {Ss : Slot → Set'} {σ : St} (hF : ∀ b, F b → b < w.heap.size) (ha : ArgsM w F ms args vals Ss) (h : entryW nt ms args = some σ) :
    ∃ G, Inv w ⟨fun b => ∃ s ∈ ms, Ss s b, ((ms.map (slotId nt)).map fun id => V.ref id none).zip (ms.map (slotVal vals))⟩ F G σ (vals ++ Array.replicate n undef) w := by
  unfold entryW at h
  cases hD : slotObjs nt args ms with
  | none => rw [hD] at h; cases h
  | some D =>
    rw [hD] at h
    simp only at h
    obtain ⟨hd, h⟩ := bif_some h
    cases h
    obtain ⟨G, I, f1, _, rs, _⟩ := slots_lay (S := fun b => ∃ s ∈ ms, Ss s b) (F := F) (tm := vals ++ Array.replicate n undef) ms D ⟨F, fun _ => none, fun _ => none'⟩ none' hD hd (inv_blank hF) (fun s hs => ha.slot s hs)
      (fun s hs b hb => ⟨⟨(ha.lt s hs b hb).1, .inr ⟨s, hs, hb⟩, (ha.lt s hs b hb).2, fun _ h => h.elim, fun k o off h => by cases h⟩, fun h => h⟩) ha.dis (fun _ h => h.elim)
    refine ⟨G, I.base, I.fsub, I.fmine, I.flt, fun t => ?_, fun p hp => ?_, I.objs, I.root, I.rdis, I.nest, I.ndis⟩
    · rw [entry_tmps]
      have lenF : (fillSlots args ms (ms.map fun s => V.ref (slotId nt s) none)).length = args.length := fillA_len _ _ _
      by_cases ht : t < args.length
      · rw [getD_vals (by rw [← ha.len]; exact ht)]
        have e : cellAt (fillSlots args ms (ms.map fun s => V.ref (slotId nt s) none)) t = fill1 (lkS ms (ms.map fun s => V.ref (slotId nt s) none)) (0 + t) (cellAt args t) := fillA_at _ 0 args t ht
        have e2 : cellAt (blanks args ms) t = fill1 (lkS ms (ms.map fun _ => V.hole)) (0 + t) (cellAt args t) := fillA_at _ 0 args t ht
        have hr := ha.rest t ht
        rw [e2, Nat.zero_add] at hr
        rw [e, Nat.zero_add]
        have lkR : ∀ s v, lkS ms (ms.map fun s => V.ref (slotId nt s) none) s = some v → RepT w G (look D) v (slotVal vals s) ∧ s ∈ ms := fun s v hv => by
          obtain ⟨i, h1, h2⟩ := lkS_some hv
          rw [List.getElem?_map, h1] at h2
          have hs := List.mem_of_getElem? h1
          have h2 : V.ref (slotId nt s) none = v := by simpa using h2
          subst h2
          exact ⟨rs s hs, hs⟩
        have noHole : ∀ s, lkS ms (ms.map fun s => V.ref (slotId nt s) none) s = none → lkS ms (ms.map fun _ => V.hole) s = none := fun s hn => by
          have := lkS_none (by simp) hn
          cases hh : lkS ms (ms.map fun _ => V.hole) s with
          | none => rfl
          | some v => obtain ⟨i, h1, _⟩ := lkS_some hh; exact (this (List.mem_of_getElem? h1)).elim
        unfold fill1 at hr ⊢
        cases hf : lkS ms (ms.map fun s => V.ref (slotId nt s) none) (t, none) with
        | some v => exact (lkR _ _ hf).1
        | none =>
          rw [noHole _ hf] at hr
          cases hat : cellAt args t with
          | agg cs =>
            rw [hat] at hr
            simp only at hr ⊢
            obtain ⟨ys, e4, hly, hcy⟩ := hr.agg_inv
            rw [e4]
            rw [fillC_len] at hly hcy
            refine .agg _ _ (by rw [fillC_len]; exact hly) fun j hj => ?_
            rw [fillC_len] at hj
            rw [fillC_at _ _ _ _ hj, Nat.zero_add]
            cases hf3 : lkS ms (ms.map fun s => V.ref (slotId nt s) none) (t, some j) with
            | some v =>
              have := (lkR _ _ hf3).1
              have e6 : slotVal vals (t, some j) = ys.getD j default := by simp only [slotVal, e4]
              rw [e6] at this; exact this
            | none =>
              have := hcy j hj
              rw [fillC_at _ _ _ _ hj, Nat.zero_add, noHole _ hf3] at this
              exact .val _ _ (this.mono f1)
          | _ => rw [hat] at hr; exact argOk_repT hr f1
      · rw [cellAt_dead (by rw [lenF]; exact ht)]; exact .dead _
    · obtain ⟨i, hi⟩ := List.getElem?_of_mem hp
      rw [List.getElem?_zip_eq_some] at hi
      obtain ⟨h1, h2⟩ := hi
      rw [List.map_map, List.getElem?_map] at h1
      rw [List.getElem?_map] at h2
      cases hs : ms[i]? with
      | none => rw [hs] at h1; cases h1
      | some s =>
        rw [hs] at h1 h2
        have h1 : V.ref (slotId nt s) none = p.1 := by simpa using h1
        have h2 : slotVal vals s = p.2 := by simpa using h2
        rw [← h1, ← h2]
        exact rs s (List.mem_of_getElem? hs)

theorem inv_entry {F : Set'} {args : List V} {vals : Array Value} {n : Nat} (hF : ∀ b, F b → b < w.heap.size) (hl : args.length = vals.size) (ha : ∀ i, i < args.length → ArgOk w F (cellAt args i) (vals.getD i default)) :
    Inv w noS F ⟨F, fun _ => none, fun _ => none'⟩ (entry args) (vals ++ Array.replicate n undef) w := by
  refine ⟨⟨rfl, rfl, rfl, Nat.le_refl _, fun _ _ _ => rfl, .refl w⟩, fun _ h => h, fun _ h => .inl h, hF, fun t => ?_, (fun p hp => by cases hp), fun id o h => (by cases h), fun id o b off h => (by cases h), fun id o id' o' b off off' h => (by cases h), fun id b h => h.elim, fun id id' b h => h.elim⟩
  rw [entry_tmp]
  by_cases ht : t < args.length
  · rw [getD_vals (by rw [← hl]; exact ht)]
    exact argOk_repT (ha t ht) fun _ h => h
  · rw [cellAt_dead ht]; exact .dead _

theorem inv_entryM {F : Set'} {args : List V} {vals : Array Value} {n nt : Nat} {ms : List Slot} {Ss : Slot → Set'} {σ : St} (hF : ∀ b, F b → b < w.heap.size) (ha : ArgsM w F ms args vals Ss) (h : entryM nt ms args = some σ) :
    ∃ (S0 : SS) (G : Gh), (∀ b, S0 b ↔ ∃ s ∈ ms, Ss s b) ∧ S0.s = (fun b => ∃ s ∈ ms, Ss s b) ∧ S0.keep = ((ms.map (slotId nt)).map fun id => V.ref id none).zip (ms.map (slotVal vals)) ∧ Inv w S0 F G σ (vals ++ Array.replicate n undef) w := by
  unfold entryM at h
  cases ms with
  | nil =>
    cases h
    have e : (fun b => ∃ s ∈ ([] : List Slot), Ss s b) = none' := by funext b; simp [none']
    have hr : ∀ i, i < args.length → ArgOk w F (cellAt args i) (vals.getD i default) := fun i hi => by
      have := ha.rest i hi
      rwa [show blanks args [] = args from fillSlots_nil args _] at this
    exact ⟨noS, _, fun b => by simp [noS, none'], e.symm, rfl, inv_entry hF ha.len hr⟩
  | cons a ms =>
    obtain ⟨G, I⟩ := inv_entryW (n := n) hF ha h
    exact ⟨_, G, fun b => Iff.rfl, rfl, rfl, I⟩

theorem sys_sound {Y : Sys} (hY : SysOk Y) : ∀ n, SoundCall Y.E (Y.tabs n).call ∧ ∀ F body f, Y.fn f = some (F, body) → SoundLab Y.E F (Y.tabs n).lab
  | 0 => ⟨fun f args ret h => (by cases h), fun F body f _ items σ ret h => (by cases h)⟩
  | n + 1 => by
    obtain ⟨ih1, ih2⟩ := sys_sound hY n
    refine ⟨fun f args ret h => ?_, fun F body f hf items σ ret h => ?_⟩
    · have h : Y.enter (Y.tabs n) f args = some ret := h
      unfold Sys.enter at h
      cases hf : Y.fn f with
      | none => rw [hf] at h; cases h
      | some p =>
        obtain ⟨F, body⟩ := p
        rw [hf] at h
        simp only at h
        obtain ⟨hb, h⟩ := bif_some h
        cases hem : entryM F.nt (Y.E.M f) args with
        | none => rw [hem] at h; cases h
        | some σ =>
        rw [hem] at h
        simp only at h
        obtain ⟨hFf, hF, hws, fn', hfn', hb'⟩ := hY.fn f F body hf
        obtain ⟨fn, c, hfn, hname, hbody, hnt, hrs⟩ := hF.fn
        rw [hFf, hfn'] at hfn; cases hfn
        rw [hb'] at hbody; cases hbody
        refine ⟨⟨fn', body, hfn', hname, hb'⟩, fun w F0 vals Ss hlt hglob ha cs => ?_⟩
        have hle : vals.size ≤ F.nt := by rw [← ha.len]; exact Nat.le_of_ble_eq_true hb
        let b : Frame := { (default : Frame) with fn := f, kind := .normal }
        have henter : Frame.enter Y.E.P f vals .normal = b.at { tmps := vals ++ Array.replicate (fn'.ntmps - vals.size) undef, defers := [] } [.code body] := by
          simp [Frame.enter, Frame.at, hfn', hb', b]
        have hsz : (vals ++ Array.replicate (fn'.ntmps - vals.size) undef).size = F.nt := by simp; omega
        obtain ⟨S0, G, s1, s2, s3, I⟩ := inv_entryM (n := fn'.ntmps - vals.size) hlt ha hem
        have hp : Pre Y.E w S0 F0 := ⟨hlt, fun b hb hs => by obtain ⟨s, hs, hh⟩ := (s1 b).1 hs; exact (ha.lt s hs b hh).2 hb, fun b hs => by obtain ⟨s, hs, hh⟩ := (s1 b).1 hs; exact (ha.lt s hs b hh).1, hglob⟩
        obtain ⟨fr, v, w', hp, hst, hfr, hlv⟩ := goC_sound hY.cn hY.E hF ih1 (ih2 F body f hf) (hY.draw F _ ih1) _ _ _ _ h w S0 F0 ((Y.E.M f).map (slotVal vals)) G _ w b cs hp ⟨by rw [hws]; simp, by rw [s3, hws]⟩ I hsz hFf.symm rfl
        rw [s2] at hp
        exact ⟨.returned v, w', fr, hp, by rw [henter]; exact hst, hfr, hlv⟩
    · have h : Y.at (Y.tabs n) F.f items σ = some ret := h
      obtain ⟨hFf, hF, _⟩ := hY.fn f F body hf
      unfold Sys.at at h
      rw [hFf, hf] at h
      exact goC_sound hY.cn hY.E hF ih1 (ih2 F body f hf) (hY.draw F _ ih1) _ _ _ _ h
end Go.Vk
end

section
namespace Go.Vk
open Go
set_option linter.unusedVariables false
set_option linter.unusedSimpArgs false
variable {R : Type} {r : R} {k : V → Option R} {kσ : St → Option R} {E : Env} {σ τ : St} {a b i v : V} {t : Nat}

/-- Two states that say the same of some objects. -/
def Agree (σ τ : St) (ids : List Nat) : Prop := ∀ id ∈ ids, look τ.objs id = look σ.objs id

theorem Agree.mono {ids ids' : List Nat} (h : Agree σ τ ids) (hs : ∀ id ∈ ids', id ∈ ids) : Agree σ τ ids' := fun id hid => h id (hs id hid)
theorem Agree.putL {ids : List Nat} (h : Agree σ τ ids) (D : List (Nat × Option VO)) : Agree (σ.putL D) (τ.putL D) ids := fun id hid => by
  simp only [St.putL, look_append]
  rw [h id hid]
theorem Agree.putO {ids : List Nat} (h : Agree σ τ ids) (j : Nat) (o : Option VO) : Agree (σ.putO j o) (τ.putO j o) ids := fun id hid => by
  simp only [look_putO]
  rw [h id hid]
theorem Agree.obj {ids : List Nat} (h : Agree σ τ ids) {id : Nat} (hid : id ∈ ids) : τ.obj id = σ.obj id := by
  simp only [St.obj, h id hid]
theorem Agree.free {ids : List Nat} (h : Agree σ τ ids) {id : Nat} (hid : id ∈ ids) : τ.free id = σ.free id := by
  simp only [St.free, h id hid]

def srcIds : Option (Nat × Nat) → List Nat
  | some (id, _) => [id]
  | none => []
theorem Agree.alive {src : Option (Nat × Nat)} (h : Agree σ τ (srcIds src)) : alive τ src = alive σ src := by
  cases src with
  | none => rfl
  | some p => simp only [Vk.alive, h.obj (show p.1 ∈ srcIds (some p) by simp [srcIds])]
theorem ids_pv {src : Option (Nat × Nat)} {row : List V} {j : Nat} : (V.pv src row j).ids = srcIds src := by cases src <;> rfl
theorem ids_sl {sz : Nat} {fl : Bool} {cap : Option Nat} {src : Option (Nat × Nat × Nat × Nat)} {n : Nat} {g : Nat → List V} : (V.sl sz fl cap src n g).ids = srcIds (src2 src) := by
  cases src <;> rfl

theorem loadC_loc (h : loadC E σ t a k = some r) : ∃ v, k v = some r ∧ ∀ τ, Agree σ τ a.ids → ∀ (R' : Type) (k' : V → Option R'), loadC E τ t a k' = k' v := by
  unfold loadC at h
  cases a with
  | pv src row j =>
    simp only at h
    obtain ⟨hb, h⟩ := bif_some h
    refine ⟨_, h, fun τ ha R' k' => ?_⟩
    rw [ids_pv] at ha
    simp only [loadC, ha.alive, hb, cond_true]
  | adr id i j =>
    simp only at h
    cases ho : σ.obj id with
    | none => rw [ho] at h; cases h
    | some o =>
      rw [ho] at h
      obtain ⟨hi, h⟩ := if_some h
      obtain ⟨hb, h⟩ := bif_some h
      refine ⟨_, h, fun τ ha R' k' => ?_⟩
      have e : τ.obj id = some o := by rw [ha.obj (by simp [V.ids, V.ids1])]; exact ho
      have e2 : objSrc o id i = objSrc o id i := rfl
      simp only [loadC, e, if_pos hi, hb, cond_true]
  | _ => cases h

theorem asInt_loc {f : Int → Option R} (h : asInt a f = some r) : ∃ kk n, a = .int kk n ∧ f n = some r := by
  cases a with
  | int kk n => exact ⟨kk, n, rfl, h⟩
  | _ => cases h

theorem fieldC_loc {s f : Nat} (h : fieldC E s a f k = some r) : ∃ v, k v = some r ∧ ∀ (R' : Type) (k' : V → Option R'), fieldC E s a f k' = k' v := by
  unfold fieldC at h
  obtain ⟨hb, h⟩ := bif_none h
  cases ho : (E.T s).offs[f]? with
  | none => rw [ho] at h; cases h
  | some q =>
    obtain ⟨off, sz, ag⟩ := q
    rw [ho] at h
    cases a with
    | pv src row j => exact ⟨_, h, fun R' k' => by simp only [fieldC, hb, cond_false, ho]⟩
    | adr id i j => exact ⟨_, h, fun R' k' => by simp only [fieldC, hb, cond_false, ho]⟩
    | _ => cases h

theorem lenC_loc {f : Nat → Option R} (h : lenC σ a f = some r) : ∃ n, f n = some r ∧ ∀ τ, Agree σ τ a.ids → ∀ (R' : Type) (k' : Nat → Option R'), lenC τ a k' = k' n := by
  unfold lenC at h
  cases a with
  | sl sz fl cap src n g => exact ⟨n, h, fun _ _ _ _ => rfl⟩
  | ref id sub =>
    simp only at h
    cases ho : σ.obj id with
    | none => rw [ho] at h; cases h
    | some o =>
      rw [ho] at h
      refine ⟨_, h, fun τ ha R' k' => ?_⟩
      have e : τ.obj id = some o := by rw [ha.obj (by simp [V.ids, V.ids1])]; exact ho
      simp only [lenC, e]
  | _ => cases h

theorem indexC_loc (h : indexC E σ t a i k = some r) : ∃ v, k v = some r ∧ ∀ τ, Agree σ τ a.ids → ∀ (R' : Type) (k' : V → Option R'), indexC E τ t a i k' = k' v := by
  unfold indexC at h
  obtain ⟨kk, n, rfl, h⟩ := asInt_loc h
  obtain ⟨h0, h⟩ := if_some h
  cases a with
  | sl sz fl cap src m g =>
    simp only at h
    obtain ⟨hb, h⟩ := bif_some h
    obtain ⟨h1, h⟩ := if_some h
    refine ⟨_, h, fun τ ha R' k' => ?_⟩
    rw [ids_sl] at ha
    simp only [indexC, asInt, if_pos h0, ha.alive, hb, cond_true, if_pos h1]
  | ref id sub =>
    simp only at h
    cases ho : σ.obj id with
    | none => rw [ho] at h; cases h
    | some o =>
      rw [ho] at h
      obtain ⟨hb, h⟩ := bif_some h
      obtain ⟨h1, h⟩ := if_some h
      refine ⟨_, h, fun τ ha R' k' => ?_⟩
      have e : τ.obj id = some o := by rw [ha.obj (by simp [V.ids, V.ids1])]; exact ho
      simp only [indexC, asInt, if_pos h0, e, hb, cond_true, if_pos h1]
  | pv src row j =>
    cases src with
    | some s => cases h
    | none =>
      simp only at h
      cases har : (E.T t).arr with
      | none => rw [har] at h; cases h
      | some p =>
        obtain ⟨m, sz⟩ := p
        rw [har] at h
        simp only at h
        obtain ⟨hb, h⟩ := bif_some h
        obtain ⟨h1, h⟩ := if_some h
        exact ⟨_, h, fun τ ha R' k' => by simp only [indexC, asInt, if_pos h0, har, hb, cond_true, if_pos h1]⟩
  | _ => cases h

theorem boolC_loc {op : BinOp} {x y : Bool} (h : boolC op x y k = some r) : ∃ v, k v = some r ∧ ∀ (R' : Type) (k' : V → Option R'), boolC op x y k' = k' v := by
  cases op <;> first | exact ⟨_, h, fun _ _ => rfl⟩ | cases h

theorem strC_loc {op : BinOp} {x y : ByteArray} (h : strC op x y k = some r) : ∃ v, k v = some r ∧ ∀ (R' : Type) (k' : V → Option R'), strC op x y k' = k' v := by
  cases op with
  | add =>
    obtain ⟨h0, h⟩ := if_some h
    exact ⟨_, h, fun _ _ => by simp only [strC, if_pos h0]⟩
  | _ => first | exact ⟨_, h, fun _ _ => rfl⟩ | cases h

theorem if_none' {c : Prop} [Decidable c] {x : Option R} (h : (if c then none else x) = some r) : ¬ c ∧ x = some r := by
  split at h
  · cases h
  · exact ⟨‹_›, h⟩

theorem binC_loc {op : BinOp} {x y : V} (h : binC op x y k = some r) : ∃ v, k v = some r ∧ ∀ (R' : Type) (k' : V → Option R'), binC op x y k' = k' v := by
  cases x with
  | int kk a =>
    cases y with
    | int kb b =>
      have kinds : ∀ {f : Option R}, (bif !Nat.beq (kn kk) (kn kb) then none else f) = some r → (!Nat.beq (kn kk) (kn kb)) = false ∧ f = some r := fun h => bif_none h
      cases op with
      | shl => obtain ⟨h0, h⟩ := if_none' h; exact ⟨_, h, fun _ _ => by simp only [binC, if_neg h0]⟩
      | shr => obtain ⟨h0, h⟩ := if_none' h; exact ⟨_, h, fun _ _ => by simp only [binC, if_neg h0]⟩
      | quo =>
        obtain ⟨hk, h⟩ := kinds h
        obtain ⟨h0, h⟩ := if_none' h; exact ⟨_, h, fun _ _ => by simp only [binC, hk, cond_false, if_neg h0]⟩
      | rem =>
        obtain ⟨hk, h⟩ := kinds h
        obtain ⟨h0, h⟩ := if_none' h; exact ⟨_, h, fun _ _ => by simp only [binC, hk, cond_false, if_neg h0]⟩
      | _ =>
        obtain ⟨hk, h⟩ := kinds h
        first | exact ⟨_, h, fun _ _ => by simp only [binC, hk, cond_false]⟩ | cases h
    | _ => cases h
  | _ => cases h

theorem binX_loc {ti : TI} {op : BinOp} {x y : V} (h : binX ti op x y k = some r) : ∃ v, k v = some r ∧ ∀ (R' : Type) (k' : V → Option R'), binX ti op x y k' = k' v := by
  unfold binX at h
  split at h
  · obtain ⟨v, h1, h2⟩ := strC_loc h; exact ⟨v, h1, fun R' k' => by simp only [binX, h2]⟩
  · obtain ⟨hb, h⟩ := bif_none h
    obtain ⟨v, h1, h2⟩ := boolC_loc h; exact ⟨v, h1, fun R' k' => by simp only [binX, hb, cond_false, h2]⟩
  · split at h
    · cases h
    · rename_i ks hks
      obtain ⟨hb, h⟩ := bif_none h
      split at h
      · rename_i q hq
        cases op <;> first | exact ⟨_, h, fun R' k' => by simp only [binX, hks, hb, cond_false, hq]⟩ | cases h
      · cases h
  · rename_i n1 n2 n3
    obtain ⟨v, h1, h2⟩ := binC_loc h
    refine ⟨v, h1, fun R' k' => ?_⟩
    rw [← h2 R' k']
    unfold binX
    split
    · exact (n1 _ _ rfl rfl).elim
    · exact (n2 _ _ rfl rfl).elim
    · exact (n3 _ _ rfl rfl).elim
    · rfl

theorem unC_loc {u : UnOp} (h : unC u a k = some r) : ∃ v, k v = some r ∧ ∀ (R' : Type) (k' : V → Option R'), unC u a k' = k' v := by
  unfold unC at h
  split at h
  · exact ⟨_, h, fun _ _ => rfl⟩
  · exact ⟨_, h, fun _ _ => rfl⟩
  · cases h

theorem pickC_loc {c : V} (h : pickC c a b k = some r) : ∃ v, k v = some r ∧ ∀ (R' : Type) (k' : V → Option R'), pickC c a b k' = k' v := by
  cases c with
  | bool t =>
    cases a with
    | bool x => cases b <;> cases t <;> exact ⟨_, h, fun _ _ => rfl⟩
    | _ => cases t <;> exact ⟨_, h, fun _ _ => rfl⟩
  | _ => cases h

theorem extractC_loc {j : Nat} (h : extractC a j k = some r) : ∃ v, k v = some r ∧ ∀ (R' : Type) (k' : V → Option R'), extractC a j k' = k' v := by
  unfold extractC at h
  cases a with
  | tup vs => obtain ⟨hb, h⟩ := bif_some h; exact ⟨_, h, fun _ _ => by simp only [extractC, hb, cond_true]⟩
  | _ => cases h

theorem nilEqC_loc {ti : TI} {bo : BinOp} (h : nilEqC ti bo a k = some r) : ∃ v, k v = some r ∧ ∀ (R' : Type) (k' : V → Option R'), nilEqC ti bo a k' = k' v := by
  unfold nilEqC at h
  obtain ⟨hb, h⟩ := bif_none h
  split at h
  · rename_i sz fl cap n g _
    split at h
    · split at h
      · rename_i hn; exact ⟨_, h, fun _ _ => by simp only [nilEqC, hb, cond_false, if_pos hn]⟩
      · rename_i hn; exact ⟨_, h, fun _ _ => by simp only [nilEqC, hb, cond_false, if_neg hn]⟩
    · split at h
      · rename_i hn; exact ⟨_, h, fun _ _ => by simp only [nilEqC, hb, cond_false, if_pos hn]⟩
      · rename_i hn; exact ⟨_, h, fun _ _ => by simp only [nilEqC, hb, cond_false, if_neg hn]⟩
    · cases h
  · cases h

theorem convC_loc {ts ti : TI} (h : convC ts ti a k = some r) : ∃ v, k v = some r ∧ ∀ (R' : Type) (k' : V → Option R'), convC ts ti a k' = k' v := by
  unfold convC at h
  obtain ⟨hb, h⟩ := bif_none h
  split at h
  · exact ⟨_, h, fun _ _ => by simp only [convC, hb, cond_false, ‹ti.kind = some _›]⟩
  · obtain ⟨h0, h⟩ := bif_some h
    exact ⟨_, h, fun _ _ => by simp only [convC, hb, cond_false, ‹ti.kind = none›, h0, cond_true]⟩
  · cases h

theorem strIdx_loc {ti : TI} (h : strIdx ti a i k = some r) : ∃ v, k v = some r ∧ ∀ (R' : Type) (k' : V → Option R'), strIdx ti a i k' = k' v := by
  unfold strIdx at h
  obtain ⟨hb, h⟩ := bif_none h
  split at h
  · obtain ⟨h0, h⟩ := if_some h
    obtain ⟨h1, h⟩ := if_some h
    exact ⟨_, h, fun _ _ => by simp only [strIdx, hb, cond_false, if_pos h0, if_pos h1]⟩
  · cases h

theorem fieldV_loc {ti : TI} {f : Nat} (h : fieldV ti f a k = some r) : ∃ v, k v = some r ∧ ∀ (R' : Type) (k' : V → Option R'), fieldV ti f a k' = k' v := by
  unfold fieldV at h
  obtain ⟨hb, h⟩ := bif_none h
  split at h
  · obtain ⟨h0, h⟩ := bif_some h
    exact ⟨_, h, fun _ _ => by simp only [fieldV, hb, cond_false, ‹ti.offs[f]? = some _›, h0, cond_true]⟩
  · cases h

theorem nilC_loc (h : nilC a k = some r) : ∃ v, k v = some r ∧ ∀ (R' : Type) (k' : V → Option R'), nilC a k' = k' v := by
  cases a <;> first | exact ⟨_, h, fun _ _ => rfl⟩ | cases h

theorem boundOf_loc {lo : Option Operand} {d : Int} {f : Int → Option R} (h : boundOf E σ lo d f = some r) : ∃ n, f n = some r ∧ ∀ τ, (∀ x, lo = some x → E.ev τ 3 x = E.ev σ 3 x) → ∀ (R' : Type) (k' : Int → Option R'), boundOf E τ lo d k' = k' n := by
  cases lo with
  | none => exact ⟨d, h, fun _ _ _ _ => rfl⟩
  | some x =>
    obtain ⟨kk, n, e, h⟩ := asInt_loc h
    exact ⟨n, h, fun τ he R' k' => by simp only [boundOf, he x rfl, e, asInt]⟩
end Go.Vk
end

section
namespace Go.Vk
open Go
set_option linter.unusedVariables false
set_option linter.unusedSimpArgs false
variable {R : Type} {r : R} {k : V → Option R} {kσ : St → Option R} {E : Env} {σ τ : St} {a b i v : V} {t : Nat}

theorem sliceC_loc {lo hi mx : Option Operand} (h : sliceC E σ t a lo hi mx k = some r) : ∃ v, k v = some r ∧ ∀ τ, Agree σ τ a.ids → (∀ x, lo = some x ∨ hi = some x ∨ mx = some x → E.ev τ 3 x = E.ev σ 3 x) → ∀ (R' : Type) (k' : V → Option R'), sliceC E τ t a lo hi mx k' = k' v := by
  unfold sliceC at h
  cases a with
  | str s =>
    simp only at h
    obtain ⟨hb, h⟩ := bif_none h
    obtain ⟨l, h, hl⟩ := boundOf_loc h
    obtain ⟨m, h, hm⟩ := boundOf_loc h
    obtain ⟨h0, h⟩ := if_some h
    obtain ⟨h1, h⟩ := if_some h
    obtain ⟨h2, h⟩ := if_some h
    refine ⟨_, h, fun τ ha he R' k' => ?_⟩
    simp only [sliceC, hb, cond_false]
    rw [hl τ fun x hx => he x (.inl hx), hm τ fun x hx => he x (.inr (.inl hx)), if_pos h0, if_pos h1, if_pos h2]
  | sl sz fl cap src n g =>
    simp only at h
    obtain ⟨hb, h⟩ := bif_none h
    obtain ⟨l, h, hl⟩ := boundOf_loc h
    obtain ⟨m, h, hm⟩ := boundOf_loc h
    obtain ⟨h0, h⟩ := if_some h
    obtain ⟨h1, h⟩ := if_some h
    obtain ⟨h2, h⟩ := if_some h
    cases mx with
    | none =>
      refine ⟨_, h, fun τ ha he R' k' => ?_⟩
      simp only [sliceC, hb, cond_false]
      rw [hl τ fun x hx => he x (.inl hx), hm τ fun x hx => he x (.inr (.inl hx)), if_pos h0, if_pos h1, if_pos h2]
    | some mo =>
      simp only at h
      obtain ⟨hn, h⟩ := bif_none h
      obtain ⟨kk, q, eq, h⟩ := asInt_loc h
      obtain ⟨h3, h⟩ := if_some h
      obtain ⟨h4, h⟩ := if_some h
      refine ⟨_, h, fun τ ha he R' k' => ?_⟩
      simp only [sliceC, hb, cond_false]
      rw [hl τ fun x hx => he x (.inl hx), hm τ fun x hx => he x (.inr (.inl hx)), if_pos h0, if_pos h1, if_pos h2]
      simp only [hn, cond_false, he mo (.inr (.inr rfl)), eq, asInt, if_pos h3, if_pos h4]
  | ref id sub =>
    simp only at h
    cases ho : σ.obj id with
    | none => rw [ho] at h; cases h
    | some o =>
      rw [ho] at h
      simp only at h
      obtain ⟨l, h, hl⟩ := boundOf_loc h
      obtain ⟨m, h, hm⟩ := boundOf_loc h
      obtain ⟨hb, h⟩ := bif_none h
      obtain ⟨h0, h⟩ := if_some h
      obtain ⟨h1, h⟩ := if_some h
      obtain ⟨h2, h⟩ := if_some h
      cases mx with
      | some mo => cases h
      | none =>
        refine ⟨_, h, fun τ ha he R' k' => ?_⟩
        have e : τ.obj id = some o := by rw [ha.obj (by simp [V.ids, V.ids1])]; exact ho
        simp only [sliceC, e]
        rw [hl τ fun x hx => he x (.inl hx), hm τ fun x hx => he x (.inr (.inl hx))]
        simp only [hb, cond_false, if_pos h0, if_pos h1, if_pos h2]
  | _ => cases h

abbrev Dl := List (Nat × Option VO)

theorem putL_nil (σ : St) : σ.putL [] = σ := rfl
theorem putL_one (σ : St) (id : Nat) (o : Option VO) : σ.putL [(id, o)] = σ.putO id o := rfl
theorem putL_putL (σ : St) (D D' : Dl) : (σ.putL D).putL D' = σ.putL (D' ++ D) := (putL_append σ D' D).symm

theorem downTo_loc {src : Option (Nat × Nat)} (h : downTo σ src kσ = some r) : ∃ D : Dl, kσ (σ.putL D) = some r ∧ (∀ q ∈ D, q.1 ∈ srcIds src) ∧ ∀ τ, Agree σ τ (srcIds src) → ∀ (R' : Type) (k' : St → Option R'), downTo τ src k' = k' (τ.putL D) := by
  cases src with
  | none => exact ⟨[], h, fun q hq => (by cases hq), fun _ _ _ _ => rfl⟩
  | some p =>
    obtain ⟨id, ver⟩ := p
    simp only [downTo] at h
    cases ho : σ.obj id with
    | none => rw [ho] at h; cases h
    | some o =>
      rw [ho] at h
      obtain ⟨hb, h⟩ := bif_some h
      refine ⟨[(id, some ⟨o.box, o.st.le .sh, o.sz, o.fl, o.n, o.get, o.ver⟩)], h, fun q hq => ?_, fun τ ha R' k' => ?_⟩
      · simp at hq; subst hq; simp [srcIds]
      · have e : τ.obj id = some o := by rw [ha.obj (by simp [srcIds])]; exact ho
        simp only [downTo, e, hb, cond_true, putL_one]

theorem absorb_loc : ∀ (cs : List V) (σ : St) (own : Own) (kk : St → List V → Own → Option R), absorb σ cs own kk = some r → ∃ (D : Dl) (cs' : List V) (own' : Own), kk (σ.putL D) cs' own' = some r ∧ (∀ q ∈ D, q.1 ∈ cs.flatMap V.ids1) ∧
    ∀ τ, Agree σ τ (cs.flatMap V.ids1) → ∀ (R' : Type) (k' : St → List V → Own → Option R'), absorb τ cs own k' = k' (τ.putL D) cs' own'
  | [], σ, own, kk, h => ⟨[], [], own, h, fun q hq => (by cases hq), fun _ _ _ _ => rfl⟩
  | c :: cs, σ, own, kk, h => by
    -- a first step, then the others
    have step : ∀ (D1 : Dl) (c' : V) (own1 : Own), (∀ q ∈ D1, q.1 ∈ c.ids1) → absorb (σ.putL D1) cs own1 (fun σ' cs' w' => kk σ' (c' :: cs') w') = some r → (∀ τ, Agree σ τ c.ids1 → ∀ (R' : Type) (k' : St → List V → Own → Option R'), absorb τ (c :: cs) own k' = absorb (τ.putL D1) cs own1 (fun σ' cs' w' => k' σ' (c' :: cs') w')) →
        ∃ (D : Dl) (cs' : List V) (own' : Own), kk (σ.putL D) cs' own' = some r ∧ (∀ q ∈ D, q.1 ∈ (c :: cs).flatMap V.ids1) ∧ ∀ τ, Agree σ τ ((c :: cs).flatMap V.ids1) → ∀ (R' : Type) (k' : St → List V → Own → Option R'), absorb τ (c :: cs) own k' = k' (τ.putL D) cs' own' := by
      intro D1 c' own1 hk h he
      obtain ⟨D2, cs', own', h, hk2, he2⟩ := absorb_loc cs (σ.putL D1) own1 _ h
      refine ⟨D2 ++ D1, c' :: cs', own', by rw [putL_putL] at h; exact h, fun q hq => ?_, fun τ ha R' k' => ?_⟩
      · rw [List.flatMap_cons]
        rcases List.mem_append.1 hq with hq | hq
        · exact List.mem_append_right _ (hk2 q hq)
        · exact List.mem_append_left _ (hk q hq)
      · rw [List.flatMap_cons] at ha
        rw [he τ (ha.mono fun id hid => List.mem_append_left _ hid) R' k', he2 (τ.putL D1) ((ha.mono fun id hid => List.mem_append_right _ hid).putL D1) R' _, putL_putL]
    have leafStep : c.leaf = true → absorb σ (c :: cs) own kk = absorb σ cs own (fun σ' cs' w' => kk σ' (c :: cs') w') → (∀ (τ : St) (R' : Type) (k' : St → List V → Own → Option R'), absorb τ (c :: cs) own k' = absorb τ cs own (fun σ' cs' w' => k' σ' (c :: cs') w')) → ∃ (D : Dl) (cs' : List V) (own' : Own), kk (σ.putL D) cs' own' = some r ∧ (∀ q ∈ D, q.1 ∈ (c :: cs).flatMap V.ids1) ∧ ∀ τ, Agree σ τ ((c :: cs).flatMap V.ids1) → ∀ (R' : Type) (k' : St → List V → Own → Option R'), absorb τ (c :: cs) own k' = k' (τ.putL D) cs' own' :=
      fun _ e e2 => step [] c own (fun q hq => (by cases hq)) (by rw [e] at h; exact h) fun τ _ R' k' => e2 τ R' k'
    cases c with
    | ref id sub =>
      simp only [absorb] at h
      cases sub with
      | some p => cases h
      | none =>
        cases ho : σ.obj id with
        | none => rw [ho] at h; cases h
        | some o =>
          rw [ho] at h
          simp only at h
          obtain ⟨hb, h⟩ := bif_none h
          have eo : ∀ τ, Agree σ τ (V.ref id none).ids1 → τ.obj id = some o := fun τ ha => by rw [ha.obj (by simp [V.ids1])]; exact ho
          cases hst : o.st with
          | fz =>
            rw [hst] at h
            exact step [] _ _ (fun q hq => (by cases hq)) h fun τ ha R' k' => by simp only [absorb, eo τ ha, hb, cond_false, hst, putL_nil]
          | sh =>
            rw [hst] at h
            exact step [(id, none)] _ _ (fun q hq => by simp at hq; subst hq; simp [V.ids1]) h fun τ ha R' k' => by simp only [absorb, eo τ ha, hb, cond_false, hst, putL_one]
          | dp =>
            rw [hst] at h
            exact step [(id, none)] _ _ (fun q hq => by simp at hq; subst hq; simp [V.ids1]) h fun τ ha R' k' => by simp only [absorb, eo τ ha, hb, cond_false, hst, putL_one]
    | sl sz fl cap src n g =>
      simp only [absorb] at h
      cases hn0 : nil0 cap src n with
      | true =>
        rw [hn0] at h
        exact step [] _ _ (fun q hq => (by cases hq)) h fun τ ha R' k' => by simp only [absorb, hn0, cond_true, putL_nil]
      | false =>
      rw [hn0] at h
      simp only [cond_false] at h
      obtain ⟨D1, h, hk, he⟩ := downTo_loc h
      have hsrc : srcIds (src2 src) = (V.sl sz fl cap src n g).ids1 := by cases src <;> rfl
      rw [hsrc] at hk he
      exact step D1 _ _ hk h fun τ ha R' k' => by simp only [absorb, hn0, cond_false]; rw [he τ ha R' _]
    | int kk n => exact leafStep rfl rfl fun _ _ _ => rfl
    | bool b => exact leafStep rfl rfl fun _ _ _ => rfl
    | str s => exact leafStep rfl rfl fun _ _ _ => rfl
    | nilp => exact leafStep rfl rfl fun _ _ _ => rfl
    | nilf => exact leafStep rfl rfl fun _ _ _ => rfl
    | nili => exact leafStep rfl rfl fun _ _ _ => rfl
    | fn f cs => simp [absorb, V.leaf] at h
    | agg cs => simp [absorb, V.leaf] at h
    | tup cs => simp [absorb, V.leaf] at h
    | pv src row j => simp [absorb, V.leaf] at h
    | adr id i j => simp [absorb, V.leaf] at h
    | dead => simp [absorb, V.leaf] at h
    | ub => simp [absorb, V.leaf] at h
    | hole => simp [absorb, V.leaf] at h

theorem cells_ids (v : V) : ∀ id ∈ v.cells.flatMap V.ids1, id ∈ v.ids := by
  intro id h
  cases v with
  | agg cs => exact h
  | fn f cs => simp [V.cells, V.ids1] at h
  | _ => simpa [V.cells, V.ids] using h

theorem storeC_loc (h : storeC E σ t a v kσ = some r) : ∃ D : Dl, kσ (σ.putL D) = some r ∧ (∀ q ∈ D, q.1 ∈ a.ids ++ v.ids) ∧ ∀ τ, Agree σ τ (a.ids ++ v.ids) → ∀ (R' : Type) (k' : St → Option R'), storeC E τ t a v k' = k' (τ.putL D) := by
  unfold storeC at h
  cases a with
  | adr id i j =>
    simp only at h
    have hida : id ∈ (V.adr id i j).ids ++ v.ids := List.mem_append_left _ (by simp [V.ids, V.ids1])
    cases ho : σ.obj id with
    | none => rw [ho] at h; cases h
    | some o =>
      rw [ho] at h
      simp only at h
      have eo : ∀ τ, Agree σ τ ((V.adr id i j).ids ++ v.ids) → τ.obj id = some o := fun τ ha => by rw [ha.obj hida]; exact ho
      cases hbx : o.box with
      | true =>
        rw [hbx] at h
        simp only [cond_true] at h
        cases i with
        | succ i => cases h
        | zero =>
          simp only at h
          obtain ⟨hb, h⟩ := bif_some h
          exact ⟨[(id, _)], h, fun q hq => by simp at hq; subst hq; exact hida, fun τ ha R' k' => by simp only [storeC, eo τ ha, hbx, cond_true, hb, putL_one]⟩
      | false =>
        rw [hbx] at h
        simp only [cond_false] at h
        cases hfast : Nat.beq j 0 && Nat.beq (E.T t).size o.sz && o.fl && (E.T t).ok && !o.st.isFz && Nat.beq v.cells.length o.sz && v.cells.all V.leaf with
        | true =>
          rw [hfast] at h
          simp only [cond_true] at h
          obtain ⟨hi, h⟩ := if_some h
          exact ⟨[(id, _)], h, fun q hq => by simp at hq; subst hq; exact hida, fun τ ha R' k' => by simp only [storeC, eo τ ha, hbx, cond_false, hfast, cond_true, if_pos hi, putL_one]⟩
        | false =>
        rw [hfast] at h
        simp only [cond_false] at h
        obtain ⟨hone, h⟩ := bif_none h
        obtain ⟨D1, cs', own', h, hk, he⟩ := absorb_loc _ _ _ _ h
        cases ho1 : (σ.putL D1).obj id with
        | none => rw [ho1] at h; cases h
        | some o1 =>
          rw [ho1] at h
          simp only at h
          obtain ⟨hb, h⟩ := bif_some h
          obtain ⟨hi, h⟩ := if_some h
          obtain ⟨hb2, h⟩ := bif_some h
          refine ⟨(id, _) :: D1, h, fun q hq => ?_, fun τ ha R' k' => ?_⟩
          · rcases List.mem_cons.1 hq with rfl | hq
            · exact hida
            · exact List.mem_append_right _ (cells_ids v _ (hk q hq))
          · have eo1 : (τ.putL D1).obj id = some o1 := by rw [(ha.putL D1).obj hida]; exact ho1
            simp only [storeC, eo τ ha, hbx, cond_false, hfast, hone]
            rw [he τ (ha.mono fun id hid => List.mem_append_right _ (cells_ids v _ hid)) R' _]
            simp only [eo1, hb, cond_true, if_pos hi, hb2]
            rfl
  | _ => cases h
end Go.Vk
end

section
namespace Go.Vk
open Go
set_option linter.unusedVariables false
set_option linter.unusedSimpArgs false
variable {R : Type} {r : R} {k : V → Option R} {kσ : St → Option R} {E : Env} {σ τ : St} {a b i v : V} {t : Nat}

theorem absorbParts_loc (sz : Nat) : ∀ (vs : List V) (σ : St) (own : Own) (kk : St → List (List V) → Own → Option R), absorbParts sz σ vs own kk = some r → ∃ (D : Dl) (ps : List (List V)) (own' : Own), kk (σ.putL D) ps own' = some r ∧ (∀ q ∈ D, q.1 ∈ vs.flatMap V.ids) ∧
    ∀ τ, Agree σ τ (vs.flatMap V.ids) → ∀ (R' : Type) (k' : St → List (List V) → Own → Option R'), absorbParts sz τ vs own k' = k' (τ.putL D) ps own'
  | [], σ, own, kk, h => ⟨[], [], own, h, fun q hq => (by cases hq), fun _ _ _ _ => rfl⟩
  | v :: vs, σ, own, kk, h => by
    simp only [absorbParts] at h
    obtain ⟨hb, h⟩ := bif_none h
    obtain ⟨D1, cs', own1, h, hk1, he1⟩ := absorb_loc _ _ _ _ h
    obtain ⟨D2, ps, own2, h, hk2, he2⟩ := absorbParts_loc sz vs _ _ _ h
    refine ⟨D2 ++ D1, cs' :: ps, own2, by rw [putL_putL] at h; exact h, fun q hq => ?_, fun τ ha R' k' => ?_⟩
    · rw [List.flatMap_cons]
      rcases List.mem_append.1 hq with hq | hq
      · exact List.mem_append_right _ (hk2 q hq)
      · exact List.mem_append_left _ (cells_ids v _ (hk1 q hq))
    · rw [List.flatMap_cons] at ha
      simp only [absorbParts, hb, cond_false]
      rw [he1 τ (ha.mono fun id hid => List.mem_append_left _ (cells_ids v _ hid)) R' _, he2 _ ((ha.mono fun id hid => List.mem_append_right _ hid).putL D1) R' _, putL_putL]

/-- What an operation that makes an object leaves. -/
theorem newC_loc {d : Option Nat} {st : Own} {ti : TI} {fl : Bool} {rw : Rows} (h : newC σ d st ti fl rw kσ = some r) : ∃ (q : Nat) (D : Dl) (u : V), d = some q ∧ kσ ((σ.putL D).put d u) = some r ∧ (∀ p ∈ D, p.1 ∈ [q * 256]) ∧ ∀ τ, Agree σ τ [q * 256] → ∀ (R' : Type) (k' : St → Option R'), newC τ d st ti fl rw k' = k' ((τ.putL D).put d u) := by
  unfold newC at h
  cases d with
  | none => cases h
  | some d =>
    obtain ⟨hb, h⟩ := bif_some h
    refine ⟨d, [(d * 256, _)], _, rfl, h, fun q hq => ?_, fun τ ha R' k' => ?_⟩
    · simp at hq; subst hq; simp
    · simp only [newC, ha.free (show d * 256 ∈ [d * 256] by simp), hb, cond_true, putL_one]

theorem boxC_loc {d : Option Nat} {sz : Nat} {cs : List V} (h : boxC σ d sz cs kσ = some r) : ∃ (q : Nat) (D : Dl) (u : V), d = some q ∧ kσ ((σ.putL D).put d u) = some r ∧ (∀ p ∈ D, p.1 ∈ [q * 256]) ∧ ∀ τ, Agree σ τ [q * 256] → ∀ (R' : Type) (k' : St → Option R'), boxC τ d sz cs k' = k' ((τ.putL D).put d u) := by
  unfold boxC at h
  cases d with
  | none => cases h
  | some d =>
    obtain ⟨hb, h⟩ := bif_some h
    refine ⟨d, [(d * 256, _)], _, rfl, h, fun q hq => ?_, fun τ ha R' k' => ?_⟩
    · simp at hq; subst hq; simp
    · simp only [boxC, ha.free (show d * 256 ∈ [d * 256] by simp), hb, cond_true, putL_one]

theorem appSrc_loc {t2 : Nat} {y : V} {kk : St → Rows → Bool → Own → Option R} (h : appSrc E t t2 σ y kk = some r) : ∃ (D : Dl) (rw : Rows) (fl : Bool) (own : Own), kk (σ.putL D) rw fl own = some r ∧ (∀ q ∈ D, q.1 ∈ y.ids) ∧
    ∀ τ, Agree σ τ y.ids → ∀ (R' : Type) (k' : St → Rows → Bool → Own → Option R'), appSrc E t t2 τ y k' = k' (τ.putL D) rw fl own := by
  unfold appSrc at h
  cases y with
  | str s =>
    simp only at h
    obtain ⟨hb, h⟩ := bif_some h
    exact ⟨[], _, _, _, h, fun q hq => (by cases hq), fun τ ha R' k' => by simp only [appSrc, hb, cond_true, putL_nil]⟩
  | sl sz fl cap src n g =>
    simp only at h
    obtain ⟨hb, h⟩ := bif_some h
    rw [ids_sl]
    cases fl with
    | true => exact ⟨[], _, _, _, h, fun q hq => (by cases hq), fun τ ha R' k' => by simp only [appSrc, ha.alive, hb, cond_true, putL_nil]⟩
    | false =>
      simp only [cond_false] at h
      obtain ⟨D, h, hk, he⟩ := downTo_loc h
      exact ⟨D, _, _, _, h, hk, fun τ ha R' k' => by simp only [appSrc, ha.alive, hb, cond_true, cond_false]; rw [he τ ha R' _]⟩
  | ref id sub =>
    simp only at h
    have hid : id ∈ (V.ref id sub).ids := by simp [V.ids, V.ids1]
    cases ho : σ.obj id with
    | none => rw [ho] at h; cases h
    | some o =>
      rw [ho] at h
      have eo : ∀ τ, Agree σ τ (V.ref id sub).ids → τ.obj id = some o := fun τ ha => by rw [ha.obj hid]; exact ho
      simp only at h
      obtain ⟨hb, h⟩ := bif_some h
      cases hfl : o.fl with
      | true =>
        rw [hfl] at h
        exact ⟨[], _, _, _, h, fun q hq => (by cases hq), fun τ ha R' k' => by simp only [appSrc, eo τ ha, hb, cond_true, hfl, putL_nil]⟩
      | false =>
        rw [hfl] at h
        simp only [cond_false] at h
        cases hst : o.st with
        | dp =>
          rw [hst] at h
          exact ⟨[(id, none)], _, _, _, h, fun q hq => by simp at hq; subst hq; exact hid, fun τ ha R' k' => by simp only [appSrc, eo τ ha, hb, cond_true, cond_false, hfl, hst, putL_one]⟩
        | sh =>
          rw [hst] at h
          exact ⟨[], _, _, _, h, fun q hq => (by cases hq), fun τ ha R' k' => by simp only [appSrc, eo τ ha, hb, cond_true, cond_false, hfl, hst, putL_nil]⟩
        | fz =>
          rw [hst] at h
          exact ⟨[], _, _, _, h, fun q hq => (by cases hq), fun τ ha R' k' => by simp only [appSrc, eo τ ha, hb, cond_true, cond_false, hfl, hst, putL_nil]⟩
  | _ => cases h

theorem nilLike_agree {x : V} (ha : Agree σ τ x.ids) : nilLike τ x = nilLike σ x := by
  cases x with
  | sl sz fl cap src n g => rw [ids_sl] at ha; simp only [nilLike, ha.alive]
  | _ => rfl

theorem appendC_loc {d t2 : Nat} {x y : V} (h : appendC E σ d t t2 x y kσ = some r) : ∃ (D : Dl) (u : V), kσ ((σ.putL D).put (some d) u) = some r ∧ (∀ p ∈ D, p.1 ∈ x.ids ++ y.ids ++ [d * 256]) ∧
    ∀ τ, Agree σ τ (x.ids ++ y.ids ++ [d * 256]) → ∀ (R' : Type) (k' : St → Option R'), appendC E τ d t t2 x y k' = k' ((τ.putL D).put (some d) u) := by
  unfold appendC at h
  obtain ⟨hb, h⟩ := bif_none h
  obtain ⟨D1, rw1, fl1, own1, h, hk1, he1⟩ := appSrc_loc h
  have hd : d * 256 ∈ x.ids ++ y.ids ++ [d * 256] := List.mem_append_right _ (by simp)
  have mx : ∀ id ∈ x.ids, id ∈ x.ids ++ y.ids ++ [d * 256] := fun id h => List.mem_append_left _ (List.mem_append_left _ h)
  have my : ∀ id ∈ y.ids, id ∈ x.ids ++ y.ids ++ [d * 256] := fun id h => List.mem_append_left _ (List.mem_append_right _ h)
  have hnl : ∀ τ, Agree σ τ (x.ids ++ y.ids ++ [d * 256]) → (!((E.T t).slok && nilLike τ x)) = false := fun τ ha => by rw [nilLike_agree (ha.mono mx)]; exact hb
  cases x with
  | sl sz fl cap src n g =>
    simp only at h
    obtain ⟨hf, h⟩ := bif_none h
    obtain ⟨h0, h⟩ := if_some h
    refine ⟨(d * 256, _) :: D1, _, h, fun q hq => ?_, fun τ ha R' k' => ?_⟩
    · rcases List.mem_cons.1 hq with rfl | hq
      · exact hd
      · exact my _ (hk1 q hq)
    · unfold appendC
      rw [hnl τ ha]
      simp only [cond_false]
      rw [he1 τ (ha.mono my) R' _]
      simp only [(ha.putL D1).free hd, hf, cond_false, if_pos h0]
      rfl
  | ref id sub =>
    simp only at h
    have hid := mx id (by simp [V.ids, V.ids1])
    cases ho : (σ.putL D1).obj id with
    | none => rw [ho] at h; cases h
    | some o =>
      rw [ho] at h
      simp only at h
      obtain ⟨hf, h⟩ := bif_some h
      obtain ⟨h0, h⟩ := if_some h
      refine ⟨(d * 256, _) :: (id, none) :: D1, _, h, fun q hq => ?_, fun τ ha R' k' => ?_⟩
      · rcases List.mem_cons.1 hq with rfl | hq
        · exact hd
        · rcases List.mem_cons.1 hq with rfl | hq
          · exact hid
          · exact my _ (hk1 q hq)
      · unfold appendC
        rw [hnl τ ha]
        simp only [cond_false]
        rw [he1 τ (ha.mono my) R' _]
        have eo : (τ.putL D1).obj id = some o := by rw [(ha.putL D1).obj hid]; exact ho
        simp only [eo, (ha.putL D1).free hd, hf, cond_true, if_pos h0]
        rfl
  | _ => cases h

theorem resC_loc : ∀ (cs : List V) (kk : List V → Option R), resC σ cs kk = some r → ∃ cs', kk cs' = some r ∧ ∀ τ, Agree σ τ (cs.flatMap V.ids1) → ∀ (R' : Type) (k' : List V → Option R'), resC τ cs k' = k' cs'
  | [], kk, h => ⟨[], h, fun _ _ _ _ => rfl⟩
  | c :: cs, kk, h => by
    have step : ∀ c', resC σ cs (fun cs' => kk (c' :: cs')) = some r → (∀ τ, Agree σ τ c.ids1 → ∀ (R' : Type) (k' : List V → Option R'), resC τ (c :: cs) k' = resC τ cs (fun cs' => k' (c' :: cs'))) → ∃ cs', kk cs' = some r ∧ ∀ τ, Agree σ τ ((c :: cs).flatMap V.ids1) → ∀ (R' : Type) (k' : List V → Option R'), resC τ (c :: cs) k' = k' cs' := by
      intro c' h he
      obtain ⟨cs', h, he2⟩ := resC_loc cs _ h
      refine ⟨c' :: cs', h, fun τ ha R' k' => ?_⟩
      rw [List.flatMap_cons] at ha
      rw [he τ (ha.mono fun id hid => List.mem_append_left _ hid) R' k', he2 τ (ha.mono fun id hid => List.mem_append_right _ hid) R' _]
    cases c with
    | ref id sub =>
      simp only [resC] at h
      have eo : ∀ τ, Agree σ τ (V.ref id sub).ids1 → τ.obj id = σ.obj id := fun τ ha => ha.obj (by simp [V.ids1])
      cases ho : σ.obj id with
      | none => rw [ho] at h; cases h
      | some o =>
        rw [ho] at h
        cases sub with
        | some p => cases h
        | none =>
          simp only at h
          obtain ⟨hb, h⟩ := bif_none h
          exact step _ h fun τ ha R' k' => by simp only [resC, eo τ ha, ho, hb, cond_false]
    | sl sz fl cap src n g =>
      simp only [resC] at h
      obtain ⟨hb, h⟩ := bif_some h
      have hsrc : srcIds (src2 src) = (V.sl sz fl cap src n g).ids1 := by cases src <;> rfl
      exact step _ h fun τ ha R' k' => by rw [← hsrc] at ha; simp only [resC, ha.alive, hb, cond_true]
    | pv src row j =>
      simp only [resC] at h
      obtain ⟨hb, h⟩ := bif_some h
      have hsrc : srcIds src = (V.pv src row j).ids1 := by cases src <;> rfl
      exact step _ h fun τ ha R' k' => by rw [← hsrc] at ha; simp only [resC, ha.alive, hb, cond_true]
    | adr id i j =>
      simp only [resC] at h
      have eo : ∀ τ, Agree σ τ (V.adr id i j).ids1 → τ.obj id = σ.obj id := fun τ ha => ha.obj (by simp [V.ids1])
      cases ho : σ.obj id with
      | none => rw [ho] at h; cases h
      | some o =>
        rw [ho] at h
        simp only at h
        obtain ⟨hb, h⟩ := bif_some h
        cases i with
        | succ i => cases h
        | zero => exact step _ h fun τ ha R' k' => by simp only [resC, eo τ ha, ho, hb, cond_true]
    | int kk n => exact step _ (by simpa [resC, V.leaf] using h) fun τ ha R' k' => by simp [resC, V.leaf]
    | bool b => exact step _ (by simpa [resC, V.leaf] using h) fun τ ha R' k' => by simp [resC, V.leaf]
    | str s => exact step _ (by simpa [resC, V.leaf] using h) fun τ ha R' k' => by simp [resC, V.leaf]
    | nilp => exact step _ (by simpa [resC, V.leaf] using h) fun τ ha R' k' => by simp [resC, V.leaf]
    | nilf => exact step _ (by simpa [resC, V.leaf] using h) fun τ ha R' k' => by simp [resC, V.leaf]
    | nili => exact step _ (by simpa [resC, V.leaf] using h) fun τ ha R' k' => by simp [resC, V.leaf]
    | fn f cs => simp [resC, V.leaf] at h
    | agg cs => simp [resC, V.leaf] at h
    | tup cs => simp [resC, V.leaf] at h
    | dead => simp [resC, V.leaf] at h
    | ub => simp [resC, V.leaf] at h
    | hole => exact step _ (by simpa only [resC] using h) fun τ ha R' k' => by simp only [resC]

theorem argC_loc (h : argC E t σ v k = some r) : ∃ v', k v' = some r ∧ ∀ τ, Agree σ τ (idsIn σ v) → ∀ (R' : Type) (k' : V → Option R'), argC E t τ v k' = k' v' := by
  have vin : ∀ id ∈ v.ids, id ∈ idsIn σ v := fun id h => mem_idsIn h
  have single : v.one = true → (v.ids = v.ids1) → resC σ [v] (fun vs => k (cellAt vs 0)) = some r → (∀ (τ : St) (R' : Type) (k' : V → Option R'), argC E t τ v k' = resC τ [v] (fun vs => k' (cellAt vs 0))) → ∃ v', k v' = some r ∧ ∀ τ, Agree σ τ (idsIn σ v) → ∀ (R' : Type) (k' : V → Option R'), argC E t τ v k' = k' v' := by
    intro _ hids h he
    obtain ⟨cs', h, he2⟩ := resC_loc _ _ h
    refine ⟨_, h, fun τ ha R' k' => ?_⟩
    rw [he τ R' k', he2 τ (ha.mono fun id hid => vin id (by rw [hids]; simpa using hid)) R' _]
  unfold argC at h
  cases v with
  | agg cs =>
    simp only at h
    obtain ⟨cs', h, he⟩ := resC_loc _ _ h
    exact ⟨_, h, fun τ ha R' k' => by simp only [argC]; rw [he τ (ha.mono fun id hid => vin id hid) R' _]⟩
  | fn f cs =>
    simp only at h
    obtain ⟨cs', h, he⟩ := resC_loc _ _ h
    exact ⟨_, h, fun τ ha R' k' => by simp only [argC]; rw [he τ (ha.mono fun id hid => vin id hid) R' _]⟩
  | ref id sub =>
    simp only at h
    have eo : ∀ τ, Agree σ τ (idsIn σ (V.ref id sub)) → τ.obj id = σ.obj id := fun τ ha => ha.obj (vin id (by simp [V.ids, V.ids1]))
    cases ho : σ.obj id with
    | none => rw [ho] at h; cases h
    | some o =>
      rw [ho] at h
      simp only at h
      obtain ⟨hb, h⟩ := bif_none h
      exact ⟨_, h, fun τ ha R' k' => by simp only [argC, eo τ ha, ho, hb, cond_false]⟩
  | adr id i j =>
    simp only at h
    have eo : ∀ τ, Agree σ τ (idsIn σ (V.adr id i j)) → τ.obj id = σ.obj id := fun τ ha => ha.obj (vin id (by simp [V.ids, V.ids1]))
    cases ho : σ.obj id with
    | none => rw [ho] at h; cases h
    | some o =>
      rw [ho] at h
      simp only at h
      obtain ⟨hi, h⟩ := if_some h
      cases hbx : o.box with
      | false =>
        rw [hbx] at h
        exact ⟨_, h, fun τ ha R' k' => by simp only [argC, eo τ ha, ho, if_pos hi, hbx, cond_false]⟩
      | true =>
        rw [hbx] at h
        simp only [cond_true] at h
        cases i with
        | succ i => cases h
        | zero =>
          simp only at h
          obtain ⟨cs', h, he⟩ := resC_loc _ _ h
          refine ⟨_, h, fun τ ha R' k' => ?_⟩
          simp only [argC, eo τ ha, ho, if_pos hi, hbx, cond_true]
          rw [he τ (ha.mono fun id' hid => ?_) R' _]
          unfold idsIn
          refine List.mem_append_right _ (List.mem_flatMap.2 ⟨id, by simp [V.ids, V.ids1], ?_⟩)
          rw [ho]; simp only [hbx, cond_true]; exact hid
  | sl sz fl cap src n g => exact single rfl rfl (by simpa [V.one] using h) fun τ R' k' => by simp [argC, V.one]
  | pv src row j => exact single rfl rfl (by simpa [V.one] using h) fun τ R' k' => by simp [argC, V.one]
  | int kk n => exact single rfl rfl (by simpa [V.one] using h) fun τ R' k' => by simp [argC, V.one]
  | bool b => exact single rfl rfl (by simpa [V.one] using h) fun τ R' k' => by simp [argC, V.one]
  | str s => exact single rfl rfl (by simpa [V.one] using h) fun τ R' k' => by simp [argC, V.one]
  | nilp => exact single rfl rfl (by simpa [V.one] using h) fun τ R' k' => by simp [argC, V.one]
  | nilf => exact single rfl rfl (by simpa [V.one] using h) fun τ R' k' => by simp [argC, V.one]
  | nili => exact single rfl rfl (by simpa [V.one] using h) fun τ R' k' => by simp [argC, V.one]
  | tup cs => simp [V.one] at h
  | dead => simp [V.one] at h
  | ub => simp [V.one] at h
  | hole => exact single rfl rfl (by simpa [V.one] using h) fun τ R' k' => by simp [argC, V.one]
end Go.Vk
end

section
namespace Go.Vk
open Go
set_option linter.unusedVariables false
set_option linter.unusedSimpArgs false
variable {R : Type} {r : R} {k : V → Option R} {kσ : St → Option R} {E : Env} {σ τ : St} {a b i v : V} {t : Nat}

theorem idsIn_agree (h : Agree σ τ v.ids) : idsIn τ v = idsIn σ v := by
  unfold idsIn
  congr 1
  have : ∀ l : List Nat, (∀ id ∈ l, τ.obj id = σ.obj id) → l.flatMap (fun id => match τ.obj id with | some o => bif o.box then (o.get 0).flatMap V.ids1 else [] | none => []) = l.flatMap (fun id => match σ.obj id with | some o => bif o.box then (o.get 0).flatMap V.ids1 else [] | none => []) := by
    intro l
    induction l with
    | nil => intro _; rfl
    | cons x l ih =>
      intro hl
      simp only [List.flatMap_cons]
      rw [hl x (by simp), ih fun id hid => hl id (by simp [hid])]
  exact this _ fun id hid => h.obj hid

theorem flat_agree : ∀ {args : List V}, Agree σ τ (args.flatMap (idsIn σ)) → args.flatMap (idsIn τ) = args.flatMap (idsIn σ)
  | [], _ => rfl
  | x :: xs, h => by
    rw [List.flatMap_cons] at h
    rw [List.flatMap_cons, List.flatMap_cons, idsIn_agree (h.mono fun id hid => List.mem_append_left _ (mem_idsIn hid)), flat_agree (h.mono fun id hid => List.mem_append_right _ hid)]

theorem argsC_loc : ∀ (vs : List V) (ts : List Nat) (kk : List V → Option R), argsC E σ ts vs kk = some r → ∃ vs', kk vs' = some r ∧ ∀ τ, Agree σ τ (vs.flatMap (idsIn σ)) → ∀ (R' : Type) (k' : List V → Option R'), argsC E τ ts vs k' = k' vs'
  | [], ts, kk, h => ⟨[], by cases ts <;> exact h, fun τ ha R' k' => by cases ts <;> rfl⟩
  | v :: vs, ts, kk, h => by
    have go : ∀ t ts', argC E t σ v (fun v' => argsC E σ ts' vs fun vs' => kk (v' :: vs')) = some r → ∃ vs'', kk vs'' = some r ∧ ∀ τ, Agree σ τ ((v :: vs).flatMap (idsIn σ)) → ∀ (R' : Type) (k' : List V → Option R'), argC E t τ v (fun v' => argsC E τ ts' vs fun vs' => k' (v' :: vs')) = k' vs'' := by
      intro t ts' h
      obtain ⟨v', h, he⟩ := argC_loc h
      obtain ⟨vs', h, he2⟩ := argsC_loc vs ts' _ h
      refine ⟨v' :: vs', h, fun τ ha R' k' => ?_⟩
      rw [List.flatMap_cons] at ha
      rw [he τ (ha.mono fun id hid => List.mem_append_left _ hid) R' _, he2 τ (ha.mono fun id hid => List.mem_append_right _ hid) R' _]
    cases ts with
    | nil => exact go 0 [] h
    | cons t ts' => exact go t ts' h

theorem freezeL_loc : ∀ (ids : List Nat) (σ : St), ∃ D : Dl, freezeL σ ids = σ.putL D ∧ ∀ τ, Agree σ τ ids → freezeL τ ids = τ.putL D
  | [], σ => ⟨[], rfl, fun _ _ => rfl⟩
  | id :: ids, σ => by
    cases ho : σ.obj id with
    | none =>
      obtain ⟨D, h1, h2⟩ := freezeL_loc ids σ
      refine ⟨D, by simp only [freezeL, ho]; exact h1, fun τ ha => ?_⟩
      have e : τ.obj id = none := by rw [ha.obj (by simp)]; exact ho
      simp only [freezeL, e]
      exact h2 τ (ha.mono fun id hid => by simp [hid])
    | some o =>
      obtain ⟨D, h1, h2⟩ := freezeL_loc ids (σ.putO id (some ⟨o.box, .fz, o.sz, o.fl, o.n, o.get, o.ver⟩))
      refine ⟨D ++ [(id, some ⟨o.box, .fz, o.sz, o.fl, o.n, o.get, o.ver⟩)], by simp only [freezeL, ho]; rw [h1, ← putL_one, putL_putL], fun τ ha => ?_⟩
      have e : τ.obj id = some o := by rw [ha.obj (by simp)]; exact ho
      simp only [freezeL, e]
      rw [h2 _ ((ha.mono fun id hid => by simp [hid]).putO id _), ← putL_one, putL_putL]

theorem call0_loc {cf : FuncId → List V → Option Ret} {d : Nat} {dst : Option Nat} {f : FuncId} {ts : List Nat} {args : List V} (hM : (E.M f).isEmpty = true) (h : callC E cf σ d dst f ts args kσ = some r) : ∃ (D : Dl) (u : V) (e : FuncId × List V × Ret), kσ ((σ.putL D).put dst u) = some r ∧ cf e.1 e.2.1 = some e.2.2 ∧
    ∀ cf' : FuncId → List V → Option Ret, cf' e.1 e.2.1 = some e.2.2 → ∀ τ, Agree σ τ (args.flatMap (idsIn σ) ++ D.map (·.1)) → ∀ (R' : Type) (k' : St → Option R'), callC E cf' τ d dst f ts args k' = k' ((τ.putL D).put dst u) := by
  unfold callC at h
  rw [hM] at h
  simp only [Bool.not_true, cond_false] at h
  obtain ⟨args', h, he⟩ := argsC_loc _ _ _ h
  cases hcf : cf f args' with
  | none => rw [hcf] at h; cases h
  | some ret =>
    rw [hcf] at h
    simp only at h
    obtain ⟨hb, h⟩ := bif_some h
    -- the freeze
    have hfz : ∃ D : Dl, (bif ret.res.all (·.2.isDp) then σ else freezeL σ (args.flatMap (idsIn σ))) = σ.putL D ∧ ∀ τ, Agree σ τ (args.flatMap (idsIn σ)) → (bif ret.res.all (·.2.isDp) then τ else freezeL τ (args.flatMap (idsIn τ))) = τ.putL D := by
      cases ret.res.all (·.2.isDp) with
      | true => exact ⟨[], rfl, fun _ _ => rfl⟩
      | false =>
        obtain ⟨D, h1, h2⟩ := freezeL_loc (args.flatMap (idsIn σ)) σ
        exact ⟨D, h1, fun τ ha => by simp only [cond_false]; rw [flat_agree ha]; exact h2 τ ha⟩
    obtain ⟨D, hD, hD'⟩ := hfz
    rw [hD] at hb h
    refine ⟨(promL (d * 256) ret.res).2 ++ D, _, (f, args', ret), by rw [putL_putL] at h; exact h, hcf, fun cf' hcf' τ ha R' k' => ?_⟩
    have ha1 : Agree σ τ (args.flatMap (idsIn σ)) := ha.mono fun id hid => List.mem_append_left _ hid
    have ha2 : Agree σ τ ((promL (d * 256) ret.res).2.map (·.1)) := ha.mono fun id hid => List.mem_append_right _ (by rw [List.map_append]; exact List.mem_append_left _ hid)
    unfold callC
    rw [hM]
    simp only [Bool.not_true, cond_false]
    rw [he τ ha1 R' _]
    have hcf2 : cf' f args' = some ret := hcf'
    simp only [hcf2]
    rw [hD' τ ha1]
    have hall : (promL (d * 256) ret.res).2.all (fun q => (τ.putL D).free q.1) = (promL (d * 256) ret.res).2.all (fun q => (σ.putL D).free q.1) := by
      have : ∀ l : Dl, (∀ q ∈ l, (τ.putL D).free q.1 = (σ.putL D).free q.1) → l.all (fun q => (τ.putL D).free q.1) = l.all (fun q => (σ.putL D).free q.1) := by
        intro l
        induction l with
        | nil => intro _; rfl
        | cons x l ih => intro hl; simp only [List.all_cons]; rw [hl x (by simp), ih fun q hq => hl q (by simp [hq])]
      exact this _ fun q hq => (ha2.putL D).free (List.mem_map.2 ⟨q, hq, rfl⟩)
    rw [hall, hb]
    simp only [cond_true, putL_putL]

theorem ids1_ids {v : V} {id : Nat} (h : id ∈ v.ids1) : id ∈ v.ids := by
  cases v <;> first | exact h | simp [V.ids1] at h

theorem pullV_loc {σ0 : St} {used : List (Nat × Nat)} {n : Nat} {v : V} {kk : St → Nat → List (Nat × Nat × Nat × Nat) → Option R} (h : pullV σ0 σ n used v kk = some r) : ∃ (D : Dl) (id : Nat) (lg : List (Nat × Nat × Nat × Nat)), kk (σ.putL D) id lg = some r ∧ (∀ q ∈ D, ∃ o : VO, q.2 = some o ∧ o.box = false) ∧ (id ∈ v.ids1 ∨ id ∈ D.map (·.1)) ∧ (∀ q ∈ lg, q.1 ∈ D.map (·.1) ∧ q.2.1 ∈ D.map (·.1)) ∧
    ∀ τ0 τ, Agree σ0 τ0 v.ids1 → Agree σ τ (v.ids1 ++ D.map (·.1)) → ∀ (R' : Type) (k' : St → Nat → List (Nat × Nat × Nat × Nat) → Option R'), pullV τ0 τ n used v k' = k' (τ.putL D) id lg := by
  unfold pullV at h
  split at h
  · rename_i id
    exact ⟨[], id, [], h, (fun q hq => by cases hq), .inl (by simp [V.ids1]), (fun q hq => by cases hq), fun τ0 τ h0 ha R' k' => rfl⟩
  · rename_i sz fl c m g
    have hq := bif_some h; clear h
    obtain ⟨hb, h⟩ := hq
    refine ⟨[(n, some ⟨false, .dp, sz, fl, m, g, 0⟩)], n, [], h, (fun q hq => ?_), .inr (by simp), (fun q hq => by cases hq), fun τ0 τ h0 ha R' k' => ?_⟩
    · have hq := List.mem_singleton.1 hq
      subst hq; exact ⟨_, rfl, rfl⟩
    · have e : τ.free n = σ.free n := ha.free (by simp)
      unfold pullV
      simp only [e, hb, cond_true]
      rfl
  · rename_i _ _ _ A ver i j _ _
    cases ho0 : σ0.obj A with
    | none => rw [ho0] at h; cases h
    | some oA0 =>
    cases ho : σ.obj A with
    | none => rw [ho0, ho] at h; cases h
    | some oA =>
      rw [ho0, ho] at h
      simp only at h
      obtain ⟨hb, h⟩ := bif_some h
      split at h
      · rename_i sz fl cap' src' m g hcell
        refine ⟨[(n, some ⟨false, .dp, sz, fl, m, g, 0⟩), (A, some (holeAt oA i j .hole (oA.ver + 1)))], n, [(n, A, i, j)], h, (fun q hq => ?_), .inr (by simp), (fun q hq => ?_), fun τ0 τ h0 ha R' k' => ?_⟩
        · rcases List.mem_cons.1 hq with rfl | hq
          · exact ⟨_, rfl, rfl⟩
          · have hq := List.mem_singleton.1 hq
            subst hq; exact ⟨_, rfl, rfl⟩
        · have : q = (n, A, i, j) := by simpa using hq
          subst this; simp
        · have e : τ.free n = σ.free n := ha.free (by simp)
          have e2 : τ.obj A = some oA := by rw [ha.obj (by simp)]; exact ho
          have e3 : τ0.obj A = some oA0 := by rw [h0.obj (by simp [V.ids1])]; exact ho0
          unfold pullV
          simp only [e2, e3, e, hb, cond_true, hcell]
          rfl
      · cases h
  · cases h

theorem slotV_ids {args : List V} {s : Slot} : ∀ id ∈ (slotV args s).ids1, id ∈ args.flatMap V.ids := by
  intro id hid
  obtain ⟨p, j⟩ := s
  have mem : ∀ p id, id ∈ (cellAt args p).ids → id ∈ args.flatMap V.ids := fun p id h => by
    unfold cellAt at h
    split at h
    · rename_i c hc; exact List.mem_flatMap.2 ⟨c, List.mem_of_getElem? hc, h⟩
    · simp [V.ids, V.ids1] at h
  cases j with
  | none => exact mem p id (ids1_ids hid)
  | some j =>
    simp only [slotV] at hid
    split at hid
    · rename_i cs hcs
      refine mem p id ?_
      rw [hcs]
      unfold cellAt at hid
      split at hid
      · rename_i c hc
        exact List.mem_flatMap.2 ⟨c, List.mem_of_getElem? hc, hid⟩
      · simp [V.ids1] at hid
    · simp [V.ids1] at hid

theorem pullG_loc {σ0 : St} {args : List V} : ∀ (ms : List Slot) (n : Nat) (used : List (Nat × Nat)) (σ : St) (kk : St → List Nat → List (Nat × Nat × Nat × Nat) → Option R), pullG σ0 σ n used args ms kk = some r → ∃ (D : Dl) (ids : List Nat) (lg : List (Nat × Nat × Nat × Nat)), kk (σ.putL D) ids lg = some r ∧ (∀ q ∈ D, ∃ o : VO, q.2 = some o ∧ o.box = false) ∧ (∀ id ∈ ids, id ∈ args.flatMap V.ids ∨ id ∈ D.map (·.1)) ∧ (∀ q ∈ lg, q.1 ∈ D.map (·.1) ∧ q.2.1 ∈ D.map (·.1)) ∧
    ∀ τ0 τ, Agree σ0 τ0 (args.flatMap V.ids) → Agree σ τ (args.flatMap V.ids ++ D.map (·.1)) → ∀ (R' : Type) (k' : St → List Nat → List (Nat × Nat × Nat × Nat) → Option R'), pullG τ0 τ n used args ms k' = k' (τ.putL D) ids lg
  | [], n, used, σ, kk, h => ⟨[], [], [], h, (fun q hq => by cases hq), (fun q hq => by cases hq), (fun q hq => by cases hq), fun τ0 τ h0 ha R' k' => rfl⟩
  | s :: ms, n, used, σ, kk, h => by
    unfold pullG at h
    obtain ⟨D, id, lg, h, b1, i1, l1, e1⟩ := pullV_loc h
    obtain ⟨D2, ids, lg2, h, b2, i2, l2, e2⟩ := pullG_loc ms (n + 1) _ _ _ h
    refine ⟨D2 ++ D, id :: ids, lg ++ lg2, by rw [putL_putL] at h; exact h, fun q hq => (List.mem_append.1 hq).elim (b2 q) (b1 q), fun id' hid => ?_, fun q hq => ?_, fun τ0 τ h0 ha R' k' => ?_⟩
    · rcases List.mem_cons.1 hid with rfl | hid
      · exact i1.imp (slotV_ids id') fun h => by rw [List.map_append]; exact List.mem_append_right _ h
      · exact (i2 id' hid).imp (fun h => h) fun h => by rw [List.map_append]; exact List.mem_append_left _ h
    · rw [List.map_append]
      rcases List.mem_append.1 hq with hq | hq
      · exact ⟨List.mem_append_right _ (l1 q hq).1, List.mem_append_right _ (l1 q hq).2⟩
      · exact ⟨List.mem_append_left _ (l2 q hq).1, List.mem_append_left _ (l2 q hq).2⟩
    · rw [List.map_append] at ha
      unfold pullG
      rw [e1 τ0 τ (h0.mono slotV_ids) (ha.mono fun id' hid => ?_), e2 τ0 _ h0 ((ha.mono fun id' hid => ?_).putL D), putL_putL]
      · rcases List.mem_append.1 hid with h | h
        · exact List.mem_append_left _ h
        · exact List.mem_append_right _ (List.mem_append_left _ h)
      · rcases List.mem_append.1 hid with h | h
        · exact List.mem_append_left _ (slotV_ids id' h)
        · exact List.mem_append_right _ (List.mem_append_right _ h)

theorem pullL_loc {args : List V} (ms : List Slot) (n : Nat) (σ : St) (kk : St → List Nat → List (Nat × Nat × Nat × Nat) → Option R) (h : pullL σ n args ms kk = some r) : ∃ (D : Dl) (ids : List Nat) (lg : List (Nat × Nat × Nat × Nat)), kk (σ.putL D) ids lg = some r ∧ (∀ q ∈ D, ∃ o : VO, q.2 = some o ∧ o.box = false) ∧ (∀ id ∈ ids, id ∈ args.flatMap V.ids ∨ id ∈ D.map (·.1)) ∧ (∀ q ∈ lg, q.1 ∈ D.map (·.1) ∧ q.2.1 ∈ D.map (·.1)) ∧
    ∀ τ, Agree σ τ (args.flatMap V.ids ++ D.map (·.1)) → ∀ (R' : Type) (k' : St → List Nat → List (Nat × Nat × Nat × Nat) → Option R'), pullL τ n args ms k' = k' (τ.putL D) ids lg := by
  obtain ⟨D, ids, lg, h1, h2, h3, h4, h5⟩ := pullG_loc ms n [] σ kk h
  exact ⟨D, ids, lg, h1, h2, h3, h4, fun τ ha R' k' => h5 τ τ (ha.mono fun id hid => List.mem_append_left _ hid) ha R' k'⟩

theorem treesL_loc : ∀ (ids : List Nat) (kk : List V → Option R), treesL σ ids kk = some r → ∃ trees, kk trees = some r ∧ ∀ τ, Agree σ τ ids → ∀ (R' : Type) (k' : List V → Option R'), treesL τ ids k' = k' trees
  | [], kk, h => ⟨[], h, fun τ ha R' k' => rfl⟩
  | id :: ids, kk, h => by
    unfold treesL at h
    cases ho : σ.obj id with
    | none => rw [ho] at h; cases h
    | some o =>
      rw [ho] at h
      simp only at h
      obtain ⟨hb, h⟩ := bif_some h
      obtain ⟨trees, h, he⟩ := treesL_loc ids _ h
      refine ⟨_, h, fun τ ha R' k' => ?_⟩
      have e : τ.obj id = some o := by rw [ha.obj (by simp)]; exact ho
      unfold treesL
      simp only [e, hb, cond_true]
      exact he τ (ha.mono fun id' hid => by simp [hid]) R' _

theorem backL_loc : ∀ (ids : List Nat) (vs : List V) (σ : St), backL σ ids vs kσ = some r → ∃ D : Dl, kσ (σ.putL D) = some r ∧ (∀ q ∈ D, q.1 ∈ ids) ∧ ∀ τ, Agree σ τ ids → ∀ (R' : Type) (k' : St → Option R'), backL τ ids vs k' = k' (τ.putL D)
  | [], [], σ, h => ⟨[], h, (fun q hq => by cases hq), fun τ ha R' k' => rfl⟩
  | [], v :: vs, σ, h => by cases h
  | id :: ids, [], σ, h => by cases h
  | id :: ids, v :: vs, σ, h => by
    cases v with
    | sl sz fl cap src n g =>
      simp only [backL] at h
      cases ho : σ.obj id with
      | none => rw [ho] at h; cases h
      | some o =>
        rw [ho] at h
        simp only at h
        obtain ⟨hb, h⟩ := bif_some h
        obtain ⟨D, h, h1, h2⟩ := backL_loc ids vs _ h
        refine ⟨D ++ [(id, some ⟨false, .dp, o.sz, fl, n, g, o.ver + 1⟩)], by rw [← putL_one, putL_putL] at h; exact h, fun q hq => ?_, fun τ ha R' k' => ?_⟩
        · rcases List.mem_append.1 hq with hq | hq
          · exact List.mem_cons_of_mem _ (h1 q hq)
          · have hq := List.mem_singleton.1 hq
            subst hq; simp
        · have e : τ.obj id = some o := by rw [ha.obj (by simp)]; exact ho
          simp only [backL, e, hb, cond_true]
          rw [h2 _ ((ha.mono fun id' hid => by simp [hid]).putO id _) R' k', ← putL_one, putL_putL]
    | _ => cases h

theorem pushL_loc : ∀ (lg : List (Nat × Nat × Nat × Nat)) (σ : St), pushL σ lg kσ = some r → ∃ D : Dl, kσ (σ.putL D) = some r ∧ (∀ q ∈ D, ∃ p ∈ lg, q.1 = p.1 ∨ q.1 = p.2.1) ∧ ∀ τ, (∀ p ∈ lg, Agree σ τ [p.1, p.2.1]) → ∀ (R' : Type) (k' : St → Option R'), pushL τ lg k' = k' (τ.putL D)
  | [], σ, h => ⟨[], h, (fun q hq => by cases hq), fun τ ha R' k' => rfl⟩
  | (n, A, i, j) :: lg, σ, h => by
    simp only [pushL] at h
    cases hn : σ.obj n with
    | none => rw [hn] at h; cases h
    | some p =>
      cases ho : σ.obj A with
      | none => rw [hn, ho] at h; cases h
      | some o =>
        rw [hn, ho] at h
        simp only at h
        obtain ⟨hb, h⟩ := bif_some h
        obtain ⟨D, h, h1, h2⟩ := pushL_loc lg _ h
        refine ⟨D ++ [(A, some (holeAt o i j (.sl p.sz p.fl none none p.n p.get) (o.ver + 1)))] ++ [(n, none)], by rw [← putL_one, ← putL_one, putL_putL, putL_putL] at h; exact h, fun q hq => ?_, fun τ ha R' k' => ?_⟩
        · rcases List.mem_append.1 hq with hq | hq
          · rcases List.mem_append.1 hq with hq | hq
            · obtain ⟨p', hp', e⟩ := h1 q hq
              exact ⟨p', List.mem_cons_of_mem _ hp', e⟩
            · have hq := List.mem_singleton.1 hq
              subst hq; exact ⟨(n, A, i, j), by simp, .inr rfl⟩
          · have hq := List.mem_singleton.1 hq
            subst hq; exact ⟨(n, A, i, j), by simp, .inl rfl⟩
        · have ha0 := ha (n, A, i, j) (by simp)
          have e : τ.obj n = some p := by rw [ha0.obj (by simp)]; exact hn
          have e2 : τ.obj A = some o := by rw [ha0.obj (by simp)]; exact ho
          simp only [pushL, e, e2, hb, cond_true]
          rw [h2 _ (fun p' hp' => ((ha p' (by simp [hp'])).putO n none).putO A _) R' k', ← putL_one, ← putL_one, putL_putL, putL_putL]

/-- What is blanked looks at no more. -/
theorem blanks_ids {args : List V} {ms : List Slot} {D : Dl} (hD : ∀ q ∈ D, ∃ o : VO, q.2 = some o ∧ o.box = false) : ∀ id ∈ (blanks args ms).flatMap (idsIn (σ.putL D)), id ∈ args.flatMap (idsIn σ) := by
  intro id hid
  obtain ⟨v', hv', hid⟩ := List.mem_flatMap.1 hid
  obtain ⟨i, hi⟩ := List.getElem?_of_mem hv'
  have lenB : (blanks args ms).length = args.length := fillA_len _ _ _
  have hlt : i < args.length := by rw [← lenB]; exact (List.getElem?_eq_some_iff.1 hi).1
  have e : cellAt (blanks args ms) i = fill1 (lkS ms (ms.map fun _ => V.hole)) (0 + i) (cellAt args i) := fillA_at _ 0 args i hlt
  have e0 : cellAt (blanks args ms) i = v' := by simp [cellAt, hi]
  have hole : ∀ s v, lkS ms (ms.map fun _ => V.hole) s = some v → v = .hole := fun s v hv => by
    obtain ⟨q, h1, h2⟩ := lkS_some hv
    rw [List.getElem?_map, h1] at h2
    simpa using h2.symm
  have sub : ∀ id ∈ v'.ids, id ∈ (cellAt args i).ids := by
    rw [← e0, e]
    unfold fill1
    intro id hid
    split at hid
    · rename_i v hv; rw [hole _ _ hv] at hid; simp [V.ids, V.ids1] at hid
    · split at hid
      · rename_i cs hcs
        rw [hcs]
        obtain ⟨c, hc, hid⟩ := List.mem_flatMap.1 (show id ∈ (fillC _ 0 cs).flatMap V.ids1 from hid)
        obtain ⟨q, hq⟩ := List.getElem?_of_mem hc
        have hq' : q < cs.length := by have := (List.getElem?_eq_some_iff.1 hq).1; rwa [fillC_len] at this
        have e3 := fillC_at (fun j => lkS ms (ms.map fun _ => V.hole) (0 + i, some j)) 0 cs q hq'
        have e4 : cellAt (fillC (fun j => lkS ms (ms.map fun _ => V.hole) (0 + i, some j)) 0 cs) q = c := by unfold cellAt; rw [hq]
        rw [e4] at e3
        cases hl : lkS ms (ms.map fun _ => V.hole) (0 + i, some (0 + q)) with
        | some v => rw [hl, hole _ _ hl] at e3; rw [e3] at hid; simp [V.ids1] at hid
        | none =>
          rw [hl] at e3
          rw [e3] at hid
          refine List.mem_flatMap.2 ⟨cellAt cs q, ?_, hid⟩
          simp [cellAt, hq']
      · exact hid
  have hin : cellAt args i ∈ args := by simp [cellAt, hlt]
  refine List.mem_flatMap.2 ⟨_, hin, ?_⟩
  unfold idsIn at hid ⊢
  rcases List.mem_append.1 hid with h | h
  · exact List.mem_append_left _ (sub _ h)
  · obtain ⟨q, hq, hid⟩ := List.mem_flatMap.1 h
    refine List.mem_append_right _ (List.mem_flatMap.2 ⟨q, sub _ hq, ?_⟩)
    have lk : look (σ.putL D).objs q = match look D q with | some x => some x | none => look σ.objs q := by rw [show (σ.putL D).objs = D ++ σ.objs from rfl, look_append]; cases look D q <;> rfl
    cases hl : look D q with
    | none =>
      rw [hl] at lk
      have : (σ.putL D).obj q = σ.obj q := by simp only [St.obj, lk]
      rw [this] at hid; exact hid
    | some y =>
      rw [hl] at lk
      have hm : (q, y) ∈ D := by
        have key : ∀ (l : Dl), look l q = some y → (q, y) ∈ l := by
          intro l
          induction l with
          | nil => intro h; cases h
          | cons a l ih =>
            obtain ⟨a1, a2⟩ := a
            intro h
            rw [look_cons] at h
            split at h
            · rename_i e; cases h; subst e; simp
            · exact List.mem_cons_of_mem _ (ih h)
        exact key D hl
      obtain ⟨o, ho, hbx⟩ := hD _ hm
      have ho : y = some o := ho
      subst ho
      have : (σ.putL D).obj q = some o := by simp only [St.obj, lk]
      rw [this] at hid
      simp only [hbx, cond_false] at hid
      simp at hid

theorem callW_loc {cf : FuncId → List V → Option Ret} {d : Nat} {dst : Option Nat} {f : FuncId} {ts : List Nat} {args : List V} (h : callW E cf σ d dst f ts args kσ = some r) : ∃ (D : Dl) (u : V) (e : FuncId × List V × Ret), kσ ((σ.putL D).put dst u) = some r ∧ cf e.1 e.2.1 = some e.2.2 ∧
    ∀ cf' : FuncId → List V → Option Ret, cf' e.1 e.2.1 = some e.2.2 → ∀ τ, Agree σ τ (args.flatMap (idsIn σ) ++ D.map (·.1)) → ∀ (R' : Type) (k' : St → Option R'), callW E cf' τ d dst f ts args k' = k' ((τ.putL D).put dst u) := by
  unfold callW at h
  obtain ⟨D1, ids, lg, h, b1, i1, l1, e1⟩ := pullL_loc _ _ _ _ h
  obtain ⟨hb, h⟩ := bif_some h
  obtain ⟨args', h, e2⟩ := argsC_loc _ _ _ h
  obtain ⟨trees, h, e3⟩ := treesL_loc _ _ h
  cases hcf : cf f (fillSlots args' (E.M f) trees) with
  | none => rw [hcf] at h; cases h
  | some ret =>
    rw [hcf] at h
    simp only at h
    obtain ⟨hdp, h⟩ := bif_some h
    obtain ⟨D2, h, k2, e4⟩ := backL_loc _ _ _ h
    obtain ⟨D3, h, k3, e5⟩ := pushL_loc _ _ h
    obtain ⟨hfr, h⟩ := bif_some h
    rw [putL_putL, putL_putL, putL_putL] at h
    refine ⟨(promL (d * 256) ret.res).2 ++ D3 ++ D2 ++ D1, _, (f, fillSlots args' (E.M f) trees, ret), h, hcf, fun cf' hcf' τ ha R' k' => ?_⟩
    simp only [List.map_append, List.append_assoc] at ha
    have hal : ∀ id, id ∈ args.flatMap V.ids → id ∈ args.flatMap (idsIn σ) := fun id hid => by
      obtain ⟨v, hv, hid⟩ := List.mem_flatMap.1 hid
      exact List.mem_flatMap.2 ⟨v, hv, mem_idsIn hid⟩
    have hA : Agree σ τ (args.flatMap V.ids ++ D1.map (·.1)) := ha.mono fun id hid => by
      rcases List.mem_append.1 hid with h | h
      · exact List.mem_append_left _ (hal id h)
      · exact List.mem_append_right _ (List.mem_append_right _ (List.mem_append_right _ (List.mem_append_right _ h)))
    have hB : Agree (σ.putL D1) (τ.putL D1) ((blanks args (E.M f)).flatMap (idsIn (σ.putL D1))) := (ha.mono fun id hid => List.mem_append_left _ (blanks_ids b1 id hid)).putL D1
    have hI : Agree (σ.putL D1) (τ.putL D1) ids := (hA.mono fun id hid => by
      rcases i1 id hid with h | h
      · exact List.mem_append_left _ h
      · exact List.mem_append_right _ h).putL D1
    unfold callW
    rw [e1 τ hA]
    have hc : (distinct ids && (((blanks args (E.M f)).flatMap (idsIn (τ.putL D1))).all fun a => !memL ids a) && (lg.all fun q => !memL ids q.2.1)) = true := by rw [flat_agree hB]; exact hb
    simp only [hc, cond_true]
    rw [e2 _ hB, e3 _ hI]
    have hcf2 : cf' f (fillSlots args' (E.M f) trees) = some ret := hcf'
    simp only [hcf2, hdp, cond_true]
    rw [e4 _ hI, e5 _ (fun p hp => ?_)]
    · have hall : (promL (d * 256) ret.res).2.all (fun q => (((τ.putL D1).putL D2).putL D3).free q.1) = (promL (d * 256) ret.res).2.all (fun q => (((σ.putL D1).putL D2).putL D3).free q.1) := by
        have : ∀ l : Dl, (∀ q ∈ l, (((τ.putL D1).putL D2).putL D3).free q.1 = (((σ.putL D1).putL D2).putL D3).free q.1) → l.all (fun q => (((τ.putL D1).putL D2).putL D3).free q.1) = l.all (fun q => (((σ.putL D1).putL D2).putL D3).free q.1) := by
          intro l
          induction l with
          | nil => intro _; rfl
          | cons x l ih => intro hl; simp only [List.all_cons]; rw [hl x (by simp), ih fun q hq => hl q (by simp [hq])]
        have ha2 : Agree σ τ ((promL (d * 256) ret.res).2.map (·.1)) := ha.mono fun id hid => List.mem_append_right _ (List.mem_append_left _ hid)
        exact this _ fun q hq => (((ha2.putL D1).putL D2).putL D3).free (List.mem_map.2 ⟨q, hq, rfl⟩)
      show (bif ((promL (d * 256) ret.res).2.all fun q => (((τ.putL D1).putL D2).putL D3).free q.1) && distinct ((promL (d * 256) ret.res).2.map (·.1)) then _ else _) = _
      rw [hall, hfr]
      simp only [cond_true, putL_putL, List.append_assoc]
    · have hq : Agree σ τ [p.1, p.2.1] := hA.mono fun id hid => by
        have := l1 p hp
        have hid : id = p.1 ∨ id = p.2.1 := by simpa using hid
        rcases hid with rfl | rfl
        · exact List.mem_append_right _ this.1
        · exact List.mem_append_right _ this.2
      exact (hq.putL D1).putL D2

theorem callC_loc {cf : FuncId → List V → Option Ret} {d : Nat} {dst : Option Nat} {f : FuncId} {ts : List Nat} {args : List V} (h : callC E cf σ d dst f ts args kσ = some r) : ∃ (D : Dl) (u : V) (e : FuncId × List V × Ret), kσ ((σ.putL D).put dst u) = some r ∧ cf e.1 e.2.1 = some e.2.2 ∧
    ∀ cf' : FuncId → List V → Option Ret, cf' e.1 e.2.1 = some e.2.2 → ∀ τ, Agree σ τ (args.flatMap (idsIn σ) ++ D.map (·.1)) → ∀ (R' : Type) (k' : St → Option R'), callC E cf' τ d dst f ts args k' = k' ((τ.putL D).put dst u) := by
  cases hM : (E.M f).isEmpty with
  | true => exact call0_loc hM h
  | false =>
    unfold callC at h
    rw [hM] at h
    simp only [Bool.not_false, cond_true] at h
    obtain ⟨D, u, e, h1, h2, h3⟩ := callW_loc h
    refine ⟨D, u, e, h1, h2, fun cf' hcf' τ ha R' k' => ?_⟩
    unfold callC
    rw [hM]
    simp only [Bool.not_false, cond_true]
    exact h3 cf' hcf' τ ha R' k'

/-- What an operation looks at. -/
def lookV (σ : St) (v : V) : List Nat := idsIn σ v ++ (match v with | .fn _ cs => cs.flatMap (idsIn σ) | _ => [])
def lookX (σ : St) : Operand → List Nat
  | .tmp t => lookV σ (σ.tmp t)
  | _ => []
def lookO (σ : St) (o : Oper) : List Nat := o.op.operands.toList.flatMap (lookX σ) ++ (match o.dst with | some d => [d * 256] | none => [])

theorem look_ev {x : Operand} {ty : Nat} : ∀ id ∈ lookV σ (E.ev σ ty x), id ∈ lookX σ x := by
  intro id hid
  cases x with
  | tmp t => exact hid
  | const c =>
    exfalso
    have : ∀ (ti : TI) (c : Value), (ofConst ti c).ids = [] ∧ (∀ f cs, ofConst ti c ≠ .fn f cs) := by
      intro ti c
      unfold ofConst
      split <;> exact ⟨rfl, fun f cs e => by cases e⟩
    obtain ⟨h1, h2⟩ := this (E.T ty) c
    have hid : id ∈ lookV σ (ofConst (E.T ty) c) := hid
    unfold lookV idsIn at hid
    rw [h1] at hid
    simp only [List.flatMap_nil, List.append_nil, List.nil_append] at hid
    cases hid
  | global g =>
    exfalso
    have hid : id ∈ lookV σ (match E.G g with | some row => V.pv none row 0 | none => V.dead) := hid
    cases hg : E.G g with
    | none => rw [hg] at hid; simp [lookV, idsIn, V.ids, V.ids1] at hid
    | some row => rw [hg] at hid; simp [lookV, idsIn, V.ids, V.ids1] at hid
  | func f => exfalso; simp [Env.ev, lookV, idsIn, V.ids] at hid

theorem ids_ev {x : Operand} {ty : Nat} : ∀ id ∈ (E.ev σ ty x).ids, id ∈ lookX σ x := fun id hid => look_ev id (List.mem_append_left _ (mem_idsIn hid))
theorem idsIn_ev {x : Operand} {ty : Nat} : ∀ id ∈ idsIn σ (E.ev σ ty x), id ∈ lookX σ x := fun id hid => look_ev id (List.mem_append_left _ hid)

/-- The slots that an operation reads say the same. -/
def SameT (σ τ : St) (o : Oper) : Prop := ∀ x ∈ o.op.operands.toList, ∀ t, x = .tmp t → τ.tmp t = σ.tmp t

theorem SameT.ev {o : Oper} (h : SameT σ τ o) {x : Operand} (hx : x ∈ o.op.operands.toList) (ty : Nat) : E.ev τ ty x = E.ev σ ty x := by
  cases x with
  | tmp t => exact h _ hx t rfl
  | _ => rfl

theorem evs_same : ∀ (xs : List Operand) (ts : List Nat), (∀ x ∈ xs, ∀ ty, E.ev τ ty x = E.ev σ ty x) → evs E τ xs ts = evs E σ xs ts
  | [], ts, _ => by cases ts <;> rfl
  | x :: xs, [], h => by simp only [evs]; rw [h x (by simp), evs_same xs [] fun y hy => h y (by simp [hy])]
  | x :: xs, t :: ts, h => by simp only [evs]; rw [h x (by simp), evs_same xs ts fun y hy => h y (by simp [hy])]

theorem evs_ids : ∀ (xs : List Operand) (ts : List Nat), ∀ id ∈ (evs E σ xs ts).flatMap (idsIn σ), id ∈ xs.flatMap (lookX σ)
  | [], ts, id, h => by cases ts <;> simp [evs] at h
  | x :: xs, [], id, h => by
    simp only [evs, List.flatMap_cons] at h ⊢
    rcases List.mem_append.1 h with h | h
    · exact List.mem_append_left _ (idsIn_ev id h)
    · exact List.mem_append_right _ (evs_ids xs [] id h)
  | x :: xs, t :: ts, id, h => by
    simp only [evs, List.flatMap_cons] at h ⊢
    rcases List.mem_append.1 h with h | h
    · exact List.mem_append_left _ (idsIn_ev id h)
    · exact List.mem_append_right _ (evs_ids xs ts id h)
end Go.Vk
end

section
namespace Go.Vk
open Go
set_option linter.unusedVariables false
set_option linter.unusedSimpArgs false
variable {R : Type} {r : R} {k : V → Option R} {kσ : St → Option R} {E : Env} {σ τ : St} {a b i v : V} {t : Nat}

abbrev Ents := List (FuncId × List V × Ret)
def Has (cf : FuncId → List V → Option Ret) (L : Ents) : Prop := ∀ e ∈ L, cf e.1 e.2.1 = some e.2.2

/-- What an operation does to a state, told once for all states that say the same of what it looks at. -/
structure Acts (E : Env) (cf : FuncId → List V → Option Ret) (o : Oper) (σ : St) (D : Dl) (u : V) : Prop where
  ents : ∃ L : Ents, Has cf L ∧ ∀ cf', Has cf' L → ∀ τ, SameT σ τ o → Agree σ τ (lookO σ o ++ D.map (·.1)) → ∀ (R' : Type) (k' : St → Option R'), opC E cf' o τ k' = k' ((τ.putL D).put o.dst u)

theorem acts_val {cf : FuncId → List V → Option Ret} {o : Oper} {u : V} (h : ∀ cf' τ, SameT σ τ o → Agree σ τ (lookO σ o) → ∀ (R' : Type) (k' : St → Option R'), opC E cf' o τ k' = k' (τ.put o.dst u)) : Acts E cf o σ [] u :=
  ⟨[], (fun e he => by cases he), fun cf' _ τ hs ha R' k' => h cf' τ hs (ha.mono fun id hid => List.mem_append_left _ hid) R' k'⟩
theorem acts_obj {cf : FuncId → List V → Option Ret} {o : Oper} {D : Dl} {u : V} (h : ∀ cf' τ, SameT σ τ o → Agree σ τ (lookO σ o ++ D.map (·.1)) → ∀ (R' : Type) (k' : St → Option R'), opC E cf' o τ k' = k' ((τ.putL D).put o.dst u)) : Acts E cf o σ D u :=
  ⟨[], (fun e he => by cases he), fun cf' _ τ hs ha R' k' => h cf' τ hs ha R' k'⟩

theorem in_look {o : Oper} {x : Operand} (hx : x ∈ o.op.operands.toList) {ty : Nat} : ∀ id ∈ (E.ev σ ty x).ids, id ∈ lookO σ o := fun id hid =>
  List.mem_append_left _ (List.mem_flatMap.2 ⟨x, hx, ids_ev id hid⟩)

theorem callX_loc {cf : FuncId → List V → Option Ret} {o : Oper} {c : Call} (hop : o.op = .call c) (h : callX E cf σ o.dst c kσ = some r) : ∃ (D : Dl) (u : V), kσ ((σ.putL D).put o.dst u) = some r ∧ Acts E cf o σ D u := by
  have hops : ∀ x ∈ c.args.toList, x ∈ o.op.operands.toList := fun x hx => by
    rw [hop]; simp only [Op.operands, Call.operands]
    rw [Array.toList_append]; exact List.mem_append_right _ hx
  have hevs : ∀ τ, SameT σ τ o → evs E τ c.args.toList c.argTypes.toList = evs E σ c.args.toList c.argTypes.toList := fun τ hs => evs_same _ _ fun x hx ty => hs.ev (hops x hx) ty
  have hin : ∀ id ∈ (evs E σ c.args.toList c.argTypes.toList).flatMap (idsIn σ), id ∈ lookO σ o := fun id hid => by
    obtain ⟨x, hx, hid⟩ := List.mem_flatMap.1 (evs_ids _ _ id hid)
    exact List.mem_append_left _ (List.mem_flatMap.2 ⟨x, hops x hx, hid⟩)
  have unf : ∀ (cf' : FuncId → List V → Option Ret) (τ : St) (R' : Type) (k' : St → Option R'), opC E cf' o τ k' = callX E cf' τ o.dst c k' := fun cf' τ R' k' => by unfold opC; rw [hop]
  have val : ∀ u, kσ (σ.put o.dst u) = some r → (∀ cf' τ, SameT σ τ o → Agree σ τ (lookO σ o) → ∀ (R' : Type) (k' : St → Option R'), callX E cf' τ o.dst c k' = k' (τ.put o.dst u)) → ∃ (D : Dl) (u : V), kσ ((σ.putL D).put o.dst u) = some r ∧ Acts E cf o σ D u :=
    fun u h he => ⟨[], u, h, acts_val fun cf' τ hs ha R' k' => by rw [unf]; exact he cf' τ hs ha R' k'⟩
  unfold callX at h
  split at h
  · rename_i hc
    split at h
    · rename_i t s ht hs'
      obtain ⟨hb, h⟩ := bif_some h
      refine val _ h fun cf' τ hs ha R' k' => ?_
      unfold callX; rw [hc]; dsimp only; rw [hevs τ hs, hs', ht]; simp only [hb, cond_true]
    · rename_i t x hns ht hs'
      obtain ⟨hb, h⟩ := bif_some h
      obtain ⟨n, h, he⟩ := lenC_loc h
      refine val _ h fun cf' τ hs ha R' k' => ?_
      have := he τ (ha.mono fun id hid => hin id (by rw [hs']; simp only [List.flatMap_cons, List.flatMap_nil, List.append_nil]; exact mem_idsIn hid)) R' (fun n => k' (τ.put o.dst (.int .i64 n)))
      unfold callX; rw [hc]; dsimp only; rw [hevs τ hs, hs', ht]
      split
      · rename_i h1 h2; cases h2; exact (hns _ rfl).elim
      · rename_i h1 h2; cases h1; cases h2; simp only [hb, cond_true]; exact this
      · rename_i n1 n2; exact (n2 _ _ rfl rfl).elim
    · cases h
  · rename_i hc
    split at h
    · rename_i d t t2 x y hd ht hs'
      obtain ⟨D, u, h, hk, he⟩ := appendC_loc h
      refine ⟨D, u, by rw [hd]; exact h, acts_obj fun cf' τ hs ha R' k' => ?_⟩
      rw [unf]
      unfold callX; rw [hc]; dsimp only; rw [hevs τ hs, hs', ht]; simp only [hd]
      refine he τ (ha.mono fun id hid => List.mem_append_left _ ?_) R' k'
      rcases List.mem_append.1 hid with hid | hid
      · refine hin id ?_
        rw [hs']; simp only [List.flatMap_cons, List.flatMap_nil, List.append_nil]
        rcases List.mem_append.1 hid with hid | hid
        · exact List.mem_append_left _ (mem_idsIn hid)
        · exact List.mem_append_right _ (mem_idsIn hid)
      · exact List.mem_append_right _ (by rw [hd]; exact hid)
    · cases h
  · rename_i hc
    split at h
    · rename_i hs'
      exact val _ h fun cf' τ hs ha R' k' => by unfold callX; rw [hc]; dsimp only; rw [hevs τ hs, hs']
    · cases h
  · rename_i hc
    split at h
    · rename_i hs'
      exact val _ h fun cf' τ hs ha R' k' => by unfold callX; rw [hc]; dsimp only; rw [hevs τ hs, hs']
    · cases h
  · rename_i cl g hc
    split at h
    · rename_i f caps hg
      obtain ⟨D, u, e, h, hcf, he⟩ := callC_loc h
      have hgo : g ∈ o.op.operands.toList := by rw [hop]; simp only [Op.operands, Call.operands]; rw [hc, Array.toList_append]; exact List.mem_append_left _ (by simp)
      refine ⟨D, u, h, ⟨[e], (fun e' he' => by simp at he'; subst he'; exact hcf), fun cf' hL τ hs ha R' k' => ?_⟩⟩
      rw [unf]
      unfold callX; rw [hc]; simp only [hevs τ hs, hs.ev hgo, hg]
      refine he cf' (hL e (by simp)) τ (ha.mono fun id hid => ?_) R' k'
      rcases List.mem_append.1 hid with hid | hid
      · rw [List.flatMap_append] at hid
        rcases List.mem_append.1 hid with hid | hid
        · exact List.mem_append_left _ (hin id hid)
        · refine List.mem_append_left _ (List.mem_append_left _ (List.mem_flatMap.2 ⟨g, hgo, look_ev (E := E) (ty := 0) id ?_⟩))
          rw [hg]; exact List.mem_append_right _ hid
      · exact List.mem_append_right _ hid
    · cases h
  · cases h

theorem opC_loc {cf : FuncId → List V → Option Ret} {o : Oper} (h : opC E cf o σ kσ = some r) : ∃ (D : Dl) (u : V), kσ ((σ.putL D).put o.dst u) = some r ∧ Acts E cf o σ D u := by
  have val : ∀ u, kσ (σ.put o.dst u) = some r → (∀ cf' τ, SameT σ τ o → Agree σ τ (lookO σ o) → ∀ (R' : Type) (k' : St → Option R'), opC E cf' o τ k' = k' (τ.put o.dst u)) → ∃ (D : Dl) (u : V), kσ ((σ.putL D).put o.dst u) = some r ∧ Acts E cf o σ D u :=
    fun u h he => ⟨[], u, h, acts_val he⟩
  unfold opC at h
  split at h
  · rename_i y hop
    have hy : y ∈ o.op.operands.toList := by rw [hop]; simp [Op.operands]
    exact val _ h fun cf' τ hs ha R' k' => by unfold opC; rw [hop]; simp only [hs.ev hy]
  · rename_i y hop
    have hy : y ∈ o.op.operands.toList := by rw [hop]; simp [Op.operands]
    exact val _ h fun cf' τ hs ha R' k' => by unfold opC; rw [hop]; simp only [hs.ev hy]
  · rename_i c a b hop
    have h1 : c ∈ o.op.operands.toList := by rw [hop]; simp [Op.operands]
    have h2 : a ∈ o.op.operands.toList := by rw [hop]; simp [Op.operands]
    have h3 : b ∈ o.op.operands.toList := by rw [hop]; simp [Op.operands]
    obtain ⟨v, h, he⟩ := pickC_loc h
    exact val _ h fun cf' τ hs ha R' k' => by unfold opC; rw [hop]; simp only [hs.ev h1, hs.ev h2, hs.ev h3]; exact he R' _
  · rename_i bo xt y z yt hop
    have h1 : y ∈ o.op.operands.toList := by rw [hop]; simp [Op.operands]
    have h2 : z ∈ o.op.operands.toList := by rw [hop]; simp [Op.operands]
    cases hnil : isNilOp z with
    | true =>
      rw [hnil] at h
      simp only [cond_true] at h
      obtain ⟨v, h, he⟩ := nilEqC_loc h
      exact val _ h fun cf' τ hs ha R' k' => by unfold opC; rw [hop]; simp only [hs.ev h1, hs.ev h2, hnil, cond_true]; exact he R' _
    | false =>
      rw [hnil] at h
      simp only [cond_false] at h
      obtain ⟨v, h, he⟩ := binX_loc h
      exact val _ h fun cf' τ hs ha R' k' => by unfold opC; rw [hop]; simp only [hs.ev h1, hs.ev h2, hnil, cond_false]; exact he R' _
  · rename_i uo xt y hop
    have h1 : y ∈ o.op.operands.toList := by rw [hop]; simp [Op.operands]
    obtain ⟨v, h, he⟩ := unC_loc h
    exact val _ h fun cf' τ hs ha R' k' => by unfold opC; rw [hop]; simp only [hs.ev h1]; exact he R' _
  · rename_i s t y hop
    have h1 : y ∈ o.op.operands.toList := by rw [hop]; simp [Op.operands]
    obtain ⟨v, h, he⟩ := convC_loc h
    exact val _ h fun cf' τ hs ha R' k' => by unfold opC; rw [hop]; simp only [hs.ev h1]; exact he R' _
  · rename_i y i hop
    have h1 : y ∈ o.op.operands.toList := by rw [hop]; simp [Op.operands]
    obtain ⟨v, h, he⟩ := extractC_loc h
    exact val _ h fun cf' τ hs ha R' k' => by unfold opC; rw [hop]; simp only [hs.ev h1]; exact he R' _
  · rename_i t y f hop
    have h1 : y ∈ o.op.operands.toList := by rw [hop]; simp [Op.operands]
    obtain ⟨v, h, he⟩ := fieldV_loc h
    exact val _ h fun cf' τ hs ha R' k' => by unfold opC; rw [hop]; simp only [hs.ev h1]; exact he R' _
  · rename_i t y i hop
    have h1 : y ∈ o.op.operands.toList := by rw [hop]; simp [Op.operands]
    have h2 : i ∈ o.op.operands.toList := by rw [hop]; simp [Op.operands]
    obtain ⟨v, h, he⟩ := strIdx_loc h
    exact val _ h fun cf' τ hs ha R' k' => by unfold opC; rw [hop]; simp only [hs.ev h1, hs.ev h2]; exact he R' _
  · rename_i t parts hop
    obtain ⟨hb, h⟩ := bif_none h
    have he : ∀ τ, SameT σ τ o → (parts.toList.map fun p => (p.1, E.ev τ 0 p.2)) = (parts.toList.map fun p => (p.1, E.ev σ 0 p.2)) := fun τ hs => List.map_congr_left fun p hp => by
      rw [hs.ev (by rw [hop]; simp only [Op.operands]; exact List.mem_map.2 ⟨p, hp, rfl⟩)]
    cases hf : fillCells (E.T t).offs (E.T t).zero (parts.toList.map fun p => (p.1, E.ev σ 0 p.2)) with
    | none => rw [hf] at h; cases h
    | some cs =>
      rw [hf] at h
      exact val _ h fun cf' τ hs ha R' k' => by unfold opC; rw [hop]; simp only [hb, cond_false, he τ hs, hf]
  · rename_i t hop
    obtain ⟨hb, h⟩ := bif_none h
    obtain ⟨q, D, u, hd, h, hk, he⟩ := boxC_loc h
    refine ⟨D, u, h, acts_obj fun cf' τ hs ha R' k' => ?_⟩
    unfold opC; rw [hop]; simp only [hb, cond_false]
    exact he τ (ha.mono fun id hid => List.mem_append_left _ (List.mem_append_right _ (by rw [hd]; exact hid))) R' k'
  · rename_i t y hop
    have h1 : y ∈ o.op.operands.toList := by rw [hop]; simp [Op.operands]
    obtain ⟨hb, h⟩ := bif_none h
    obtain ⟨q, D, u, hd, h, hk, he⟩ := boxC_loc h
    refine ⟨D, u, h, acts_obj fun cf' τ hs ha R' k' => ?_⟩
    unfold opC; rw [hop]; simp only [hb, cond_false, hs.ev h1]
    exact he τ (ha.mono fun id hid => List.mem_append_left _ (List.mem_append_right _ (by rw [hd]; exact hid))) R' k'
  · rename_i t n parts hop
    obtain ⟨hb, h⟩ := bif_none h
    have he0 : ∀ τ, SameT σ τ o → (parts.toList.map fun p => E.ev τ 0 p.2) = (parts.toList.map fun p => E.ev σ 0 p.2) := fun τ hs => List.map_congr_left fun p hp => by
      rw [hs.ev (by rw [hop]; simp only [Op.operands]; exact List.mem_map.2 ⟨p, hp, rfl⟩)]
    obtain ⟨D1, ps, own, h, hk1, he1⟩ := absorbParts_loc _ _ _ _ _ h
    obtain ⟨q, D, u, hd, h, hk, he⟩ := newC_loc h
    refine ⟨D ++ D1, u, by rw [putL_putL] at h; exact h, acts_obj fun cf' τ hs ha R' k' => ?_⟩
    unfold opC; rw [hop]; simp only [hb, cond_false, he0 τ hs]
    have hin : ∀ id ∈ (parts.toList.map fun p => E.ev σ 0 p.2).flatMap V.ids, id ∈ lookO σ o := by
      intro id hid
      obtain ⟨v, hv, hid⟩ := List.mem_flatMap.1 hid
      obtain ⟨p, hp, rfl⟩ := List.mem_map.1 hv
      exact in_look (by rw [hop]; simp only [Op.operands]; exact List.mem_map.2 ⟨p, hp, rfl⟩) id hid
    rw [he1 τ (ha.mono fun id hid => List.mem_append_left _ (hin id hid)) R' _]
    rw [he (τ.putL D1) ((ha.mono fun id hid => List.mem_append_left _ (List.mem_append_right _ (by rw [hd]; exact hid))).putL D1) R' k', putL_putL]
  · rename_i t l c hop
    have h1 : l ∈ o.op.operands.toList := by rw [hop]; simp [Op.operands]
    have h2 : c ∈ o.op.operands.toList := by rw [hop]; simp [Op.operands]
    obtain ⟨kl, n, e1, h⟩ := asInt_loc h
    obtain ⟨kc, m, e2, h⟩ := asInt_loc h
    obtain ⟨h0, h⟩ := if_some h
    obtain ⟨h3, h⟩ := if_some h
    obtain ⟨h4, h⟩ := if_some h
    obtain ⟨q, D, u, hd, h, hk, he⟩ := newC_loc h
    refine ⟨D, u, h, acts_obj fun cf' τ hs ha R' k' => ?_⟩
    unfold opC; rw [hop]; simp only [hs.ev h1, hs.ev h2, e1, e2, asInt, if_pos h0, if_pos h3, if_pos h4]
    exact he τ (ha.mono fun id hid => List.mem_append_left _ (List.mem_append_right _ (by rw [hd]; exact hid))) R' k'
  · rename_i t y hop
    have h1 : y ∈ o.op.operands.toList := by rw [hop]; simp [Op.operands]
    obtain ⟨v, h, he⟩ := loadC_loc h
    exact val _ h fun cf' τ hs ha R' k' => by unfold opC; rw [hop]; simp only [hs.ev h1]; exact he τ (ha.mono (in_look h1)) R' _
  · rename_i t y z hop
    have h1 : y ∈ o.op.operands.toList := by rw [hop]; simp [Op.operands]
    have h2 : z ∈ o.op.operands.toList := by rw [hop]; simp [Op.operands]
    obtain ⟨D, h, hk, he⟩ := storeC_loc h
    refine ⟨D, .dead, h, acts_obj fun cf' τ hs ha R' k' => ?_⟩
    unfold opC; rw [hop]; simp only [hs.ev h1, hs.ev h2]
    exact he τ (ha.mono fun id hid => List.mem_append_left _ ((List.mem_append.1 hid).elim (fun hid => in_look h1 id hid) (fun hid => in_look h2 id hid))) R' _
  · rename_i s y f hop
    have h1 : y ∈ o.op.operands.toList := by rw [hop]; simp [Op.operands]
    obtain ⟨v, h, he⟩ := fieldC_loc h
    exact val _ h fun cf' τ hs ha R' k' => by unfold opC; rw [hop]; simp only [hs.ev h1]; exact he R' _
  · rename_i t y i hop
    have h1 : y ∈ o.op.operands.toList := by rw [hop]; simp [Op.operands]
    have h2 : i ∈ o.op.operands.toList := by rw [hop]; simp [Op.operands]
    obtain ⟨v, h, he⟩ := indexC_loc h
    exact val _ h fun cf' τ hs ha R' k' => by unfold opC; rw [hop]; simp only [hs.ev h1, hs.ev h2]; exact he τ (ha.mono (in_look h1)) R' _
  · rename_i t y lo hi mx hop
    have h1 : y ∈ o.op.operands.toList := by rw [hop]; simp [Op.operands]
    obtain ⟨v, h, he⟩ := sliceC_loc h
    exact val _ h fun cf' τ hs ha R' k' => by
      unfold opC; rw [hop]; simp only [hs.ev h1]
      exact he τ (ha.mono (in_look h1)) (fun x hx => hs.ev (by
        rw [hop]; simp only [Op.operands]
        rcases hx with rfl | rfl | rfl <;> simp) 3) R' _
  · rename_i y hop
    have h1 : y ∈ o.op.operands.toList := by rw [hop]; simp [Op.operands]
    obtain ⟨v, h, he⟩ := nilC_loc h
    exact val _ h fun cf' τ hs ha R' k' => by unfold opC; rw [hop]; simp only [hs.ev h1]; exact he R' _
  · rename_i f first caps hop
    obtain ⟨hb, h⟩ := bif_some h
    exact val _ h fun cf' τ hs ha R' k' => by
      unfold opC; rw [hop]; simp only [hb, cond_true]
      rw [evs_same caps.toList [] fun x hx ty => hs.ev (by rw [hop]; simp only [Op.operands]; simp [hx]) ty]
  · rename_i c hop
    exact callX_loc hop h
  · cases h
end Go.Vk
end

section
namespace Go.Vk
open Go
set_option linter.unusedVariables false
set_option linter.unusedSimpArgs false
variable {R : Type} {r : R} {k : V → Option R} {kσ : St → Option R} {E : Env} {σ τ : St} {a b i v : V} {t : Nat}

theorem Agree.rfl' {ids : List Nat} : Agree σ σ ids := fun _ _ => rfl
theorem SameT.rfl' {o : Oper} : SameT σ σ o := fun _ _ _ _ => rfl

theorem Has.left {cf : FuncId → List V → Option Ret} {L L' : Ents} (h : Has cf (L ++ L')) : Has cf L := fun e he => h e (List.mem_append_left _ he)
theorem Has.right {cf : FuncId → List V → Option Ret} {L L' : Ents} (h : Has cf (L ++ L')) : Has cf L' := fun e he => h e (List.mem_append_right _ he)
theorem Has.app {cf : FuncId → List V → Option Ret} {L L' : Ents} (h : Has cf L) (h' : Has cf L') : Has cf (L ++ L') := fun e he => (List.mem_append.1 he).elim (h e) (h' e)

theorem opC_fin {cf : FuncId → List V → Option Ret} {o : Oper} (h : opC E cf o σ kσ = some r) : ∃ σ', kσ σ' = some r ∧ ∃ L : Ents, Has cf L ∧ ∀ cf', Has cf' L → ∀ (R' : Type) (k' : St → Option R'), opC E cf' o σ k' = k' σ' := by
  obtain ⟨D, u, h, ⟨L, hL, he⟩⟩ := opC_loc h
  exact ⟨_, h, L, hL, fun cf' hc R' k' => he cf' hc σ .rfl' .rfl' R' k'⟩

theorem opsC_fin {cf : FuncId → List V → Option Ret} {nt : Nat} {all : Array Oper} : ∀ (os : List Oper) (σ : St), opsC E cf nt all os σ kσ = some r → ∃ σ', kσ σ' = some r ∧ ∃ L : Ents, Has cf L ∧ ∀ cf', Has cf' L → ∀ (R' : Type) (k' : St → Option R'), opsC E cf' nt all os σ k' = k' σ'
  | [], σ, h => ⟨σ, h, [], (fun e he => by cases he), fun _ _ _ _ => rfl⟩
  | o :: os, σ, h => by
    simp only [opsC] at h
    obtain ⟨hd, h⟩ := bif_none h
    have go : ∀ σ1, opC E cf o σ1 (fun σ' => opsC E cf nt all os σ' kσ) = some r → ∃ σ', kσ σ' = some r ∧ ∃ L : Ents, Has cf L ∧ ∀ cf', Has cf' L → ∀ (R' : Type) (k' : St → Option R'), opC E cf' o σ1 (fun σ' => opsC E cf' nt all os σ' k') = k' σ' := by
      intro σ1 h
      obtain ⟨σ2, h, L, hL, he⟩ := opC_fin h
      obtain ⟨σ3, h, L', hL', he'⟩ := opsC_fin os σ2 h
      exact ⟨σ3, h, L ++ L', hL.app hL', fun cf' hc R' k' => by rw [he cf' hc.left, he' cf' hc.right]⟩
    cases hg : o.guard with
    | none =>
      rw [hg] at h
      obtain ⟨σ', h, L, hL, he⟩ := go σ h
      exact ⟨σ', h, L, hL, fun cf' hc R' k' => by simp only [opsC, hd, cond_false, hg]; exact he cf' hc R' k'⟩
    | some p =>
      obtain ⟨j, want⟩ := p
      rw [hg] at h
      simp only at h
      cases hgt : (all[j]?).bind (·.dst) with
      | none => rw [hgt] at h; cases h
      | some g =>
        rw [hgt] at h
        simp only at h
        cases hv : σ.tmp g with
        | bool b =>
          rw [hv] at h
          simp only at h
          have skip : ∀ σ1, opsC E cf nt all os σ1 kσ = some r → ∃ σ', kσ σ' = some r ∧ ∃ L : Ents, Has cf L ∧ ∀ cf', Has cf' L → ∀ (R' : Type) (k' : St → Option R'), opsC E cf' nt all os σ1 k' = k' σ' := fun σ1 h => opsC_fin os σ1 h
          cases b with
          | true =>
            cases want with
            | true =>
              simp only [cond_true] at h
              obtain ⟨σ', h, L, hL, he⟩ := go _ h
              exact ⟨σ', h, L, hL, fun cf' hc R' k' => by simp only [opsC, hd, cond_false, hg, hgt, hv, cond_true]; exact he cf' hc R' k'⟩
            | false =>
              simp only [cond_true, cond_false] at h
              obtain ⟨σ', h, L, hL, he⟩ := skip _ h
              exact ⟨σ', h, L, hL, fun cf' hc R' k' => by simp only [opsC, hd, cond_false, hg, hgt, hv, cond_true]; exact he cf' hc R' k'⟩
          | false =>
            cases want with
            | true =>
              simp only [cond_true, cond_false] at h
              obtain ⟨σ', h, L, hL, he⟩ := skip _ h
              exact ⟨σ', h, L, hL, fun cf' hc R' k' => by simp only [opsC, hd, cond_false, hg, hgt, hv, cond_true]; exact he cf' hc R' k'⟩
            | false =>
              simp only [cond_false] at h
              obtain ⟨σ', h, L, hL, he⟩ := go _ h
              exact ⟨σ', h, L, hL, fun cf' hc R' k' => by simp only [opsC, hd, cond_false, hg, hgt, hv, cond_true]; exact he cf' hc R' k'⟩
        | tup cs =>
          rw [hv] at h
          cases cs with
          | cons _ _ => cases h
          | nil =>
            simp only at h
            obtain ⟨σ', h, L, hL, he⟩ := opsC_fin os _ h
            exact ⟨σ', h, L, hL, fun cf' hc R' k' => by simp only [opsC, hd, cond_false, hg, hgt, hv]; exact he cf' hc R' k'⟩
        | _ => rw [hv] at h; cases h

abbrev Labs := List (FuncId × List Item × St × Ret)
def HasL (lab : FuncId → List Item → St → Option Ret) (L : Labs) : Prop := ∀ e ∈ L, lab e.1 e.2.1 e.2.2.1 = some e.2.2.2
theorem HasL.left {cf : FuncId → List Item → St → Option Ret} {L L' : Labs} (h : HasL cf (L ++ L')) : HasL cf L := fun e he => h e (List.mem_append_left _ he)
theorem HasL.right {cf : FuncId → List Item → St → Option Ret} {L L' : Labs} (h : HasL cf (L ++ L')) : HasL cf L' := fun e he => h e (List.mem_append_right _ he)
theorem HasL.app {cf : FuncId → List Item → St → Option Ret} {L L' : Labs} (h : HasL cf L) (h' : HasL cf L') : HasL cf (L ++ L') := fun e he => (List.mem_append.1 he).elim (h e) (h' e)

abbrev Draw := (FuncId → List V → Option Ret) → Nat → Array Oper → St → (St → Option Ret) → Option Ret
def DrawFin (dr : Draw) : Prop := ∀ cf rid all σ kσ r, dr cf rid all σ kσ = some r → ∃ σ', kσ σ' = some r ∧ ∃ L : Ents, Has cf L ∧ ∀ cf', Has cf' L → ∀ k', dr cf' rid all σ k' = k' σ'

/-- A result that rests on few answers of the tables. -/
def Rests (T : Tabs) (f : Tabs → Option Ret) (ret : Ret) : Prop := ∃ (Lc : Ents) (Ll : Labs), Has T.call Lc ∧ HasL T.lab Ll ∧ ∀ T', Has T'.call Lc → HasL T'.lab Ll → f T' = some ret

theorem rests_const {T : Tabs} {x : Option Ret} {ret : Ret} (h : x = some ret) : Rests T (fun _ => x) ret := ⟨[], [], (fun e he => by cases he), (fun e he => by cases he), fun _ _ _ => h⟩

theorem goC_fin {cn : Canon} {L : FuncId → Nat → Option (List (Nat × Nat))} {F : Fr} {T : Tabs} {dr : Draw} (hdr : DrawFin dr) : ∀ (n : Nat) (items : List Item) (σ : St) (ret : Ret), goC cn E L F T (dr T.call) n items σ = some ret → Rests T (fun T' => goC cn E L F T' (dr T'.call) n items σ) ret
  | 0, items, σ, ret, h => by cases h
  | n + 1, items, σ, ret, h => by
    have ih := goC_fin (L := L) (F := F) (T := T) (cn := cn) hdr n
    have toL : ∀ (l : Option (List (Nat × Nat))) (items : List Item) (σ : St) (other : Tabs → Option Ret), toLab cn F T l items σ (other T) = some ret → (other T = some ret → Rests T other ret) → Rests T (fun T' => toLab cn F T' l items σ (other T')) ret := by
      intro l items σ other h ho
      unfold toLab at h ⊢
      cases l with
      | none => exact ho h
      | some live =>
        simp only at h ⊢
        cases hc : cn (live ++ F.ws.map fun id => (id, 2)) σ with
        | none => rw [hc] at h; cases h
        | some σ' =>
          rw [hc] at h
          exact ⟨[], [(F.f, items, σ', ret)], (fun e he => by cases he), (fun e he => by simp at he; subst he; exact h), fun T' _ hl => hl (F.f, items, σ', ret) (by simp)⟩
    have arr : ∀ (items : List Item) (σ : St), arrive cn L F T (goC cn E L F T (dr T.call) n) items σ = some ret → Rests T (fun T' => arrive cn L F T' (goC cn E L F T' (dr T'.call) n) items σ) ret := by
      intro items σ h
      unfold arrive at h ⊢
      split at h
      · exact toL _ _ _ (fun T' => goC cn E L F T' (dr T'.call) n _ σ) h (fun h => ih _ _ _ h)
      · exact ih _ _ _ h
    simp only [goC] at h ⊢
    unfold stepC at h ⊢
    split at h
    · exact rests_const h
    · exact arr _ _ h
    · exact arr _ _ h
    · rename_i rid ops drw k
      cases drw with
      | true =>
        simp only [cond_true] at h ⊢
        obtain ⟨σ', h, L1, hL1, he⟩ := hdr _ _ _ _ _ _ h
        obtain ⟨Lc, Ll, h1, h2, h3⟩ := arr _ _ h
        exact ⟨L1 ++ Lc, Ll, hL1.app h1, h2, fun T' hc hl => by show (_ : Option Ret) = some ret; dsimp only; rw [he T'.call hc.left]; exact h3 T' hc.right hl⟩
      | false =>
        simp only [cond_false] at h ⊢
        obtain ⟨σ', h, L1, hL1, he⟩ := opsC_fin _ _ h
        obtain ⟨Lc, Ll, h1, h2, h3⟩ := arr _ _ h
        exact ⟨L1 ++ Lc, Ll, hL1.app h1, h2, fun T' hc hl => by show (_ : Option Ret) = some ret; dsimp only; rw [he T'.call hc.left]; exact h3 T' hc.right hl⟩
    · exact ih _ _ _ h
    · rename_i c x y k
      cases hv : E.ev σ 4 c with
      | bool t =>
        rw [hv] at h
        cases t with
        | true => exact ih _ _ _ h
        | false => exact ih _ _ _ h
      | ub =>
        rw [hv] at h
        obtain ⟨h1, b, h2, hag⟩ := both_some h
        obtain ⟨Lc, Ll, a1, a2, a3⟩ := ih _ _ _ h1
        obtain ⟨Lc', Ll', b1, b2, b3⟩ := ih _ _ _ h2
        exact ⟨Lc ++ Lc', Ll ++ Ll', a1.app b1, a2.app b2, fun T' hc hl => both_of (a3 T' hc.left hl.left) (b3 T' hc.right hl.right) hag⟩
      | _ => rw [hv] at h; cases h
    · exact ih _ _ _ h
    · exact toL _ _ _ (fun _ => none) h (fun h => by cases h)
    · rename_i rid k
      split at h
      · rename_i k' hk
        exact arr _ _ h
      · cases h
    · exact rests_const h
    · exact arr _ _ h
    · exact toL _ _ _ (fun _ => none) h (fun h => by cases h)
    · cases h
end Go.Vk
end

section
namespace Go.Vk
open Go
set_option linter.unusedVariables false
set_option linter.unusedSimpArgs false
variable {R : Type} {r : R} {k : V → Option R} {kσ : St → Option R} {E : Env} {σ τ : St} {a b i v : V} {t : Nat}

theorem enter_fin {Y : Sys} (hdr : ∀ F, DrawFin (Y.draw F)) {T : Tabs} {f : FuncId} {args : List V} {ret : Ret} (h : Y.enter T f args = some ret) : Rests T (fun T' => Y.enter T' f args) ret := by
  unfold Sys.enter at h ⊢
  cases hf : Y.fn f with
  | none => rw [hf] at h; cases h
  | some p =>
    obtain ⟨F, body⟩ := p
    rw [hf] at h
    simp only at h ⊢
    obtain ⟨hb, h⟩ := bif_some h
    rw [hb]
    simp only [cond_true]
    cases hem : entryM F.nt (Y.E.M f) args with
    | none => rw [hem] at h; cases h
    | some σ => rw [hem] at h; exact goC_fin (hdr F) _ _ _ _ h

theorem at_fin {Y : Sys} (hdr : ∀ F, DrawFin (Y.draw F)) {T : Tabs} {f : FuncId} {items : List Item} {ret : Ret} (h : Y.at T f items σ = some ret) : Rests T (fun T' => Y.at T' f items σ) ret := by
  unfold Sys.at at h ⊢
  cases hf : Y.fn f with
  | none => rw [hf] at h; cases h
  | some p =>
    obtain ⟨F, body⟩ := p
    rw [hf] at h
    exact goC_fin (hdr F) _ _ _ _ h

def Tabs.le (T T' : Tabs) : Prop := (∀ f args ret, T.call f args = some ret → T'.call f args = some ret) ∧ ∀ f items σ ret, T.lab f items σ = some ret → T'.lab f items σ = some ret

theorem tabs_step {Y : Sys} (hdr : ∀ F, DrawFin (Y.draw F)) : ∀ n, (Y.tabs n).le (Y.tabs (n + 1))
  | 0 => ⟨(fun _ _ _ h => by cases h), (fun _ _ _ _ h => by cases h)⟩
  | n + 1 => by
    obtain ⟨h1, h2⟩ := tabs_step hdr n
    refine ⟨fun f args ret h => ?_, fun f items σ ret h => ?_⟩
    · obtain ⟨Lc, Ll, a, b, c⟩ := enter_fin hdr (show Y.enter (Y.tabs n) f args = some ret from h)
      exact c _ (fun e he => h1 _ _ _ (a e he)) (fun e he => h2 _ _ _ _ (b e he))
    · obtain ⟨Lc, Ll, a, b, c⟩ := at_fin hdr (show Y.at (Y.tabs n) f items σ = some ret from h)
      exact c _ (fun e he => h1 _ _ _ (a e he)) (fun e he => h2 _ _ _ _ (b e he))

theorem tabs_mono {Y : Sys} (hdr : ∀ F, DrawFin (Y.draw F)) {n m : Nat} (h : n ≤ m) : (Y.tabs n).le (Y.tabs m) := by
  induction h with
  | refl => exact ⟨fun _ _ _ h => h, fun _ _ _ _ h => h⟩
  | step _ ih =>
    obtain ⟨a, b⟩ := tabs_step hdr (Y := Y) _
    exact ⟨fun f args ret h => a _ _ _ (ih.1 _ _ _ h), fun f items σ ret h => b _ _ _ _ (ih.2 _ _ _ _ h)⟩

open Classical in
/-- All that some height of the tower answers. -/
noncomputable def Sys.om (Y : Sys) : Tabs where
  call f args := if h : ∃ ret n, (Y.tabs n).call f args = some ret then some h.choose else none
  lab f items σ := if h : ∃ ret n, (Y.tabs n).lab f items σ = some ret then some h.choose else none

theorem om_call {Y : Sys} (hdr : ∀ F, DrawFin (Y.draw F)) {f : FuncId} {args : List V} {ret : Ret} : Y.om.call f args = some ret ↔ ∃ n, (Y.tabs n).call f args = some ret := by
  simp only [Sys.om]
  constructor
  · intro h
    split at h
    · rename_i hx
      cases h
      exact hx.choose_spec
    · cases h
  · rintro ⟨n, h⟩
    have hx : ∃ ret n, (Y.tabs n).call f args = some ret := ⟨ret, n, h⟩
    rw [dif_pos hx]
    obtain ⟨m, hm⟩ := hx.choose_spec
    have a := (tabs_mono hdr (Nat.le_max_left n m)).1 _ _ _ h
    have b := (tabs_mono hdr (Nat.le_max_right n m)).1 _ _ _ hm
    rw [a] at b
    exact b.symm

theorem om_lab {Y : Sys} (hdr : ∀ F, DrawFin (Y.draw F)) {f : FuncId} {items : List Item} {ret : Ret} : Y.om.lab f items σ = some ret ↔ ∃ n, (Y.tabs n).lab f items σ = some ret := by
  simp only [Sys.om]
  constructor
  · intro h
    split at h
    · rename_i hx
      cases h
      exact hx.choose_spec
    · cases h
  · rintro ⟨n, h⟩
    have hx : ∃ ret n, (Y.tabs n).lab f items σ = some ret := ⟨ret, n, h⟩
    rw [dif_pos hx]
    obtain ⟨m, hm⟩ := hx.choose_spec
    have a := (tabs_mono hdr (Nat.le_max_left n m)).2 _ _ _ _ h
    have b := (tabs_mono hdr (Nat.le_max_right n m)).2 _ _ _ _ hm
    rw [a] at b
    exact b.symm

/-- A finite part of the whole lies at one height. -/
theorem height {Y : Sys} (hdr : ∀ F, DrawFin (Y.draw F)) : ∀ (Lc : Ents) (Ll : Labs), Has Y.om.call Lc → HasL Y.om.lab Ll → ∃ n, Has (Y.tabs n).call Lc ∧ HasL (Y.tabs n).lab Ll
  | [], [], _, _ => ⟨0, (fun e he => by cases he), (fun e he => by cases he)⟩
  | [], e :: Ll, h, h' => by
    obtain ⟨n, a, b⟩ := height hdr [] Ll h fun e' he' => h' e' (by simp [he'])
    obtain ⟨m, hm⟩ := (om_lab hdr).1 (h' e (by simp))
    refine ⟨max n m, (fun e he => by cases he), fun e' he' => ?_⟩
    rcases List.mem_cons.1 he' with rfl | he'
    · exact (tabs_mono hdr (Nat.le_max_right n m)).2 _ _ _ _ hm
    · exact (tabs_mono hdr (Nat.le_max_left n m)).2 _ _ _ _ (b e' he')
  | e :: Lc, Ll, h, h' => by
    obtain ⟨n, a, b⟩ := height hdr Lc Ll (fun e' he' => h e' (by simp [he'])) h'
    obtain ⟨m, hm⟩ := (om_call hdr).1 (h e (by simp))
    refine ⟨max n m, fun e' he' => ?_, fun e' he' => (tabs_mono hdr (Nat.le_max_left n m)).2 _ _ _ _ (b e' he')⟩
    rcases List.mem_cons.1 he' with rfl | he'
    · exact (tabs_mono hdr (Nat.le_max_right n m)).1 _ _ _ hm
    · exact (tabs_mono hdr (Nat.le_max_left n m)).1 _ _ _ (a e' he')

/-- A call is what its body gives. -/
theorem om_enter {Y : Sys} (hdr : ∀ F, DrawFin (Y.draw F)) {f : FuncId} {args : List V} {ret : Ret} (h : Y.enter Y.om f args = some ret) : Y.om.call f args = some ret := by
  obtain ⟨Lc, Ll, a, b, c⟩ := enter_fin hdr h
  obtain ⟨n, a', b'⟩ := height hdr Lc Ll a b
  exact (om_call hdr).2 ⟨n + 1, c (Y.tabs n) a' b'⟩

/-- A named place is what follows it. -/
theorem om_at {Y : Sys} (hdr : ∀ F, DrawFin (Y.draw F)) {f : FuncId} {items : List Item} {ret : Ret} (h : Y.at Y.om f items σ = some ret) : Y.om.lab f items σ = some ret := by
  obtain ⟨Lc, Ll, a, b, c⟩ := at_fin hdr h
  obtain ⟨n, a', b'⟩ := height hdr Lc Ll a b
  exact (om_lab hdr).2 ⟨n + 1, c (Y.tabs n) a' b'⟩

theorem om_sound {Y : Sys} (hY : SysOk Y) (hdr : ∀ F, DrawFin (Y.draw F)) : SoundCall Y.E Y.om.call := fun f args ret h => by
  obtain ⟨n, h⟩ := (om_call hdr).1 h
  exact (sys_sound hY n).1 f args ret h
end Go.Vk
end

section
namespace Go.Vk
open Go
set_option linter.unusedVariables false
set_option linter.unusedSimpArgs false

abbrev Ps := List (Nat × Nat)

/-- A value under new names. -/
def renC (σ : St) (ps : Ps) : V → V
  | .ref id sub => match look ps id, σ.obj id with | some n, some _ => .ref n sub | _, _ => .dead
  | .adr id i j => match look ps id, σ.obj id with | some n, some _ => .adr n i j | _, _ => .dead
  | .sl sz fl _ none n g => .sl sz fl none none n g
  | .sl sz fl _ (some (A, ver, _)) n g => match look ps A, σ.obj A with | some m, some o => bif Nat.beq o.ver ver then .sl sz fl none (some (m, 0, 0, 256)) n g else .dead | _, _ => .dead
  | .pv none row j => .pv none row j
  | .pv (some (A, ver)) row j => match look ps A, σ.obj A with | some m, some o => bif Nat.beq o.ver ver then .pv (some (m, 0)) row j else .dead | _, _ => .dead
  | .int k n => .int k n
  | .bool b => .bool b
  | .str s => .str s
  | .nilp => .nilp
  | .nilf => .nilf
  | .nili => .nili
  | _ => .dead
def renV (σ : St) (ps : Ps) : V → V
  | .agg cs => .agg (cs.map (renC σ ps))
  | .fn f cs => .fn f (cs.map (renC σ ps))
  | v => renC σ ps v

def renO (σ : St) (ps : Ps) (o : VO) : VO := bif o.box then ⟨true, o.st, o.sz, o.fl, o.n, fun _ => (o.get 0).map (renC σ ps), 0⟩ else ⟨false, o.st, o.sz, o.fl, o.n, o.get, 0⟩

def renSt (live : List Nat) (σ : St) (ps : Ps) : St := ⟨live.map fun t => (t, renV σ ps (σ.tmp t)), ps.map fun p => (p.2, match σ.obj p.1 with | some o => some (renO σ ps o) | none => none)⟩

def inv (ps : Ps) (n : Nat) : Option Nat := look (ps.map fun p => (p.2, p.1)) n
def Gh.ren (G : Gh) (ps : Ps) : Gh := ⟨G.F, fun n => match inv ps n with | some id => G.loc id | none => none, fun n => match inv ps n with | some id => G.N id | none => none'⟩

variable {w w' w0 : World} {S0 : SS} {F0 : Set'} {G G' : Gh} {ob ob' : Ob} {v : V} {x : Value} {σ σ' : St} {tm : Array Value} {id : Nat} {o o' : VO} {ps : Ps}

theorem look_mem {α : Type} : ∀ {l : List (Nat × α)} {k : Nat} {x : α}, look l k = some x → (k, x) ∈ l
  | [], k, x, h => by cases h
  | (a, y) :: l, k, x, h => by
    rw [look_cons] at h
    split at h
    · rename_i e; cases h; subst e; simp
    · exact List.mem_cons_of_mem _ (look_mem h)

theorem look_distinct {α : Type} : ∀ {l : List (Nat × α)}, distinct (l.map (·.1)) = true → ∀ {k : Nat} {x : α}, (k, x) ∈ l → look l k = some x
  | [], _, k, x, h => by cases h
  | (a, y) :: l, hd, k, x, h => by
    have hd' : distinct (a :: l.map (·.1)) = true := hd
    obtain ⟨h1, h2⟩ := distinct_cons hd'
    rw [look_cons]
    rcases List.mem_cons.1 h with e | h
    · cases e; rw [if_pos rfl]
    · have : k ≠ a := h1 k (List.mem_map.2 ⟨_, h, rfl⟩)
      rw [if_neg fun e => this e.symm]
      exact look_distinct h2 h

theorem inv_of (hd : distinct (ps.map (·.2)) = true) {a n : Nat} (h : look ps a = some n) : inv ps n = some a := by
  refine look_distinct ?_ (List.mem_map.2 ⟨_, look_mem h, rfl⟩)
  rw [List.map_map]; exact hd
theorem of_inv (hd : distinct (ps.map (·.1)) = true) {a n : Nat} (h : inv ps n = some a) : look ps a = some n := by
  obtain ⟨p, hp, e⟩ := List.mem_map.1 (look_mem h)
  cases e
  exact look_distinct hd hp

def NewOb (σ : St) (ps : Ps) (ob' : Ob) : Prop := ∀ a n, look ps a = some n → ob' n = some (match σ.obj a with | some o => some (renO σ ps o) | none => none)

theorem renO_n : (renO σ ps o).n = o.n ∧ (renO σ ps o).sz = o.sz ∧ (renO σ ps o).box = o.box ∧ (renO σ ps o).st = o.st ∧ (renO σ ps o).fl = o.fl ∧ (renO σ ps o).ver = 0 := by
  unfold renO
  cases o.box <;> exact ⟨rfl, rfl, rfl, rfl, rfl, rfl⟩

theorem renC_ok (hd : distinct (ps.map (·.2)) = true) (hob : NewOb σ ps ob') (h : RepT w G (look σ.objs) v x) : RepT w (G.ren ps) ob' (renC σ ps v) x := by
  have loc : ∀ {a n}, look ps a = some n → (G.ren ps).loc n = G.loc a ∧ (G.ren ps).N n = G.N a := fun {a n} h => by
    simp only [Gh.ren, inv_of hd h]; exact ⟨trivial, trivial⟩
  have leaf : v.leaf = true → renC σ ps v = v → RepT w (G.ren ps) ob' (renC σ ps v) x := fun hl e => by rw [e]; exact .val _ _ (h.leaf hl)
  cases v with
  | ref id sub =>
    simp only [renC]
    cases hn : look ps id with
    | none => exact .dead _
    | some n =>
      cases ho : σ.obj id with
      | none => exact .dead _
      | some o =>
        have hb := hob id n hn
        rw [ho] at hb
        cases h with
        | val _ _ hr => cases hr
        | ref _ _ _ hx hA hr =>
          refine .ref _ _ _ hx (by rw [hb]; simp) fun o' ho' => ?_
          rw [hb] at ho'; cases ho'
          rw [(loc hn).1]
          obtain ⟨e1, e2, e3, _⟩ := renO_n (σ := σ) (ps := ps) (o := o)
          exact (hr o (obj_look.1 ho)).world (.refl w) e1 e2 e3
  | adr id i j =>
    simp only [renC]
    cases hn : look ps id with
    | none => exact .dead _
    | some n =>
      cases ho : σ.obj id with
      | none => exact .dead _
      | some o =>
        have hb := hob id n hn
        rw [ho] at hb
        cases h with
        | val _ _ hr => cases hr
        | adr _ _ _ _ hx hA hr =>
          refine .adr _ _ _ _ hx (by rw [hb]; simp) fun o' ho' => ?_
          rw [hb] at ho'; cases ho'
          obtain ⟨b, off, k1, k2⟩ := hr o (obj_look.1 ho)
          obtain ⟨e1, e2, e3, _⟩ := renO_n (σ := σ) (ps := ps) (o := o)
          exact ⟨b, off, by rw [(loc hn).1]; exact k1, by rw [e2]; exact k2⟩
  | sl sz fl cap src n g =>
    cases src with
    | none =>
      cases h with
      | val _ _ hr => exact .val _ _ hr.retag
    | some s =>
      obtain ⟨A, ver, i, j⟩ := s
      simp only [renC]
      cases hn : look ps A with
      | none => exact .dead _
      | some m =>
        cases ho : σ.obj A with
        | none => exact .dead _
        | some o =>
          simp only
          cases hv : Nat.beq o.ver ver with
          | false => exact .dead _
          | true =>
            simp only [cond_true]
            have hv := Nat.eq_of_beq_eq_true hv
            have hb := hob A m hn
            rw [ho] at hb
            cases h with
            | val _ _ hr => have := hr.nosrc; cases this
            | view _ _ _ _ _ _ _ _ _ _ hx hA hle hr =>
              refine RepT.view _ _ _ m 0 0 256 _ _ _ hx (by rw [hb]; simp) (fun _ _ => Nat.zero_le _) (fun o' ho' _ => ?_) (fun _ _ _ hlt => by omega)
              rw [(loc hn).2]
              exact (hr o (obj_look.1 ho) hv).retag
  | pv src row j =>
    cases src with
    | none =>
      cases h with
      | val _ _ hr => exact .val _ _ hr
    | some s =>
      obtain ⟨A, ver⟩ := s
      simp only [renC]
      cases hn : look ps A with
      | none => exact .dead _
      | some m =>
        cases ho : σ.obj A with
        | none => exact .dead _
        | some o =>
          simp only
          cases hv : Nat.beq o.ver ver with
          | false => exact .dead _
          | true =>
            simp only [cond_true]
            have hv := Nat.eq_of_beq_eq_true hv
            have hb := hob A m hn
            rw [ho] at hb
            cases h with
            | val _ _ hr => exact .val _ _ hr.retagp
            | vpv _ _ _ _ _ hx hA hle hr =>
              refine .vpv _ _ _ _ _ hx (by rw [hb]; simp) (fun _ _ => Nat.zero_le _) fun o' ho' _ => ?_
              rw [(loc hn).2]
              exact hr o (obj_look.1 ho) hv
  | int k n => exact leaf rfl rfl
  | bool b => exact leaf rfl rfl
  | str s => exact leaf rfl rfl
  | nilp => exact leaf rfl rfl
  | nilf => exact leaf rfl rfl
  | nili => exact leaf rfl rfl
  | fn f cs => exact .dead _
  | agg cs => exact .dead _
  | tup cs => exact .dead _
  | dead => exact .dead _
  | ub => exact .dead _
  | hole => exact .dead _

theorem cellAt_map (f : V → V) (cs : List V) {i : Nat} (hi : i < cs.length) : cellAt (cs.map f) i = f (cellAt cs i) := by simp [cellAt, hi]

theorem renV_ok (hd : distinct (ps.map (·.2)) = true) (hob : NewOb σ ps ob') (h : RepT w G (look σ.objs) v x) : RepT w (G.ren ps) ob' (renV σ ps v) x := by
  cases v with
  | agg cs =>
    obtain ⟨xs, rfl, hl, hc⟩ := h.agg_inv
    refine .agg _ _ (by simpa using hl) fun i hi => ?_
    have hi : i < cs.length := by simpa using hi
    rw [cellAt_map _ _ hi]; exact renC_ok hd hob (hc i hi)
  | fn f cs =>
    obtain ⟨xs, rfl, hl, hc⟩ := h.fn_inv
    refine .fn _ _ _ (by simpa using hl) fun i hi => ?_
    have hi : i < cs.length := by simpa using hi
    rw [cellAt_map _ _ hi]; exact renC_ok hd hob (hc i hi)
  | _ => exact renC_ok hd hob h

theorem renSt_objs (hd : distinct (ps.map (·.2)) = true) {live : List Nat} : NewOb σ ps (look (renSt live σ ps).objs) := by
  intro a n h
  refine look_distinct ?_ (List.mem_map.2 ⟨(a, n), look_mem h, rfl⟩)
  show distinct (((ps.map fun p => (p.2, match σ.obj p.1 with | some o => some (renO σ ps o) | none => none))).map (·.1)) = true
  rw [List.map_map]; exact hd

theorem look_live (f : Nat → V) : ∀ (live : List Nat) (t : Nat), look (live.map fun t => (t, f t)) t = some (f t) ∨ look (live.map fun t => (t, f t)) t = none
  | [], t => .inr rfl
  | a :: l, t => by
    rw [List.map_cons, look_cons]
    by_cases h : a = t
    · subst h; rw [if_pos rfl]; exact .inl rfl
    · rw [if_neg h]; exact look_live f l t

/-- The same state under new names: what isn't named is forgotten. -/
theorem Inv.ren (h : Inv w0 S0 F0 G σ tm w) {live : List Nat} (hd : distinct (ps.map (·.2)) = true) (hd1 : distinct (ps.map (·.1)) = true) (hkeep : ∀ p ∈ S0.keep, ∃ id, p.1 = .ref id none ∧ look ps id = some id) : Inv w0 S0 F0 (G.ren ps) (renSt live σ ps) tm w := by
  have hob := renSt_objs (σ := σ) (live := live) hd
  have loc : ∀ {a n}, look ps a = some n → (G.ren ps).loc n = G.loc a ∧ (G.ren ps).N n = G.N a := fun {a n} h => by
    simp only [Gh.ren, inv_of hd h]; exact ⟨trivial, trivial⟩
  have back : ∀ {n o'}, look (renSt live σ ps).objs n = some (some o') → ∃ a o, look ps a = some n ∧ look σ.objs a = some (some o) ∧ o' = renO σ ps o := by
    intro n o' hn
    obtain ⟨p, hp, e⟩ := List.mem_map.1 (look_mem hn)
    cases ho : σ.obj p.1 with
    | none => simp only [ho] at e; cases e
    | some o =>
      simp only [ho] at e
      injection e with e1 e2
      injection e2 with e2
      subst e1
      exact ⟨p.1, o, look_distinct hd1 hp, obj_look.1 ho, e2.symm⟩
  have backN : ∀ {n b}, (G.ren ps).N n b → ∃ a, look ps a = some n ∧ G.N a b := by
    intro n b hb
    simp only [Gh.ren] at hb
    cases hi : inv ps n with
    | none => rw [hi] at hb; exact hb.elim
    | some a => rw [hi] at hb; exact ⟨a, of_inv hd1 hi, hb⟩
  refine ⟨h.base, h.fsub, h.fmine, h.flt, fun t => ?_, fun p hp => ?_, fun n o' hn => ?_, fun n o' b off hn hl hf => ?_, fun n o' n' o'' b off off' hn hn' hl hl' hf => ?_, fun n b hb => ?_, fun n n' b hb hb' => ?_⟩
  · have : (renSt live σ ps).tmp t = renV σ ps (σ.tmp t) ∨ (renSt live σ ps).tmp t = .dead := by
      simp only [St.tmp, renSt]
      rcases look_live (fun t => renV σ ps (σ.tmp t)) live t with e | e
      · left; simp only [St.tmp] at e; rw [e]
      · right; simp only [St.tmp] at e; rw [e]
    rcases this with e | e
    · rw [e]; exact renV_ok hd hob (h.tmps t)
    · rw [e]; exact .dead _
  · obtain ⟨id, e, hid⟩ := hkeep p hp
    have hr := h.keep p hp
    rw [e] at hr ⊢
    cases ho : σ.obj id with
    | some o =>
      have := renC_ok hd hob hr
      simp only [renC, hid, ho] at this
      exact this
    | none =>
      have hb := hob id id hid
      rw [ho] at hb
      cases hr with
      | val _ _ hr => cases hr
      | ref _ _ _ hx hA hr => exact .ref _ _ _ hx (by rw [hb]; simp) fun o' ho' => by rw [hb] at ho'; cases ho'
  · obtain ⟨a, o, ha, ho, rfl⟩ := back hn
    obtain ⟨e1, e2, e3, e4, e5, e6⟩ := renO_n (σ := σ) (ps := ps) (o := o)
    cases h.objs a o ho with
    | null hl hb hn0 => exact .null (by rw [(loc ha).1]; exact hl) (by rw [e3]; exact hb) (by rw [e1]; exact hn0)
    | row b off cs e fr xs hl hb hsz hlen hxs hfl hp hF hc =>
      unfold CellsOk at hc
      cases hbx : o.box with
      | true =>
        rw [hbx] at hc
        obtain ⟨hc1, hc2⟩ := hc
        have hl0 := hlen 0 (by omega)
        have eo : renO σ ps o = ⟨true, o.st, o.sz, o.fl, o.n, fun _ => (o.get 0).map (renC σ ps), 0⟩ := by unfold renO; rw [hbx]; rfl
        rw [eo]
        refine .row b off cs e fr xs (by rw [(loc ha).1]; exact hl) hb hsz (fun i hi => by simpa using hl0) hxs (fun hf i j hi hj => ?_) hp hF ⟨hc1, fun j hj => ?_⟩
        · have hi0 : i = 0 := by have : i < o.n := hi; omega
          subst hi0
          have hj : j < o.sz := hj
          rw [cellAt_map _ _ (by omega)]
          have hlf := hfl hf 0 j (by omega) hj
          generalize cellAt (o.get 0) j = c at hlf
          cases c <;> first | rfl | cases hlf
        · have hj : j < o.sz := hj
          rw [cellAt_map _ _ (by omega)]
          exact renC_ok hd hob (hc2 j hj)
      | false =>
        rw [hbx] at hc
        have eo : renO σ ps o = ⟨false, o.st, o.sz, o.fl, o.n, o.get, 0⟩ := by unfold renO; rw [hbx]; rfl
        rw [eo]
        refine .row b off cs e fr xs (by rw [(loc ha).1]; exact hl) hb hsz hlen hxs hfl hp hF ?_
        unfold CellsOk
        cases hst : o.st with
        | dp =>
          rw [hst] at hc
          obtain ⟨Sr, s1, s2, s3⟩ := hc
          exact ⟨Sr, s1, fun i j y hi hj hy => by rw [(loc ha).2]; exact s2 i j y hi hj hy, s3⟩
        | sh => rw [hst] at hc; exact hc
        | fz => rw [hst] at hc; exact hc
  · obtain ⟨a, o, ha, ho, rfl⟩ := back hn
    rw [(loc ha).1] at hl
    obtain ⟨r1, r2, r3, r4⟩ := h.root a o b off ho hl (by rw [renO_n.2.2.2.1] at hf; exact hf)
    exact ⟨r1, r2, r3, fun n' hb => let ⟨a', _, hb⟩ := backN hb; r4 a' hb⟩
  · obtain ⟨a, o, ha, ho, rfl⟩ := back hn
    obtain ⟨a', o2, ha', ho', rfl⟩ := back hn'
    rw [(loc ha).1] at hl
    rw [(loc ha').1] at hl'
    have := h.rdis a o a' o2 b off off' ho ho' hl hl' (by rw [renO_n.2.2.2.1] at hf; exact hf)
    subst this
    rw [ha] at ha'; cases ha'; rfl
  · obtain ⟨a, _, hb⟩ := backN hb
    exact h.nest a b hb
  · obtain ⟨a, ha, hb⟩ := backN hb
    obtain ⟨a', ha', hb'⟩ := backN hb'
    have := h.ndis a a' b hb hb'
    subst this
    rw [ha] at ha'; cases ha'; rfl
end Go.Vk
end

section
namespace Go.Vk
open Go
set_option linter.unusedVariables false
set_option linter.unusedSimpArgs false

/-- A slot whose nil slice is to be an object of the call's own. -/
def ownNil (t : Nat) (σ : St) : St :=
  match σ.tmp t with
  | .sl sz fl (some c) none n g => bif Nat.beq c 0 && Nat.beq n 0 && σ.free (t * 256 + 255) then (σ.putO (t * 256 + 255) (some ⟨false, .dp, sz, fl, n, g, 0⟩)).put (some t) (.ref (t * 256 + 255) none) else σ
  | _ => σ

def handle (σ : St) : V → Option Nat
  | .ref id _ => match σ.obj id with | some _ => some id | none => none
  | .adr id _ _ => match σ.obj id with | some _ => some id | none => none
  | _ => none
def addP (ps : Ps) (a n : Nat) : Ps := match look ps a with | some _ => ps | none => ps ++ [(a, n)]
def collC (σ : St) (base : Nat) : Nat → List V → Ps → Ps
  | _, [], ps => ps
  | q, c :: cs, ps => collC σ base (q + 1) cs (match handle σ c with | some id => addP ps id (base + q) | none => ps)
def collV (σ : St) (t : Nat) (ps : Ps) : V → Ps
  | .agg cs => collC σ (t * 256 + 128) 0 cs ps
  | .fn _ cs => collC σ (t * 256 + 128) 0 cs ps
  | v => match handle σ v with
    | some id => match σ.obj id with
      | some o => bif o.box then collC σ (t * 256 + 128) 0 (o.get 0) (addP ps id (t * 256 + 255)) else addP ps id (t * 256 + 255)
      | none => ps
    | none => ps

/-- A slot that looks into an object that is forgotten: the object is shared. -/
def unview (ps : Ps) (t : Nat) (σ : St) : St :=
  match σ.tmp t with
  | .sl sz fl cap (some (A, ver, i, j)) n g => match look ps A with
    | some _ => σ
    | none => match downTo σ (some (A, ver)) some with
      | some σ1 => σ1.put (some t) (.sl sz fl none none n g)
      | none => σ
  | .pv (some (A, ver)) row j => match look ps A with
    | some _ => σ
    | none => match downTo σ (some (A, ver)) some with
      | some σ1 => σ1.put (some t) (.pv none row j)
      | none => σ
  | _ => σ

/-- The objects that keep their numbers. -/
def pins : List (Nat × Nat) → Ps
  | [] => []
  | (id, m) :: l => bif Nat.beq m 2 then (id, id) :: pins l else pins l
def slots : List (Nat × Nat) → List Nat
  | [] => []
  | (t, m) :: l => bif Nat.beq m 2 then slots l else t :: slots l

def canon : Canon := fun live σ =>
  let σ := live.foldl (fun σ p => bif Nat.beq p.2 1 then ownNil p.1 σ else σ) σ
  let ps := live.foldl (fun ps p => bif Nat.beq p.2 2 then ps else collV σ p.1 ps (σ.tmp p.1)) (pins live)
  let σ := live.foldl (fun σ p => unview ps p.1 σ) σ
  bif distinct (ps.map (·.2)) && distinct (ps.map (·.1)) then some (renSt (slots live) σ ps) else none

variable {w w' w0 : World} {S0 : SS} {F0 : Set'} {G G' : Gh} {ob ob' : Ob} {v : V} {x : Value} {σ σ' : St} {tm : Array Value} {id : Nat} {o o' : VO} {ps : Ps}

theorem Inv.setTmp (h : Inv w0 S0 F0 G σ tm w) {t : Nat} (hv : RepT w G (look σ.objs) v (tm.getD t undef)) : Inv w0 S0 F0 G (σ.put (some t) v) tm w :=
  ⟨h.base, h.fsub, h.fmine, h.flt, fun t' => by
    rw [tmp_put]
    split
    · rename_i e; subst e; exact hv
    · exact h.tmps t', h.keep, h.objs, h.root, h.rdis, h.nest, h.ndis⟩

theorem ownNil_ok (h : Inv w0 S0 F0 G σ tm w) (t : Nat) : ∃ G', Inv w0 S0 F0 G' (ownNil t σ) tm w := by
  unfold ownNil
  have hr := h.tmps t
  split
  · rename_i sz fl c n g hv
    rw [hv] at hr
    cases hb : (Nat.beq c 0 && Nat.beq n 0 && σ.free (t * 256 + 255)) with
    | false => exact ⟨G, h⟩
    | true =>
      simp only [cond_true]
      simp only [Bool.and_eq_true] at hb
      obtain ⟨⟨h1, h2⟩, h3⟩ := hb
      have h1 := Nat.eq_of_beq_eq_true h1
      have h2 := Nat.eq_of_beq_eq_true h2
      subst h1 h2
      have hx : ∃ a, tm.getD t undef = .slice a 0 0 := by
        generalize tm.getD t undef = x at hr
        cases hr with
        | val _ _ hr =>
          cases hr with
          | nul => exact ⟨_, rfl⟩
          | slF _ _ _ _ _ _ b off c cs e fr xs _ hb hF hcap =>
            rcases hcap with hcap | hcap
            · cases hcap
            · cases hcap; exact ⟨_, rfl⟩
      obtain ⟨a, hx⟩ := hx
      obtain ⟨G', I', r', _, _⟩ := h.layNil (id := t * 256 + 255) (sz := sz) (fl := fl) (g := g) (st := .dp) h3 (n := 0) rfl (by intro e; cases e) a (A0 := none') (fun _ h => h.elim)
      exact ⟨G', I'.setTmp (by rw [hx]; exact r')⟩
  · exact ⟨G, h⟩

theorem unview_ok (h : Inv w0 S0 F0 G σ tm w) (t : Nat) : ∃ G', Inv w0 S0 F0 G' (unview ps t σ) tm w := by
  unfold unview
  have hr := h.tmps t
  split
  · rename_i sz fl cap A ver i j n g hv
    rw [hv] at hr
    split
    · exact ⟨G, h⟩
    · split
      · rename_i σ1 hd
        obtain ⟨σ2, G1, h1, I1, st1, t1, old1, hsrc⟩ := downTo_sound (A0 := none') h hd (fun _ h => h.elim)
        cases h1
        obtain ⟨oA, e1, e2, e3⟩ := hsrc A ver rfl
        refine ⟨G1, I1.setTmp ?_⟩
        generalize tm.getD t undef = x at hr ⊢
        cases hr with
        | val _ _ hr => exact .val _ _ (hr.retag.mono st1.F)
        | view _ _ _ _ _ _ _ _ _ _ hx hA hle hr => exact .val _ _ ((hr oA e1 e2).retag.mono e3)
      · exact ⟨G, h⟩
  · rename_i A ver row j hv
    rw [hv] at hr
    split
    · exact ⟨G, h⟩
    · split
      · rename_i σ1 hd
        obtain ⟨σ2, G1, h1, I1, st1, t1, old1, hsrc⟩ := downTo_sound (A0 := none') h hd (fun _ h => h.elim)
        cases h1
        obtain ⟨oA, e1, e2, e3⟩ := hsrc A ver rfl
        refine ⟨G1, I1.setTmp ?_⟩
        generalize tm.getD t undef = x at hr ⊢
        cases hr with
        | val _ _ hr => exact .val _ _ (hr.retagp.mono st1.F)
        | vpv _ _ _ _ _ hx hA hle hr => exact .val _ _ ((hr oA e1 e2).retagp.mono e3)
      · exact ⟨G, h⟩
  · exact ⟨G, h⟩

theorem fold_ok {α : Type} {f : St → α → St} (hf : ∀ σ a G, Inv w0 S0 F0 G σ tm w → ∃ G', Inv w0 S0 F0 G' (f σ a) tm w) : ∀ (l : List α) (σ : St) (G : Gh), Inv w0 S0 F0 G σ tm w → ∃ G', Inv w0 S0 F0 G' (l.foldl f σ) tm w
  | [], σ, G, h => ⟨G, h⟩
  | a :: l, σ, G, h => by
    obtain ⟨G1, h1⟩ := hf σ a G h
    exact fold_ok hf l _ G1 h1

theorem look_addP {ps : Ps} {a n k m : Nat} (h : look ps k = some m) : look (addP ps a n) k = some m := by
  unfold addP
  split
  · exact h
  · rw [look_append, h]
theorem look_collC {base k m : Nat} : ∀ (cs : List V) (q : Nat) (ps : Ps), look ps k = some m → look (collC σ base q cs ps) k = some m
  | [], q, ps, h => h
  | c :: cs, q, ps, h => by
    simp only [collC]
    refine look_collC cs (q + 1) _ ?_
    split
    · exact look_addP h
    · exact h
theorem look_collV {t k m : Nat} {v : V} (h : look ps k = some m) : look (collV σ t ps v) k = some m := by
  unfold collV
  split
  · exact look_collC _ _ _ h
  · exact look_collC _ _ _ h
  · split
    · split
      · rename_i o _
        cases o.box with
        | true => exact look_collC _ _ _ (look_addP h)
        | false => exact look_addP h
      · exact h
    · exact h
theorem look_pins : ∀ {live : List (Nat × Nat)} {id : Nat}, (id, 2) ∈ live → look (pins live) id = some id
  | [], id, h => by cases h
  | (a, m) :: l, id, h => by
    simp only [pins]
    rcases List.mem_cons.1 h with e | h
    · cases e; simp [look]
    · cases hm : Nat.beq m 2 with
      | true =>
        simp only [cond_true, look_cons]
        split
        · rename_i e; rw [e]
        · exact look_pins h
      | false => exact look_pins h

theorem canon_ok : CanonOk canon := by
  intro live σ σ' w0 S0 F0 G tm w h hk hI
  unfold canon at h
  simp only at h
  obtain ⟨G1, I1⟩ := fold_ok (f := fun σ (p : Nat × Nat) => bif Nat.beq p.2 1 then ownNil p.1 σ else σ) (fun σ p G h => by
    cases Nat.beq p.2 1 with
    | true => exact ownNil_ok h p.1
    | false => exact ⟨G, h⟩) live σ G hI
  generalize live.foldl (fun σ p => bif Nat.beq p.2 1 then ownNil p.1 σ else σ) σ = σ1 at h I1
  have hps : ∀ (l : List (Nat × Nat)) (ps : Ps) (k m : Nat), look ps k = some m → look (l.foldl (fun ps p => bif Nat.beq p.2 2 then ps else collV σ1 p.1 ps (σ1.tmp p.1)) ps) k = some m := by
    intro l
    induction l with
    | nil => intro ps k m h; exact h
    | cons a l ih =>
      intro ps k m h
      refine ih _ k m ?_
      show look (bif Nat.beq a.2 2 then ps else collV σ1 a.1 ps (σ1.tmp a.1)) k = some m
      cases Nat.beq a.2 2 with
      | true => exact h
      | false => exact look_collV h
  have hpin : ∀ id, (id, 2) ∈ live → look (live.foldl (fun ps p => bif Nat.beq p.2 2 then ps else collV σ1 p.1 ps (σ1.tmp p.1)) (pins live)) id = some id := fun id hid => hps live _ id id (look_pins hid)
  generalize live.foldl (fun ps p => bif Nat.beq p.2 2 then ps else collV σ1 p.1 ps (σ1.tmp p.1)) (pins live) = ps at h hpin
  obtain ⟨G2, I2⟩ := fold_ok (f := fun s (p : Nat × Nat) => unview ps p.1 s) (fun s p G h => unview_ok h p.1) live _ G1 I1
  obtain ⟨hb, h⟩ := bif_some h
  cases h
  simp only [Bool.and_eq_true] at hb
  exact ⟨_, I2.ren hb.1 hb.2 fun p hp => by
    obtain ⟨id, e, hid⟩ := hk p hp
    exact ⟨id, e, hpin id hid⟩⟩
end Go.Vk
end
