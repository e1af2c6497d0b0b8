/- The statement FnExactStartRun, as its card says, holds of the given program: no conditions. Part 1. -/
import Derived.Test.YteadienaeapaeaaDoorV0
import Derived.Great.BuildSlice
import Derived.Deep.AppendSrc
import Derived.Deep.DeepAppendWide
set_option linter.unusedSectionVars false
set_option linter.unusedVariables false
set_option linter.unusedSimpArgs false
section
namespace Go.Vk
open Go
set_option linter.unusedVariables false
set_option linter.unusedSimpArgs false
variable {w w' w0 : World} {S0 : SS} {F0 : Set'} {G G' : Gh} {ob ob' : Ob} {v : V} {x : Value} {σ σ' : St} {tm : Array Value} {id : Nat} {o o' : VO}
variable {R : Type} {r : R} {k : V → Option R} {kσ : St → Option R} {E : Env} {P : Program}

theorem pos_ne {sz i i' j q n : Nat} (hq : q < sz) (hj : j + n ≤ sz) (h : i' ≠ i) : ¬ (i * sz + j ≤ i' * sz + q ∧ i' * sz + q < i * sz + j + n) := by
  rcases Nat.lt_or_gt_of_ne h with h | h
  · have := Nat.mul_le_mul_right sz (show i' + 1 ≤ i by omega)
    rw [Nat.add_mul] at this; omega
  · have := Nat.mul_le_mul_right sz (show i + 1 ≤ i' by omega)
    rw [Nat.add_mul] at this; omega

/-- A row of a table of cells, some of its cells changed. -/
theorem spliced {n sz off i j : Nat} {cs0 ys : Array Value} {xs : Nat → Nat → Value} (hsz : off + n * sz ≤ cs0.size) (hi : i < n) (hj : j + ys.size ≤ sz) (hxs : ∀ i j, i < n → j < sz → cs0[off + i * sz + j]? = some (xs i j)) :
    ∀ i' q, i' < n → q < sz → (splice cs0 (off + i * sz + j) ys)[off + i' * sz + q]? = some (if i' = i ∧ j ≤ q ∧ q < j + ys.size then ys.getD (q - j) default else xs i' q) := by
  intro i' q hi' hq
  have hlt : off + i' * sz + q < cs0.size := by
    have := rowPos hi' hq (Nat.le_refl n); omega
  rw [splice_at]
  by_cases hc : i' = i ∧ j ≤ q ∧ q < j + ys.size
  · obtain ⟨rfl, h1, h2⟩ := hc
    rw [if_pos ⟨by omega, by omega, hlt⟩, if_pos ⟨rfl, h1, h2⟩]
    have e : off + i' * sz + q - (off + i' * sz + j) = q - j := by omega
    rw [e, Array.getD_eq_getD_getElem?, Array.getElem?_eq_getElem (by omega)]; rfl
  · rw [if_neg hc, if_neg (fun hh => ?_)]
    · exact hxs i' q hi' hq
    · by_cases e : i' = i
      · subst e; exact hc ⟨rfl, by omega, by omega⟩
      · exact pos_ne hq hj e ⟨by omega, by omega⟩

/-- Some cells of a row of an object are written. -/
theorem Inv.writeRow (h : Inv w0 S0 F0 G σ tm w) (hid : look σ.objs id = some (some o)) (hbx : o.box = false) (hst : o.st ≠ .fz) {b off : Nat} (hl : G.loc id = some (b, off)) {cs1 : List V} {ys : Array Value} {i j ver : Nat} (hi : i < o.n) (hj : j + cs1.length ≤ o.sz) (hys : ys.size = cs1.length)
    (hfl : o.fl = true → cs1.all V.leaf = true) (hver : o.ver ≤ ver) (hlv : ver = o.ver → ∀ q, j ≤ q → q < j + cs1.length → (cellAt (o.get i) q).leaf = true) {L : Set'} (hL : ∀ b, L b → Loose w0 S0 G σ w b)
    (hdp : o.st = .dp → ∃ Sr : Nat → Set', (∀ q, q < cs1.length → Rep w G.F true (cellAt cs1 q) (ys.getD q default) (Sr q)) ∧ (∀ q b, q < cs1.length → Sr q b → L b) ∧ (∀ q q' b, q < cs1.length → q' < cs1.length → Sr q b → Sr q' b → q = q'))
    (hsh : o.st = .sh → ∀ q, q < cs1.length → Rep w G.F false (cellAt cs1 q) (ys.getD q default) none') :
    ∃ G', Inv w0 S0 F0 G' (σ.putO id (some ⟨false, o.st, o.sz, o.fl, o.n, (o.rows.set i ((o.get i).take j ++ cs1 ++ (o.get i).drop (j + cs1.length))).get, ver⟩)) tm (w.setCells b (off + i * o.sz + j) ys.toList) := by
  obtain ⟨s1, s2, s3, s4, s5, s6⟩ := setCells_heap b ys.toList (off + i * o.sz + j) w
  obtain ⟨r1, r2, r3, r4⟩ := h.root id o b off hid hl hst
  cases h.objs id o hid with
  | null n1 n2 n3 => omega
  | row b' off' cs e fr xs l1 hb hsz hlen hxs hofl hp hF hc =>
    rw [hl] at l1; cases l1
    have hli := hlen i hi
    have hget : ∀ i', (o.rows.set i ((o.get i).take j ++ cs1 ++ (o.get i).drop (j + cs1.length))).get i' = if i' = i then (o.get i).take j ++ cs1 ++ (o.get i).drop (j + cs1.length) else o.get i' := by
      intro i'
      show mrgE (Nat.beq i' i) _ _ = _
      rw [mrgE_eq]
      by_cases e : i' = i
      · subst e; simp
      · have : Nat.beq i' i = false := by cases hb : Nat.beq i' i with | false => rfl | true => exact absurd (Nat.eq_of_beq_eq_true hb) e
        rw [this, if_neg e]; rfl
    have hcell : ∀ i' q, cellAt ((o.rows.set i ((o.get i).take j ++ cs1 ++ (o.get i).drop (j + cs1.length))).get i') q = if i' = i ∧ j ≤ q ∧ q < j + cs1.length then cellAt cs1 (q - j) else cellAt (o.get i') q := by
      intro i' q
      rw [hget]
      by_cases e : i' = i
      · subst e
        rw [if_pos rfl, cellAt_splice _ _ _ _ (by omega)]
        by_cases hc : j ≤ q ∧ q < j + cs1.length
        · rw [if_pos hc, if_pos ⟨rfl, hc⟩]
        · rw [if_neg hc, if_neg (fun h => hc h.2)]
      · rw [if_neg e, if_neg (fun h => e h.1)]
    have hkp : ver = o.ver → o.box = false → Keeps w (w.setCells b (off + i * o.sz + j) ys.toList) (some (b, off)) := by
      intro hv _ b1 off1 cs1' e1 fr1 p a n c h1 h2 h3
      cases h1
      rw [hb] at h2; cases h2
      refine ⟨_, setCells_block hb, ?_⟩
      rw [splice_at, if_neg]
      · exact h3
      · rintro ⟨k1, k2, k3⟩
        have hq : ∃ q, p = off + i * o.sz + q := ⟨p - (off + i * o.sz), by omega⟩
        obtain ⟨q, rfl⟩ := hq
        have hlf := hlv hv q (by omega) (by omega)
        have hx := hxs i q hi (by omega)
        rw [h3] at hx
        have hx : xs i q = .slice a n c := by simpa using hx.symm
        unfold CellsOk at hc
        rw [hbx] at hc
        cases hs' : o.st with
        | fz => exact absurd hs' hst
        | sh => rw [hs'] at hc; have := hc i q hi (by omega); rw [hx] at this; exact this.leaf_slice hlf
        | dp => rw [hs'] at hc; obtain ⟨So, o1, _⟩ := hc; have := o1 i q hi (by omega); rw [hx] at this; exact this.leaf_slice hlf
    obtain ⟨G', I', _⟩ := h.write (o' := ⟨false, o.st, o.sz, o.fl, o.n, (o.rows.set i ((o.get i).take j ++ cs1 ++ (o.get i).drop (j + cs1.length))).get, ver⟩) (p := off + i * o.sz + j) (vs := ys) (L := L) hid hl hst hL rfl rfl hbx.symm hver hst hkp (fun G' e1 e2 e3 hs => by
      refine .row b off (splice cs (off + i * o.sz + j) ys) e fr (fun i' q => if i' = i ∧ j ≤ q ∧ q < j + ys.size then ys.getD (q - j) default else xs i' q) (by rw [e2]; exact hl) (setCells_block hb) (by rw [splice_size]; exact hsz)
        (fun i' hi' => ?_) (spliced (sz := o.sz) (n := o.n) hsz hi (by omega) hxs) (fun hf i' q hi' hq => ?_) (fun _ => by rw [splice_size]; exact hp hst) (fun hf => absurd hf hst) ?_
      · show ((o.rows.set i ((o.get i).take j ++ cs1 ++ (o.get i).drop (j + cs1.length))).get i').length = o.sz
        rw [hget]
        by_cases e : i' = i
        · rw [if_pos e]; simp; omega
        · rw [if_neg e]; exact hlen i' hi'
      · show (cellAt ((o.rows.set i ((o.get i).take j ++ cs1 ++ (o.get i).drop (j + cs1.length))).get i') q).leaf = true
        rw [hcell]
        by_cases hc' : i' = i ∧ j ≤ q ∧ q < j + cs1.length
        · rw [if_pos hc']; exact all_at (hfl hf) (by omega)
        · rw [if_neg hc']; exact hofl hf i' q hi' hq
      · have hold : ∀ b', (L b' ∨ G.F b' ∨ G.N id b') → (w.setCells b (off + i * o.sz + j) ys.toList).heap[b']? = w.heap[b']? := fun b' hb' => s2 b' (fun e => by
          subst e
          rcases hb' with hb' | hb' | hb'
          · exact (hL _ hb').nR id o off hid hl
          · exact r3 hb'
          · exact r4 id hb')
        unfold CellsOk at hc ⊢
        rw [hbx] at hc
        cases hs' : o.st with
        | fz => exact absurd hs' hst
        | sh =>
          rw [hs'] at hc
          intro i' q hi' hq
          show Rep _ _ _ (cellAt ((o.rows.set i ((o.get i).take j ++ cs1 ++ (o.get i).drop (j + cs1.length))).get i') q) (if i' = i ∧ j ≤ q ∧ q < j + ys.size then ys.getD (q - j) default else xs i' q) _
          rw [hcell, e1, hys]
          by_cases hc' : i' = i ∧ j ≤ q ∧ q < j + cs1.length
          · rw [if_pos hc', if_pos hc']; exact (hsh hs' (q - j) (by omega)).world fun b hb => hold b (hb.elim (fun h => h.elim) (fun h => .inr (.inl h)))
          · rw [if_neg hc', if_neg hc']; exact (hc i' q hi' hq).world fun b hb => hold b (hb.elim (fun h => h.elim) (fun h => .inr (.inl h)))
        | dp =>
          rw [hs'] at hc
          obtain ⟨So, o1, o2, o3⟩ := hc
          obtain ⟨Sn, n1, n2, n3⟩ := hdp hs'
          refine ⟨fun i' q => if i' = i ∧ j ≤ q ∧ q < j + cs1.length then Sn (q - j) else So i' q, fun i' q hi' hq => ?_, fun i' q x hi' hq hx => ?_, fun i1 q1 i2 q2 x h1 h2 h3 h4 h5 h6 => ?_⟩
          · show Rep _ _ _ (cellAt ((o.rows.set i ((o.get i).take j ++ cs1 ++ (o.get i).drop (j + cs1.length))).get i') q) (if i' = i ∧ j ≤ q ∧ q < j + ys.size then ys.getD (q - j) default else xs i' q) (if i' = i ∧ j ≤ q ∧ q < j + cs1.length then Sn (q - j) else So i' q)
            rw [hcell, e1, hys]
            by_cases hc' : i' = i ∧ j ≤ q ∧ q < j + cs1.length
            · rw [if_pos hc', if_pos hc', if_pos hc']; exact (n1 (q - j) (by omega)).world fun b hb => hold b (hb.elim (fun h => .inl (n2 _ b (by omega) h)) (fun h => .inr (.inl h)))
            · rw [if_neg hc', if_neg hc', if_neg hc']; exact (o1 i' q hi' hq).world fun b hb => hold b (hb.elim (fun h => .inr (.inr (o2 i' q b hi' hq h))) (fun h => .inr (.inl h)))
          · rw [e3]
            simp only at hx
            split at hx
            · rename_i hc'; exact .inr ⟨rfl, n2 _ x (by omega) hx⟩
            · exact .inl (o2 i' q x hi' hq hx)
          · simp only at h5 h6
            split at h5 <;> split at h6
            · rename_i c1 c2
              have := n3 _ _ x (by omega) (by omega) h5 h6
              exact ⟨by omega, by omega⟩
            · rename_i c1 c2
              exact ((hL x (n2 _ x (by omega) h5)).nN id (o2 _ _ x h3 h4 h6)).elim
            · rename_i c1 c2
              exact ((hL x (n2 _ x (by omega) h6)).nN id (o2 _ _ x h1 h2 h5)).elim
            · exact o3 _ _ _ _ x h1 h2 h3 h4 h5 h6)
    exact ⟨G', I'⟩

theorem storeC_sound (hE : EnvOk E) (hI : Inv w0 S0 F0 G σ tm w) {t : Nat} {a u : V} {xa xu : Value} (h : storeC E σ t a u kσ = some r) (ha : RepT w G (look σ.objs) a xa) (hu : RepT w G (look σ.objs) u xu) :
    ∃ σ' G' w', kσ σ' = some r ∧ Inv w0 S0 F0 G' σ' tm w' ∧ (Instr.storeAt t xa xu).run E.P w = .ok () w' := by
  unfold storeC at h
  cases a with
  | adr id i j =>
    simp only at h
    cases ho : σ.obj id with
    | none => rw [ho] at h; cases h
    | some o =>
      rw [ho] at h
      have hlk := obj_look.1 ho
      simp only at h
      cases ha with
      | val _ _ hr => cases hr
      | adr _ _ _ _ hx hA hr =>
      cases hbx : o.box with
      | true =>
        rw [hbx] at h
        simp only [cond_true] at h
        cases i with
        | succ i => cases h
        | zero =>
          simp only at h
          obtain ⟨hb, h⟩ := bif_some h
          simp only [Bool.and_eq_true, Nat.ble_eq, Bool.not_eq_true'] at hb
          obtain ⟨⟨⟨⟨b1, b2⟩, b3⟩, b4⟩, b5⟩ := hb
          have b3 := Nat.eq_of_beq_eq_true b3
          obtain ⟨ii, d, hT⟩ := hE.T t b1
          have hnf : o.st ≠ .fz := fun e => by rw [e] at b5; cases b5
          obtain ⟨b, off, k1, rfl⟩ := hr o hlk
          have hcell := hu.cells b2
          cases hI.objs id o hlk with
          | null n1 n2 n3 => rw [n2] at hbx; cases hbx
          | row b' off' cs e fr xs l1 hb hsz hlen hxs hfl hp hF hc =>
            rw [k1] at l1; cases l1
            unfold CellsOk at hc
            rw [hbx] at hc
            have hn1 : o.n = 1 := hc.1
            have hl0 := hlen 0 (by omega)
            have hin : off + 0 * o.sz + j + (E.T t).size ≤ cs.size := by rw [hn1] at hsz; omega
            have hys : xu.cells.size = (E.T t).size := by rw [hcell.1, b3]
            obtain ⟨G', I', _⟩ := hI.write (o' := ⟨true, o.st, o.sz, false, o.n, fun _ => (o.get 0).take j ++ u.cells ++ (o.get 0).drop (j + (E.T t).size), o.ver⟩) (p := off + 0 * o.sz + j) (vs := xu.cells) (L := none') hlk k1 hnf (fun b hb => hb.elim) rfl rfl hbx.symm (Nat.le_refl _) hnf (fun _ hf => by rw [hbx] at hf; cases hf) (fun G' e1 e2 e3 hs => by
              refine .row b off (splice cs (off + 0 * o.sz + j) xu.cells) e fr (fun i' q => if i' = 0 ∧ j ≤ q ∧ q < j + xu.cells.size then xu.cells.getD (q - j) default else xs i' q) (by rw [e2]; exact k1) (setCells_block hb) (by rw [splice_size]; exact hsz)
                (fun i hi => by simp; omega) (spliced (sz := o.sz) (n := o.n) hsz (by omega) (by omega) hxs) (fun hf => by cases hf) (fun _ => by rw [splice_size]; exact hp hnf) (fun hf => absurd hf hnf) ⟨hn1, fun q hq => ?_⟩
              show RepT _ G' _ (cellAt ((o.get 0).take j ++ u.cells ++ (o.get 0).drop (j + (E.T t).size)) q) (if (0 : Nat) = 0 ∧ j ≤ q ∧ q < j + xu.cells.size then xu.cells.getD (q - j) default else xs 0 q)
              have hcc : ∀ q, cellAt ((o.get 0).take j ++ u.cells ++ (o.get 0).drop (j + (E.T t).size)) q = if j ≤ q ∧ q < j + u.cells.length then cellAt u.cells (q - j) else cellAt (o.get 0) q := fun q => by rw [← b3]; exact cellAt_splice _ _ _ _ (by omega)
              rw [hcc]
              by_cases hc' : j ≤ q ∧ q < j + u.cells.length
              · rw [if_pos hc', if_pos ⟨rfl, hc'.1, by omega⟩]
                exact ((hcell.2 (q - j) (by omega)).1).step hs
              · rw [if_neg hc', if_neg (by omega)]
                exact (hc.2 q hq).step hs)
            exact ⟨_, G', _, h, I', storeVar_run hT hb (hp hnf) hys hin (fun v hv => by
              obtain ⟨q, hq, rfl⟩ := Array.mem_iff_getElem.1 (by simpa using hv)
              have := (hcell.2 q (by omega)).2
              simpa [Array.getD, hq] using this)⟩
      | false =>
        rw [hbx] at h
        simp only [cond_false] at h
        cases hfast : Nat.beq j 0 && Nat.beq (E.T t).size o.sz && o.fl && (E.T t).ok && !o.st.isFz && Nat.beq u.cells.length o.sz && u.cells.all V.leaf with
        | true =>
          rw [hfast] at h
          simp only [cond_true] at h
          simp only [Bool.and_eq_true, Bool.not_eq_true'] at hfast
          obtain ⟨⟨⟨⟨⟨⟨f1, f2⟩, f3⟩, f4⟩, f5⟩, f6⟩, f7⟩ := hfast
          have f1 := Nat.eq_of_beq_eq_true f1
          have f2 := Nat.eq_of_beq_eq_true f2
          have f6 := Nat.eq_of_beq_eq_true f6
          subst f1
          obtain ⟨hi, h⟩ := if_some h
          have hone : u.cells.all V.one = true := List.all_eq_true.2 fun c hc => by
            have := List.all_eq_true.1 f7 c hc
            cases c <;> first | rfl | cases this
          have hcell := hu.cells hone
          obtain ⟨ii, d, hT⟩ := hE.T t f4
          have hnf : o.st ≠ .fz := fun e => by rw [e] at f5; cases f5
          obtain ⟨b, off, k1, rfl⟩ := hr o hlk
          have hys : xu.cells.size = u.cells.length := hcell.1
          cases hI.objs id o hlk with
          | null n1 n2 n3 => omega
          | row b' off' cs e fr xs l1 hb hsz hlen hxs hofl hp hF hc =>
            rw [k1] at l1; cases l1
            have hli := hlen i hi
            have hX : (o.get i).take 0 ++ u.cells ++ (o.get i).drop (0 + u.cells.length) = u.cells := by
              rw [List.drop_eq_nil_of_le (by omega)]; simp
            obtain ⟨G', I'⟩ := hI.writeRow (L := none') (j := 0) (ver := o.ver) hlk hbx hnf k1 (cs1 := u.cells) (ys := xu.cells) hi (by omega) hys (fun _ => f7) (Nat.le_refl _) (fun _ q _ hq => hofl f3 i q hi (by omega)) (fun b hb => hb.elim)
              (fun _ => ⟨fun _ => none', fun q hq => (hcell.2 q hq).1.leaf (all_at f7 hq), fun q b _ hb => hb.elim, fun q q' b _ _ hb => hb.elim⟩) (fun _ q hq => (hcell.2 q hq).1.leaf (all_at f7 hq))
            rw [hX] at I'
            refine ⟨_, G', _, h, I', storeVar_run hT hb (hp hnf) (by omega) ?_ (fun v hv => by
              obtain ⟨q, hq, rfl⟩ := Array.mem_iff_getElem.1 (by simpa using hv)
              have := (hcell.2 q (by omega)).2
              simpa [Array.getD, hq] using this)⟩
            have := Nat.mul_le_mul_right o.sz (show i + 1 ≤ o.n by omega)
            rw [Nat.add_mul] at this; omega
        | false =>
        rw [hfast] at h
        simp only [cond_false] at h
        obtain ⟨hone, h⟩ := bif_none h
        simp only [Bool.not_eq_false'] at hone
        have hcell := hu.cells hone
        obtain ⟨σ1, G1, cs1, own1, ms, Sr, h, Ab, hlen1, hdp, hone1, hnf1⟩ := absorb_sound (w := w) (tm := tm) u.cells σ G .dp (fun i => xu.cells.getD i default) none' _ h hI (fun i hi => (hcell.2 i hi).1) (fun b hb => hb.elim)
        cases ho1 : σ1.obj id with
        | none => rw [ho1] at h; cases h
        | some o1 =>
          rw [ho1] at h
          have hlk1 := obj_look.1 ho1
          simp only at h
          obtain ⟨hb, h⟩ := bif_some h
          simp only [Bool.and_eq_true, Bool.not_eq_true'] at hb
          obtain ⟨⟨⟨⟨b1, b2⟩, b3⟩, b4⟩, b5⟩ := hb
          have b4 := Nat.eq_of_beq_eq_true b4
          obtain ⟨hi, h⟩ := if_some h
          obtain ⟨hj, h⟩ := bif_some h
          have hj : j + (E.T t).size ≤ (o1.get i).length := by simpa using hj
          obtain ⟨ii, d, hT⟩ := hE.T t b1
          have hnf : o1.st ≠ .fz := fun e => by rw [e] at b3; cases b3
          have I1 := Ab.inv
          -- the address, in the state behind the taking in
          have ha1 : RepT w G1 (look σ1.objs) (.adr id i j) xa := (RepT.adr id i j xa hx hA hr).step Ab.step
          cases ha1 with
          | val _ _ hr => cases hr
          | adr _ _ _ _ hx1 hA1 hr1 =>
          obtain ⟨b, off, k1, rfl⟩ := hr1 o1 hlk1
          have hcs : cs1.length = (E.T t).size := b4
          have hys : xu.cells.size = cs1.length := by rw [hcell.1, hlen1]
          have hfl1 : o1.fl = true → cs1.all V.leaf = true := fun e => by simpa [e] using b5
          have hverle : o1.ver ≤ (bif cs1.all V.leaf && (((o1.get i).drop j).take (E.T t).size).all V.leaf then o1.ver else o1.ver + 1) := by
            cases (cs1.all V.leaf && (((o1.get i).drop j).take (E.T t).size).all V.leaf) <;> simp
          have hrun : ∀ (cs : Array Value) (e : TypeId) (fr : Nat × Nat), w.heap[b]? = some (.cells cs e fr) → Plain fr cs.size → off + o1.n * o1.sz ≤ cs.size → (o1.get i).length = o1.sz → (Instr.storeAt t (.pointer (some ⟨b, off + i * o1.sz + j, none⟩)) xu).run E.P w = .ok () (w.setCells b (off + i * o1.sz + j) xu.cells.toList) := by
            intro cs e fr hb hp hsz hli
            refine storeVar_run hT hb hp (by omega) ?_ (fun v hv => by
              obtain ⟨q, hq, rfl⟩ := Array.mem_iff_getElem.1 (by simpa using hv)
              have := (hcell.2 q (by omega)).2
              simpa [Array.getD, hq] using this)
            have := Nat.mul_le_mul_right o1.sz (show i + 1 ≤ o1.n by omega)
            rw [Nat.add_mul] at this; omega
          cases I1.objs id o1 hlk1 with
          | null n1 n2 n3 => omega
          | row b' off' cs e fr xs l1 hb hsz hlen hxs hofl hp hF hc =>
            rw [k1] at l1; cases l1
            have hli := hlen i hi
            have hr0 := hrun cs e fr hb (hp hnf) hsz hli
            rw [← hcs] at h hverle hj
            have hlv : (bif cs1.all V.leaf && (((o1.get i).drop j).take cs1.length).all V.leaf then o1.ver else o1.ver + 1) = o1.ver → ∀ q, j ≤ q → q < j + cs1.length → (cellAt (o1.get i) q).leaf = true := by
              intro hv q h1 h2
              cases hc' : (((o1.get i).drop j).take cs1.length).all V.leaf with
              | false => rw [hc'] at hv; simp at hv
              | true =>
                have := all_at hc' (i := q - j) (by simp; omega)
                rw [cellAt_drop _ _ _ _ (by omega)] at this
                have e' : j + (q - j) = q := by omega
                rw [e'] at this; exact this
            by_cases hdd : o1.st = .dp ∧ own1 = .dp
            · obtain ⟨d1, d2⟩ := hdd
              obtain ⟨_, hms⟩ := hdp d2
              obtain ⟨G', I'⟩ := I1.writeRow (L := fun b => ∃ q, q < cs1.length ∧ Sr q b) hlk1 (by simpa using b2) hnf k1 (cs1 := cs1) (ys := xu.cells) (j := j) hi (by omega) hys hfl1 hverle hlv (fun b ⟨q, hq, hb⟩ => (Ab.loose q b hq (hms q (by omega)) hb).1)
                (fun _ => ⟨Sr, fun q hq => by have := Ab.rep q hq; rwa [hms q (by omega)] at this, fun q b hq hb => ⟨q, hq, hb⟩, fun q q' b hq hq' hb hb' => Ab.dis q q' b hq hq' (hms q (by omega)) (hms q' (by omega)) hb hb'⟩) (fun e => by rw [d1] at e; cases e)
              refine ⟨_, G', _, h, ?_, hr0⟩
              rw [d2]
              have : o1.st.le .dp = o1.st := by rw [d1]; rfl
              rw [this]; exact I'
            · -- all is shared that was taken in
              have hLs : ∀ b, (∃ q, q < cs1.length ∧ ms q = true ∧ Sr q b) → Loose w0 S0 G1 σ1 w b := fun b ⟨q, hq, hm, hb⟩ => (Ab.loose q b hq hm hb).1
              have I2 := I1.share hLs
              have hrep : ∀ q, q < cs1.length → Rep w (G1.more fun b => ∃ q, q < cs1.length ∧ ms q = true ∧ Sr q b).F false (cellAt cs1 q) (xu.cells.getD q default) none' := by
                intro q hq
                have := Ab.rep q hq
                cases hm : ms q with
                | true => rw [hm] at this; exact this.frozen (fun b hb => .inl hb) (fun b hb => .inr ⟨q, hq, hm, hb⟩)
                | false => rw [hm] at this; exact this.any.mono fun b hb => .inl hb
              have I3 := I2.down hlk1 false
              have hlk3 : look (σ1.putO id (some (o1.low false))).objs id = some (some (o1.low false)) := by rw [look_putO]; simp
              have hst3 : (o1.low false).st = o1.st.le .sh := rfl
              have hsh : o1.st.le .sh = .sh := by cases hs : o1.st <;> first | rfl | exact absurd hs hnf
              obtain ⟨G', I'⟩ := I3.writeRow (L := none') (b := b) (off := off) hlk3 (show o1.box = false by simpa using b2) (by rw [hst3, hsh]; simp) k1 (cs1 := cs1) (ys := xu.cells) (j := j) hi (by show j + cs1.length ≤ o1.sz; omega) hys hfl1 hverle hlv (fun b hb => hb.elim)
                (fun e => by rw [hst3, hsh] at e; cases e) (fun _ q hq => (hrep q hq).mono fun b hb => .inl hb)
              refine ⟨_, G', _, h, ?_, hr0⟩
              have hle : o1.st.le own1 = (o1.low false).st := by
                rw [hst3, hsh]
                cases hs : o1.st with
                | fz => exact absurd hs hnf
                | sh => cases ho2 : own1 <;> first | rfl | exact absurd ho2 (hnf1 (by simp))
                | dp => cases ho2 : own1 with
                  | fz => exact absurd ho2 (hnf1 (by simp))
                  | sh => rfl
                  | dp => exact absurd ⟨hs, ho2⟩ hdd
              rw [hle]
              refine I'.congr ?_ (fun _ => rfl)
              funext q
              rw [look_putO, look_putO, look_putO]
              by_cases e : id = q
              · rw [if_pos e, if_pos e]; rfl
              · rw [if_neg e, if_neg e, if_neg e]
  | _ => cases h
end Go.Vk
end

section
namespace Go.Vk
open Go
set_option linter.unusedVariables false
set_option linter.unusedSimpArgs false
variable {w w' w0 : World} {S0 : SS} {F0 : Set'} {G G' : Gh} {ob ob' : Ob} {v : V} {x : Value} {σ σ' : St} {tm : Array Value} {id : Nat} {o o' : VO}
variable {R : Type} {r : R} {k : V → Option R} {kσ : St → Option R} {E : Env} {P : Program}

theorem box_run (t : Nat) (x : Value) (w : World) : (Instr.box t x).run P w = .ok (.pointer (some ⟨w.heap.size, 0, none⟩)) (w.alloc (.cells x.cells t)) := by
  simp [Instr.box, newVar, newRow]

theorem alloc_run {t : Nat} {ti : TI} {i : TypeInfo} {d : TypeDesc} (hT : TOk P t ti i d) {z : Value} (hz : i.zero = some z) (w : World) : (Instr.alloc t true (.tuple #[])).run P w = .ok (.pointer (some ⟨w.heap.size, 0, none⟩)) (w.alloc (.cells z.cells t)) := by
  simp [Instr.alloc, zeroValue, typeInfo, hT.info, hz, newVar, newRow]

/-- A state in which a new object's handle is laid into a slot. -/
theorem boxC_sound (hI : Inv w0 S0 F0 G σ tm w) {d : Option Nat} {sz : Nat} {cs : List V} {xs : Array Value} (h : boxC σ d sz cs kσ = some r) (hd : dstIn tm.size d = true) (hc : CellsT w G (look σ.objs) cs xs) (e : TypeId) :
    ∃ σ' G', kσ σ' = some r ∧ Inv w0 S0 F0 G' σ' (putT tm d (.pointer (some ⟨w.heap.size, 0, none⟩))) (w.alloc (.cells xs e)) := by
  unfold boxC at h
  cases d with
  | none => cases h
  | some d =>
    obtain ⟨hb, h⟩ := bif_some h
    simp only [Bool.and_eq_true] at hb
    obtain ⟨⟨b1, b2⟩, b3⟩ := hb
    have b2 := Nat.eq_of_beq_eq_true b2
    subst b2
    obtain ⟨G', I', hv⟩ := hI.box b3 hc e
    exact ⟨_, G', h, I'.put hv hd⟩

theorem newC_sound (hI : Inv w0 S0 F0 G σ tm w) {d : Option Nat} {st : Own} {ti : TI} {fl : Bool} {rw : Rows} (h : newC σ d st ti fl rw kσ = some r) (hd : dstIn tm.size d = true) {L : Set'} (hL : ∀ b, L b → Loose w0 S0 G σ w b) {c : Nat} {xs : Array Value}
    (hr : NewRow w G.F L ⟨false, st, ti.esz, fl, rw.n, rw.get, 0⟩ c xs) (e : TypeId) :
    ∃ σ' G', kσ σ' = some r ∧ Inv w0 S0 F0 G' σ' (putT tm d (.slice (some ⟨w.heap.size, 0, none⟩) rw.n c)) (w.alloc (.cells xs e)) := by
  unfold newC at h
  cases d with
  | none => cases h
  | some d =>
    obtain ⟨hb, h⟩ := bif_some h
    simp only [Bool.and_eq_true] at hb
    obtain ⟨G', I', hv⟩ := hI.newRow hb.2 hL hr e
    exact ⟨_, G', h, I'.put hv hd⟩

theorem madeCells_at {z : Array Value} {n i sz j : Nat} (hz : z.size = sz) (hj : j < sz) (hi : i < n) : (madeCells z (n * sz)).getD (i * sz + j) default = z.getD j default := by
  have h1 : i * sz + j < n * sz := rowPos hi hj (Nat.le_refl n)
  have h2 : (i * sz + j) % z.size = j := by rw [hz, Nat.add_comm, Nat.add_mul_mod_self_right, Nat.mod_eq_of_lt hj]
  have h3 : j < z.size := by omega
  simp [madeCells, Array.getD, h1, h2, h3]

theorem zero_rep {z : Value} {zs : List V} (h : zeroOk zs z.cells.toList = true) {j : Nat} (hj : j < zs.length) (m : Bool) (w : World) (F S : Set') : Rep w F m (cellAt zs j) (z.cells.getD j default) S := by
  obtain ⟨c, h1, h2⟩ := zeroOk_at h j hj
  have : z.cells.getD j default = c := by
    rw [Array.getD_eq_getD_getElem?, ← Array.getElem?_toList, h1]; rfl
  rw [this]
  exact zeroOk1_rep h2 _ _ _ _

theorem makeSlice_sound (hE : EnvOk E) (hI : Inv w0 S0 F0 G σ tm w) {d : Option Nat} {t : Nat} {n m : Int} {kl kc : IntKind} (h0 : 0 ≤ n) (h1 : n ≤ m) (h2 : m.toNat * (E.T t).ebytes ≤ maxRow) (hd : dstIn tm.size d = true)
    (h : newC σ d .dp (E.T t) ((E.T t).ezero.all V.leaf) ⟨n.toNat, fun _ => (E.T t).ezero⟩ kσ = some r) :
    ∃ σ' G' w' x, kσ σ' = some r ∧ Inv w0 S0 F0 G' σ' (putT tm d x) w' ∧ (Instr.makeSlice t (.int kl n) (.int kc m)).run E.P w = .ok x w' := by
  have hok : (E.T t).slok = true := by
    unfold newC at h
    cases d with
    | none => cases h
    | some d =>
      obtain ⟨hb, h⟩ := bif_some h
      simp only [Bool.and_eq_true] at hb
      exact hb.1
  obtain ⟨i, d', e, ie, ze, hT, _, hu, k1, k2, k3, k4, k5, k6, k7⟩ := slok_elem hE hok
  have hby : 0 < (E.T t).ebytes := by simp only [TI.slok, Bool.and_eq_true] at hok; simpa using hok.1.2
  have hm : m.toNat ≤ maxRow := Nat.le_trans (Nat.le_mul_of_pos_right _ hby) h2
  have hz : ze.cells.size = (E.T t).esz := by rw [← k6]; have := zeroOk_len k5; simpa using this.symm
  have hmr : maxRow = 1099511627776 := by decide
  have hrun := run_make (P := E.P) w t e ie ze hu k1 k4 kl kc n m h0 h1 (by
    rw [k3]
    have : (((E.T t).ebytes * m.toNat : Nat) : Int) ≤ 1099511627776 := by rw [Nat.mul_comm]; omega
    rw [Int.natCast_mul] at this
    have hm' : (m.toNat : Int) = m := by omega
    rw [← hm']
    omega) (by omega)
  have hrep : ∀ i j, i < n.toNat → j < (E.T t).esz → Rep w G.F true (cellAt (E.T t).ezero j) ((madeCells ze.cells (m.toNat * ie.size)).getD (i * (E.T t).esz + j) default) none' := by
    intro i j hi hj
    have hi' : i < m.toNat := by omega
    rw [k2, madeCells_at hz hj hi']
    exact zero_rep k5 (by rw [k6]; exact hj) _ _ _ _
  obtain ⟨σ', G', a1, a2⟩ := newC_sound hI (L := none') (c := m.toNat) (xs := madeCells ze.cells (m.toNat * ie.size)) h hd (fun b hb => hb.elim) ⟨by rw [size_madeCells, k2], by show n.toNat ≤ m.toNat; omega, fun _ _ => k6, fun hf i j _ hj => all_at hf (by rw [k6]; exact hj), fun _ => ⟨fun _ _ => none', hrep, fun _ _ _ _ _ h => h.elim, fun _ _ _ _ _ _ _ _ _ h => h.elim⟩, fun e => (by cases e), (by simp), rfl⟩ e
  exact ⟨σ', G', _, _, a1, a2, hrun⟩

/-- The parts of a slice literal, one after the other. -/
theorem fill_rows {sz : Nat} : ∀ (vs : List Value) (k : Nat) (cells : Array Value), (∀ v ∈ vs, v.cells.size = sz) → (k + vs.length) * sz ≤ cells.size →
    ∃ cells', Instr.fill (fun i => some (i * sz, sz)) cells ((vs.zipIdx k).map fun q => (q.2, q.1)) = some cells' ∧ cells'.size = cells.size ∧
      ∀ i q, q < sz → cells'[i * sz + q]? = if h : k ≤ i ∧ i < k + vs.length then (vs[i - k]'(by omega)).cells[q]? else cells[i * sz + q]?
  | [], k, cells, _, _ => ⟨cells, rfl, rfl, fun i q hq => by rw [dif_neg (by simp)]⟩
  | v :: vs, k, cells, hv, hl => by
    have hvs := hv v (by simp)
    have h1 : k * sz + sz ≤ cells.size := by
      have := Nat.mul_le_mul_right sz (show k + 1 ≤ k + (v :: vs).length by simp)
      rw [Nat.add_mul] at this; omega
    obtain ⟨cells', e1, e2, e3⟩ := fill_rows vs (k + 1) (splice cells (k * sz) v.cells) (fun u hu => hv u (by simp [hu])) (by rw [splice_size]; simpa [Nat.add_assoc, Nat.add_comm 1] using hl)
    refine ⟨cells', ?_, by rw [e2, splice_size], fun i q hq => ?_⟩
    · simp only [List.zipIdx_cons, List.map_cons, Instr.fill]
      rw [if_neg (by simp; omega)]
      exact e1
    · rw [e3 i q hq]
      by_cases hc : k + 1 ≤ i ∧ i < k + 1 + vs.length
      · rw [dif_pos hc, dif_pos ⟨by omega, by simp; omega⟩]
        have : i - k = (i - (k + 1)) + 1 := by omega
        simp only [this, List.getElem_cons_succ]
      · rw [dif_neg hc, splice_at]
        by_cases hik : i = k
        · subst hik
          rw [if_pos ⟨by omega, by omega, by omega⟩, dif_pos ⟨by omega, by simp⟩]
          simp
        · rw [if_neg (fun h => pos_ne (sz := sz) (i := k) (i' := i) (j := 0) (q := q) (n := sz) hq (by omega) hik ⟨by omega, by omega⟩), dif_neg (by simp; omega)]

theorem idxOk_zip {ρ : Operand → Value} : ∀ (k : Nat) (l : List (Nat × Operand)), idxOk k l = true → (l.map fun p => (p.1, ρ p.2)) = ((l.map fun p => ρ p.2).zipIdx k).map fun q => (q.2, q.1)
  | _, [], _ => rfl
  | k, (i, x) :: r, h => by
    simp only [idxOk, Bool.and_eq_true] at h
    have := Nat.eq_of_beq_eq_true h.1; subst this
    simp only [List.map_cons, List.zipIdx_cons]
    rw [idxOk_zip (i + 1) r h.2]

/-- The parts of a literal, taken in. -/
theorem absorbParts_sound (sz : Nat) : ∀ (vs : List V) (xs : List Value) (σ : St) (G : Gh) (own : Own) (A0 : Set') (k : St → List (List V) → Own → Option R), absorbParts sz σ vs own k = some r → Inv w0 S0 F0 G σ tm w → vs.length = xs.length →
    (∀ i, i < vs.length → RepT w G (look σ.objs) (cellAt vs i) (xs.getD i default)) → (∀ b, A0 b → Loose w0 S0 G σ w b) →
    ∃ (σ' : St) (G' : Gh) (cs' : List (List V)) (own' : Own) (ms : Nat → Nat → Bool) (Sr : Nat → Nat → Set'), k σ' cs' own' = some r ∧ Inv w0 S0 F0 G' σ' tm w ∧ Step w G (look σ.objs) w G' (look σ'.objs) ∧ σ'.tmps = σ.tmps ∧ cs'.length = vs.length ∧
      (∀ b, A0 b → Loose w0 S0 G' σ' w b) ∧ (∀ i, i < vs.length → (cs'.getD i []).length = sz ∧ (xs.getD i default).cells.size = sz) ∧
      (∀ i q, i < vs.length → q < sz → Rep w G'.F (ms i q) (cellAt (cs'.getD i []) q) ((xs.getD i default).cells.getD q default) (Sr i q)) ∧
      (∀ i q b, i < vs.length → q < sz → ms i q = true → Sr i q b → Loose w0 S0 G' σ' w b ∧ ¬ A0 b) ∧
      (∀ i q i' q' b, i < vs.length → q < sz → i' < vs.length → q' < sz → ms i q = true → ms i' q' = true → Sr i q b → Sr i' q' b → i = i' ∧ q = q') ∧
      (own' = .dp → own = .dp ∧ ∀ i q, i < vs.length → q < sz → ms i q = true) ∧ (own ≠ .fz → own' ≠ .fz)
  | [], [], σ, G, own, A0, k, h, hI, _, hc, hA => by
    simp only [absorbParts] at h
    exact ⟨σ, G, [], own, fun _ _ => true, fun _ _ => none', h, hI, .same, rfl, rfl, hA, fun i hi => absurd hi (by simp), fun i q hi => absurd hi (by simp), fun i q b hi => absurd hi (by simp), fun i q i' q' b hi => absurd hi (by simp), fun e => ⟨e, fun i q hi => absurd hi (by simp)⟩, fun e => e⟩
  | v :: vs, x :: xs, σ, G, own, A0, k, h, hI, hl, hc, hA => by
    simp only [absorbParts] at h
    obtain ⟨hb, h⟩ := bif_none h
    simp only [Bool.not_eq_false', Bool.and_eq_true] at hb
    have hsz := Nat.eq_of_beq_eq_true hb.2
    have h0 : RepT w G (look σ.objs) v x := hc 0 (by simp)
    have hcell := h0.cells hb.1
    obtain ⟨σ1, G1, cs1, own1, ms1, Sr1, h, Ab, hlen1, hdp1, hone1, hnf1⟩ := absorb_sound (w := w) (tm := tm) v.cells σ G own (fun i => x.cells.getD i default) A0 _ h hI (fun i hi => (hcell.2 i hi).1) hA
    obtain ⟨σ2, G2, cs2, own2, ms2, Sr2, h, I2, st2, t2, l2, old2, sz2, rep2, lo2, di2, dp2, nf2⟩ := absorbParts_sound sz vs xs σ1 G1 own1 (fun b => A0 b ∨ ∃ q, q < sz ∧ ms1 q = true ∧ Sr1 q b) _ h Ab.inv (by simpa using hl)
      (fun i hi => (hc (i + 1) (by simpa using hi)).step Ab.step) (fun b hb => hb.elim (Ab.old b) fun ⟨q, hq, hm, hb⟩ => (Ab.loose q b (by omega) hm hb).1)
    refine ⟨σ2, G2, cs1 :: cs2, own2, fun i q => match i with | 0 => ms1 q | i + 1 => ms2 i q, fun i q => match i with | 0 => Sr1 q | i + 1 => Sr2 i q, h, I2, Ab.step.trans' st2, t2.trans Ab.tmps, by simp [l2], fun b hb => old2 b (.inl hb), fun i hi => ?_, fun i q hi hq => ?_, fun i q b hi hq hm hb => ?_, fun i q i' q' b hi hq hi' hq' hm hm' hb hb' => ?_, fun e => ?_, fun e => nf2 (hnf1 e)⟩
    · cases i with
      | zero => exact ⟨by show cs1.length = sz; omega, by show x.cells.size = sz; rw [hcell.1]; exact hsz⟩
      | succ i => exact sz2 i (by simpa using hi)
    · cases i with
      | zero => exact (Ab.rep q (by omega)).mono st2.F
      | succ i => exact rep2 i q (by simpa using hi) hq
    · cases i with
      | zero => exact ⟨old2 b (.inr ⟨q, hq, hm, hb⟩), (Ab.loose q b (by omega) hm hb).2⟩
      | succ i =>
        obtain ⟨a1, a2⟩ := lo2 i q b (by simpa using hi) hq hm hb
        exact ⟨a1, fun h => a2 (.inl h)⟩
    · cases i with
      | zero =>
        cases i' with
        | zero => exact ⟨rfl, Ab.dis q q' b (by omega) (by omega) hm hm' hb hb'⟩
        | succ i' => exact absurd (.inr ⟨q, hq, hm, hb⟩) (lo2 i' q' b (by simpa using hi') hq' hm' hb').2
      | succ i =>
        cases i' with
        | zero => exact absurd (.inr ⟨q', hq', hm', hb'⟩) (lo2 i q b (by simpa using hi) hq hm hb).2
        | succ i' =>
          obtain ⟨a1, a2⟩ := di2 i q i' q' b (by simpa using hi) hq (by simpa using hi') hq' hm hm' hb hb'
          exact ⟨by omega, a2⟩
    · obtain ⟨e1, e2⟩ := dp2 e
      obtain ⟨e3, e4⟩ := hdp1 e1
      refine ⟨e3, fun i q hi hq => ?_⟩
      cases i with
      | zero => exact e4 q (by omega)
      | succ i => exact e2 i q (by simpa using hi) hq
  | [], _ :: _, _, _, _, _, _, _, _, hl, _, _ => by simp at hl
  | _ :: _, [], _, _, _, _, _, _, _, hl, _, _ => by simp at hl
end Go.Vk
end

section
namespace Go.Vk
open Go
set_option linter.unusedVariables false
set_option linter.unusedSimpArgs false
variable {w w' w0 : World} {S0 : SS} {F0 : Set'} {G G' : Gh} {ob ob' : Ob} {v : V} {x : Value} {σ σ' : St} {tm : Array Value} {id : Nat} {o o' : VO}
variable {R : Type} {r : R} {k : V → Option R} {kσ : St → Option R} {E : Env} {P : Program}

/-- Rows of cells against values. -/
structure RowsRep (w : World) (F L : Set') (st : Own) (fl : Bool) (sz : Nat) (Rw : Rows) (X : Nat → Nat → Value) : Prop where
  len : ∀ i, i < Rw.n → (Rw.get i).length = sz
  fl : fl = true → ∀ i j, i < Rw.n → j < sz → (cellAt (Rw.get i) j).leaf = true
  dp : st = .dp → ∃ Sr : Nat → Nat → Set', (∀ i j, i < Rw.n → j < sz → Rep w F true (cellAt (Rw.get i) j) (X i j) (Sr i j)) ∧ (∀ i j x, i < Rw.n → j < sz → Sr i j x → L x) ∧
      (∀ i j i' j' x, i < Rw.n → j < sz → i' < Rw.n → j' < sz → Sr i j x → Sr i' j' x → i = i' ∧ j = j')
  sh : st = .sh → ∀ i j, i < Rw.n → j < sz → Rep w F false (cellAt (Rw.get i) j) (X i j) none'
  nfz : st ≠ .fz

theorem Rows.sub_get (Rw : Rows) (o l : Nat) (z : List V) {i : Nat} (hi : i < l) : (Rw.sub o l z).get i = Rw.get (o + i) := by
  show mrgE (Nat.blt i l) _ _ = _
  rw [mrgE_eq]
  have : Nat.blt i l = true := by simpa using hi
  rw [this]; rfl

theorem Rows.app_get (Rw S : Rows) {i : Nat} : (Rw.app S).get i = if i < Rw.n then Rw.get i else S.get (i - Rw.n) := by
  show mrgE (Nat.blt i Rw.n) _ _ = _
  rw [mrgE_eq]
  by_cases h : i < Rw.n
  · have : Nat.blt i Rw.n = true := by simpa using h
    rw [this, if_pos h]; rfl
  · have : Nat.blt i Rw.n = false := by cases hb : Nat.blt i Rw.n with | false => rfl | true => exact absurd (by simpa using hb) h
    rw [this, if_neg h]; rfl

variable {F F' L L' : Set'} {st : Own} {fl fl' : Bool} {sz : Nat} {Rw Sw : Rows} {X Y : Nat → Nat → Value}

theorem RowsRep.sub (h : RowsRep w F L st fl sz Rw X) {o l : Nat} (hl : o + l ≤ Rw.n) (z : List V) : RowsRep w F L st fl sz (Rw.sub o l z) (fun i j => X (o + i) j) := by
  have hg : ∀ i, i < l → (Rw.sub o l z).get i = Rw.get (o + i) := fun i hi => Rows.sub_get _ _ _ _ hi
  refine ⟨fun i (hi : i < l) => by rw [hg i hi]; exact h.len _ (by omega), fun hf i j (hi : i < l) hj => by rw [hg i hi]; exact h.fl hf _ j (by omega) hj, fun e => ?_, fun e i j (hi : i < l) hj => by rw [hg i hi]; exact h.sh e _ j (by omega) hj, h.nfz⟩
  obtain ⟨Sr, s1, s2, s3⟩ := h.dp e
  exact ⟨fun i j => Sr (o + i) j, fun i j (hi : i < l) hj => by rw [hg i hi]; exact s1 _ j (by omega) hj, fun i j x (hi : i < l) hj hx => s2 _ j x (by omega) hj hx, fun i j i' j' x (hi : i < l) hj (hi' : i' < l) hj' hx hx' => by
    obtain ⟨a, b⟩ := s3 _ j _ j' x (by omega) hj (by omega) hj' hx hx'
    exact ⟨by omega, b⟩⟩

theorem RowsRep.low (h : RowsRep w F L st fl sz Rw X) (hF : ∀ b, F b → F' b) (hL : ∀ b, L b → F' b) : RowsRep w F' none' .sh fl sz Rw X := by
  refine ⟨h.len, h.fl, fun e => (by cases e), fun _ i j hi hj => ?_, (by intro e; cases e)⟩
  cases hs : st with
  | fz => exact absurd hs h.nfz
  | sh => exact (h.sh hs i j hi hj).mono hF
  | dp =>
    obtain ⟨Sr, s1, s2, s3⟩ := h.dp hs
    exact (s1 i j hi hj).frozen hF fun b hb => hL b (s2 i j b hi hj hb)

theorem RowsRep.mono (h : RowsRep w F L st fl sz Rw X) (hF : ∀ b, F b → F' b) (hL : ∀ b, L b → L' b) : RowsRep w F' L' st fl sz Rw X := by
  refine ⟨h.len, h.fl, fun e => ?_, fun e i j hi hj => (h.sh e i j hi hj).mono hF, h.nfz⟩
  obtain ⟨Sr, s1, s2, s3⟩ := h.dp e
  exact ⟨Sr, fun i j hi hj => (s1 i j hi hj).mono hF, fun i j x hi hj hx => hL _ (s2 i j x hi hj hx), s3⟩

theorem RowsRep.world (h : RowsRep w F L st fl sz Rw X) (hw : ∀ b, L b ∨ F b → w'.heap[b]? = w.heap[b]?) : RowsRep w' F L st fl sz Rw X := by
  refine ⟨h.len, h.fl, fun e => ?_, fun e i j hi hj => (h.sh e i j hi hj).world fun b hb => hw b (hb.elim (fun h => h.elim) .inr), h.nfz⟩
  obtain ⟨Sr, s1, s2, s3⟩ := h.dp e
  exact ⟨Sr, fun i j hi hj => (s1 i j hi hj).world fun b hb => hw b (hb.elim (fun h => .inl (s2 i j b hi hj h)) .inr), s2, s3⟩

theorem RowsRep.app (h : RowsRep w F L st fl sz Rw X) (h' : RowsRep w F L' st fl' sz Sw Y) (hd : ∀ b, L b → ¬ L' b) : RowsRep w F (fun b => L b ∨ L' b) st (fl && fl') sz (Rw.app Sw) (fun i j => if i < Rw.n then X i j else Y (i - Rw.n) j) := by
  have hn : (Rw.app Sw).n = Rw.n + Sw.n := rfl
  refine ⟨fun i hi => ?_, fun hf i j hi hj => ?_, fun e => ?_, fun e i j hi hj => ?_, h.nfz⟩
  · rw [Rows.app_get]; split
    · exact h.len i (by assumption)
    · exact h'.len _ (by rw [hn] at hi; omega)
  · simp only [Bool.and_eq_true] at hf
    rw [Rows.app_get]; split
    · exact h.fl hf.1 i j (by assumption) hj
    · exact h'.fl hf.2 _ j (by rw [hn] at hi; omega) hj
  · obtain ⟨Sr, s1, s2, s3⟩ := h.dp e
    obtain ⟨Sr', t1, t2, t3⟩ := h'.dp e
    refine ⟨fun i j => if i < Rw.n then Sr i j else Sr' (i - Rw.n) j, fun i j hi hj => ?_, fun i j x hi hj hx => ?_, fun i j i' j' x hi hj hi' hj' hx hx' => ?_⟩
    · rw [Rows.app_get]
      by_cases hc : i < Rw.n
      · simp only [if_pos hc]; exact s1 i j hc hj
      · simp only [if_neg hc]; exact t1 _ j (by rw [hn] at hi; omega) hj
    · by_cases hc : i < Rw.n
      · simp only [if_pos hc] at hx; exact .inl (s2 i j x hc hj hx)
      · simp only [if_neg hc] at hx; exact .inr (t2 _ j x (by rw [hn] at hi; omega) hj hx)
    · by_cases hc : i < Rw.n <;> by_cases hc' : i' < Rw.n
      · simp only [if_pos hc] at hx; simp only [if_pos hc'] at hx'; exact s3 _ _ _ _ x hc hj hc' hj' hx hx'
      · simp only [if_pos hc] at hx; simp only [if_neg hc'] at hx'; exact absurd (t2 _ j' x (by rw [hn] at hi'; omega) hj' hx') (hd x (s2 i j x hc hj hx))
      · simp only [if_neg hc] at hx; simp only [if_pos hc'] at hx'; exact absurd (t2 _ j x (by rw [hn] at hi; omega) hj hx) (hd x (s2 i' j' x hc' hj' hx'))
      · simp only [if_neg hc] at hx; simp only [if_neg hc'] at hx'
        obtain ⟨a, b⟩ := t3 _ _ _ _ x (by rw [hn] at hi; omega) hj (by rw [hn] at hi'; omega) hj' hx hx'
        exact ⟨by omega, b⟩
  · rw [Rows.app_get]
    by_cases hc : i < Rw.n
    · simp only [if_pos hc]; exact h.sh e i j hc hj
    · simp only [if_neg hc]; exact h'.sh e _ j (by rw [hn] at hi; omega) hj

/-- What lies in an object, as rows of values. -/
theorem ObjOk.rows {b off : Nat} {cs : Array Value} {e : TypeId} {fr : Nat × Nat} (h : ObjOk w G ob id o) (hbx : o.box = false) (hst : o.st ≠ .fz) (hl : G.loc id = some (b, off)) (hb : w.heap[b]? = some (.cells cs e fr)) :
    ∃ X : Nat → Nat → Value, RowsRep w G.F (G.N id) o.st o.fl o.sz o.rows X ∧ (∀ i j, i < o.n → j < o.sz → cs[off + i * o.sz + j]? = some (X i j)) ∧ Plain fr cs.size ∧ off + o.n * o.sz ≤ cs.size := by
  cases h with
  | null h1 => rw [hl] at h1; cases h1
  | row b' off' cs' e' fr' xs h1 hb' hsz hlen hxs hfl hp hF hc =>
    rw [hl] at h1; cases h1
    rw [hb] at hb'; cases hb'
    unfold CellsOk at hc
    rw [hbx] at hc
    refine ⟨xs, ⟨hlen, hfl, fun e => ?_, fun e => ?_, hst⟩, hxs, hp hst, hsz⟩
    · rw [e] at hc; exact hc
    · rw [e] at hc; exact hc

/-- Rows that lie one after the other in a row of cells. -/
def Lies (X : Nat → Nat → Value) (n sz : Nat) (l : List Value) : Prop := l.length = n * sz ∧ ∀ i j, i < n → j < sz → l[i * sz + j]? = some (X i j)

theorem lies_list (X : Nat → Nat → Value) (n sz : Nat) (hsz : 0 < sz) : ∃ l, Lies X n sz l ∧ ∀ q v, l[q]? = some v → ∃ i j, i < n ∧ j < sz ∧ q = i * sz + j ∧ v = X i j := by
  refine ⟨(List.range (n * sz)).map fun q => X (q / sz) (q % sz), ⟨by simp, fun i j hi hj => ?_⟩, fun q v hq => ?_⟩
  · have h1 : i * sz + j < n * sz := rowPos hi hj (Nat.le_refl n)
    have h2 : (i * sz + j) / sz = i := by rw [Nat.add_comm, Nat.add_mul_div_right _ _ hsz, Nat.div_eq_of_lt hj, Nat.zero_add]
    have h3 : (i * sz + j) % sz = j := by rw [Nat.add_comm, Nat.add_mul_mod_self_right, Nat.mod_eq_of_lt hj]
    simp [h1, h2, h3]
  · have hq' : q < n * sz := by
      rcases Nat.lt_or_ge q (n * sz) with h | h
      · exact h
      · rw [List.getElem?_eq_none (by simpa using h)] at hq; cases hq
    simp [hq'] at hq
    exact ⟨q / sz, q % sz, Nat.div_lt_of_lt_mul (by rw [Nat.mul_comm]; exact hq'), Nat.mod_lt _ hsz, by rw [Nat.mul_comm]; exact (Nat.div_add_mod q sz).symm, hq.symm⟩
end Go.Vk
end

section
namespace Go.Vk
open Go
set_option linter.unusedVariables false
set_option linter.unusedSimpArgs false
variable {w w' w0 : World} {S0 : SS} {F0 : Set'} {G G' : Gh} {ob ob' : Ob} {v : V} {x : Value} {σ σ' : St} {tm : Array Value} {id : Nat} {o o' : VO}
variable {R : Type} {r : R} {k : V → Option R} {kσ : St → Option R} {E : Env} {P : Program}

/-- What lies in an object that has a row: by what it is owned. -/
theorem ObjOk.parts {b off : Nat} {cs : Array Value} {e : TypeId} {fr : Nat × Nat} (h : ObjOk w G ob id o) (hbx : o.box = false) (hl : G.loc id = some (b, off)) (hb : w.heap[b]? = some (.cells cs e fr)) :
    ∃ X : Nat → Nat → Value, (o.fl = true → RowsRep w G.F none' .dp true o.sz o.rows X) ∧ (o.st = .dp → RowsRep w G.F (G.N id) .dp o.fl o.sz o.rows X) ∧ (o.st ≠ .dp → RowsRep w G.F none' .sh o.fl o.sz o.rows X) ∧
      (∀ i j, i < o.n → j < o.sz → cs[off + i * o.sz + j]? = some (X i j) ∧ (X i j).oneCell' = true) ∧ (o.st ≠ .fz → Plain fr cs.size) ∧ off + o.n * o.sz ≤ cs.size := by
  cases h with
  | null h1 => rw [hl] at h1; cases h1
  | row b' off' cs' e' fr' xs h1 hb' hsz hlen hxs hfl hp hF hc =>
    rw [hl] at h1; cases h1
    rw [hb] at hb'; cases hb'
    unfold CellsOk at hc
    rw [hbx] at hc
    have hany : ∀ i j, i < o.n → j < o.sz → ∃ m S, Rep w G.F m (cellAt (o.get i) j) (xs i j) S := by
      intro i j hi hj
      cases hs : o.st with
      | fz => rw [hs] at hc; exact ⟨_, _, hc i j hi hj⟩
      | sh => rw [hs] at hc; exact ⟨_, _, hc i j hi hj⟩
      | dp => rw [hs] at hc; obtain ⟨Sr, s1, _⟩ := hc; exact ⟨_, _, s1 i j hi hj⟩
    refine ⟨xs, fun hf => ⟨hlen, fun _ => hfl hf, fun _ => ⟨fun _ _ => none', fun i j hi hj => ?_, fun _ _ _ _ _ h => h.elim, fun _ _ _ _ _ _ _ _ _ h => h.elim⟩, fun e => (by cases e), (by intro e; cases e)⟩, fun e => ⟨hlen, hfl, fun _ => ?_, fun e => (by cases e), (by intro e; cases e)⟩, fun e => ⟨hlen, hfl, fun e => (by cases e), fun _ => ?_, (by intro e; cases e)⟩, fun i j hi hj => ⟨hxs i j hi hj, ?_⟩, hp, hsz⟩
    · obtain ⟨m, S, hr⟩ := hany i j hi hj
      exact hr.leaf (hfl hf i j hi hj)
    · rw [e] at hc; exact hc
    · cases hs : o.st with
      | fz => rw [hs] at hc; exact hc
      | sh => rw [hs] at hc; exact hc
      | dp => exact absurd hs e
    · obtain ⟨m, S, hr⟩ := hany i j hi hj
      exact hr.one.2

theorem rowsRep_nil {F L : Set'} {st : Own} {fl : Bool} {sz : Nat} {g : Nat → List V} {X : Nat → Nat → Value} (h : st ≠ .fz) : RowsRep w F L st fl sz ⟨0, g⟩ X :=
  ⟨fun i (hi : i < 0) => absurd hi (by omega), fun _ i j (hi : i < 0) => absurd hi (by omega), fun _ => ⟨fun _ _ => none', fun i j (hi : i < 0) => absurd hi (by omega), fun i j x (hi : i < 0) => absurd hi (by omega), fun i j i' j' x (hi : i < 0) => absurd hi (by omega)⟩, fun _ i j (hi : i < 0) => absurd hi (by omega), h⟩

theorem src_slice {size tx e' : Nat} (hk : P.underlying tx = some (.slice e')) {a : Option Addr} {n c : Nat} {l : List Value} (hl : l.length = n * size) (h1 : ∀ u ∈ l, u.oneCell' = true) (hcell : n = 0 ∧ l = [] ∨ ∃ ad, a = some ad ∧ ∀ j u, l[j]? = some u → w.cell? (ad.add j) = some u) : Src P size tx (.slice a n c) n l w := by
  rcases hcell with ⟨rfl, rfl⟩ | ⟨ad, rfl, h⟩
  · cases a with
    | none => exact Src.ofNil w hk c
    | some ad => exact Src.ofSlice w hk ad 0 c [] hl (fun j u h => by simp at h) h1
  · exact Src.ofSlice w hk ad n c l hl h h1

theorem appSrc_sound (hE : EnvOk E) (hI : Inv w0 S0 F0 G σ tm w) {t t2 : Nat} {y : V} {xy : Value} {kk : St → Rows → Bool → Own → Option R} (h : appSrc E t t2 σ y kk = some r) (hy : RepT w G (look σ.objs) y xy) (hz : 0 < (E.T t).esz) :
    ∃ (σ1 : St) (G1 : Gh) (ys : Rows) (yfl : Bool) (st : Own) (L : Set') (Y : Nat → Nat → Value) (l : List Value), kk σ1 ys yfl st = some r ∧ Inv w0 S0 F0 G1 σ1 tm w ∧ Step w G (look σ.objs) w G1 (look σ1.objs) ∧ σ1.tmps = σ.tmps ∧ (∀ b, L b → Loose w0 S0 G1 σ1 w b) ∧
      RowsRep w G1.F L st yfl (E.T t).esz ys Y ∧ Lies Y ys.n (E.T t).esz l ∧ Src E.P (E.T t).esz t2 xy ys.n l w := by
  unfold appSrc at h
  cases y with
  | str s =>
    obtain ⟨hb, h⟩ := bif_some h
    simp only [Bool.and_eq_true] at hb
    obtain ⟨⟨b1, b2⟩, b3⟩ := hb
    have b1 := Nat.eq_of_beq_eq_true b1
    obtain ⟨i, d, hT⟩ := hE.T t2 b2
    have hu := hT.und; rw [hT.str b3] at hu
    have := hy.str_inv; subst this
    refine ⟨σ, G, _, _, _, none', fun i _ => .int .u8 (strAt s i), byteCells s, h, hI, .same, rfl, fun b hb => hb.elim, ⟨fun _ _ => b1.symm, fun _ i j _ hj => ?_, fun _ => ⟨fun _ _ => none', fun i j _ hj => ?_, fun _ _ _ _ _ h => h.elim, fun _ _ _ _ _ _ _ _ _ h => h.elim⟩, fun e => (by cases e), (by intro e; cases e)⟩, ⟨by rw [byteCells_length, b1, Nat.mul_one], fun i j hi hj => ?_⟩, ?_⟩
    · have : j = 0 := by omega
      subst this; rfl
    · have : j = 0 := by omega
      subst this; exact .int _ _ _ _
    · have : j = 0 := by omega
      subst this
      have hi' : i < s.data.toList.length := by have : i < s.size := hi; simpa using this
      have e : i * (E.T t).esz + 0 = i := by rw [b1]; omega
      rw [e]
      have hs : strAt s i = (s.data.toList[i].toNat : Int) := by unfold strAt; rw [List.getD_eq_getElem?_getD, List.getElem?_eq_getElem hi']; rfl
      show _ = some (Value.int .u8 (strAt s i))
      rw [hs]
      unfold byteCells
      rw [List.getElem?_map, List.getElem?_eq_getElem hi']
      rfl
    · rw [b1]; exact Src.ofString w hu s
  | sl sz fl cap src n g =>
    obtain ⟨hb, h⟩ := bif_some h
    simp only [Bool.and_eq_true] at hb
    obtain ⟨⟨b1, b2⟩, b3⟩ := hb
    have b1 := Nat.eq_of_beq_eq_true b1
    obtain ⟨i2, d2, e2, ie2, ze2, hT2, _, hu2, _⟩ := slok_elem hE b3
    -- from a reading in some zone
    have key : ∀ Z : Set', Rep w Z false (.sl sz fl cap none n g) xy none' → ∃ (Y : Nat → Nat → Value) (l : List Value), Lies Y n (E.T t).esz l ∧ Src E.P (E.T t).esz t2 xy n l w ∧ (fl = true → RowsRep w none' none' .dp true (E.T t).esz ⟨n, g⟩ Y) ∧ RowsRep w Z none' .sh fl (E.T t).esz ⟨n, g⟩ Y := by
      intro Z hr
      subst b1
      cases hr with
      | nul _ _ _ _ _ _ a _ hcap =>
        exact ⟨fun _ _ => default, [], ⟨by simp, fun i j hi => absurd hi (by omega)⟩, src_slice hu2 (by simp) (by simp) (.inl ⟨rfl, rfl⟩), fun _ => rowsRep_nil (by intro e; cases e), rowsRep_nil (by intro e; cases e)⟩
      | slF _ _ _ _ _ _ b off c cs e fr xs _ hb hF hcap hnc hszz hlen hxs hc hfl =>
        obtain ⟨l, hl, hl2⟩ := lies_list xs n (E.T t).esz hz
        refine ⟨xs, l, hl, src_slice hu2 hl.1 (fun u hu => ?_) (.inr ⟨_, rfl, fun q u hq => ?_⟩), fun hf => ⟨hlen, fun _ => hfl hf, fun _ => ⟨fun _ _ => none', fun i j hi hj => (hc i j hi hj).leaf (hfl hf i j hi hj), fun _ _ _ _ _ h => h.elim, fun _ _ _ _ _ _ _ _ _ h => h.elim⟩, fun e => (by cases e), (by intro e; cases e)⟩, ⟨hlen, hfl, fun e => (by cases e), fun _ => hc, (by intro e; cases e)⟩⟩
        · obtain ⟨q, hq, rfl⟩ := List.mem_iff_getElem.1 hu
          obtain ⟨i, j, hi, hj, _, e⟩ := hl2 q _ (List.getElem?_eq_getElem hq)
          rw [e]; exact (hc i j hi hj).one.2
        · obtain ⟨i, j, hi, hj, rfl, rfl⟩ := hl2 q u hq
          rw [addr_add, cell_at hb, ← Nat.add_assoc]; exact hxs i j hi hj
    have zone : ∃ Z : Set', Rep w Z false (.sl sz fl cap none n g) xy none' ∧ (Z = G.F ∨ ∃ A ver, src2 src = some (A, ver) ∧ Z = fun b => G.F b ∨ G.N A b) := by
      cases hy with
      | val _ _ hr => exact ⟨_, by have := hr.nosrc; subst this; exact hr, .inl rfl⟩
      | view _ _ _ A ver i j _ _ _ hx hA hle hr =>
        obtain ⟨oA, hl, hv⟩ := alive_some b2
        exact ⟨_, hr oA hl hv, .inr ⟨A, ver, rfl, rfl⟩⟩
    obtain ⟨Z, hr, hZ⟩ := zone
    obtain ⟨Y, l, k1, k2, k3, k4⟩ := key Z hr
    cases hf : fl with
    | true =>
      rw [hf] at h
      exact ⟨σ, G, _, _, _, none', Y, l, h, hI, .same, rfl, fun b hb => hb.elim, (k3 hf).mono (fun _ h => h.elim) (fun _ h => h), k1, k2⟩
    | false =>
      rw [hf] at h
      simp only [cond_false] at h
      obtain ⟨σ1, G1, h, I1, st1, t1, _, hs⟩ := downTo_sound hI h (A0 := none') (fun b hb => hb.elim)
      refine ⟨σ1, G1, _, _, _, none', Y, l, h, I1, st1, t1, fun b hb => hb.elim, ?_, k1, k2⟩
      rw [hf] at k4
      refine k4.mono (fun b hb => ?_) (fun _ h => h)
      rcases hZ with rfl | ⟨A, ver, e, rfl⟩
      · exact st1.F b hb
      · obtain ⟨oA, e1, e2, e3⟩ := hs A ver e
        exact e3 b hb
  | ref id sub =>
    simp only at h
    cases ho : σ.obj id with
    | none => rw [ho] at h; cases h
    | some o =>
      rw [ho] at h
      have hlk := obj_look.1 ho
      obtain ⟨hb, h⟩ := bif_some h
      simp only [Bool.and_eq_true, Bool.not_eq_true'] at hb
      obtain ⟨⟨b1, b2⟩, b3⟩ := hb
      have b2 := Nat.eq_of_beq_eq_true b2
      obtain ⟨i2, d2, e2, ie2, ze2, hT2, _, hu2, _⟩ := slok_elem hE b3
      cases hy with
      | val _ _ hr => cases hr
      | ref _ _ _ hx hA hr =>
        obtain ⟨r1, a, c, rfl, r3, r4, r5⟩ := hr o hlk
        have hn : ∀ z, (subRows sub o.rows z).n = (subRows sub o.rows []).n := fun z => by cases sub <;> rfl
        -- where it lies, and what
        have key : ∃ (Y : Nat → Nat → Value) (l : List Value), Lies Y (subRows sub o.rows (E.T t).ezero).n (E.T t).esz l ∧ Src E.P (E.T t).esz t2 (.slice a (subRows sub o.rows []).n c) (subRows sub o.rows (E.T t).ezero).n l w ∧
            (o.fl = true → RowsRep w G.F none' .dp true (E.T t).esz (subRows sub o.rows (E.T t).ezero) Y) ∧ (o.st = .dp → RowsRep w G.F (G.N id) .dp o.fl (E.T t).esz (subRows sub o.rows (E.T t).ezero) Y) ∧ (o.st ≠ .dp → RowsRep w G.F none' .sh o.fl (E.T t).esz (subRows sub o.rows (E.T t).ezero) Y) := by
          rw [hn]
          have nilc : (subRows sub o.rows []).n = 0 → _ := fun e0 => show ∃ (Y : Nat → Nat → Value) (l : List Value), Lies Y (subRows sub o.rows []).n (E.T t).esz l ∧ Src E.P (E.T t).esz t2 (.slice a (subRows sub o.rows []).n c) (subRows sub o.rows []).n l w ∧
            (o.fl = true → RowsRep w G.F none' .dp true (E.T t).esz (subRows sub o.rows (E.T t).ezero) Y) ∧ (o.st = .dp → RowsRep w G.F (G.N id) .dp o.fl (E.T t).esz (subRows sub o.rows (E.T t).ezero) Y) ∧ (o.st ≠ .dp → RowsRep w G.F none' .sh o.fl (E.T t).esz (subRows sub o.rows (E.T t).ezero) Y) from by
            have e1 := hn (E.T t).ezero
            rw [e0] at e1
            have e2 : subRows sub o.rows (E.T t).ezero = ⟨0, (subRows sub o.rows (E.T t).ezero).get⟩ := by rw [← e1]
            rw [e0, e2]
            exact ⟨fun _ _ => default, [], ⟨by simp, fun i j hi => absurd hi (by omega)⟩, src_slice hu2 (by simp) (by simp) (.inl ⟨rfl, rfl⟩), fun _ => rowsRep_nil (by intro e; cases e), fun _ => rowsRep_nil (by intro e; cases e), fun _ => rowsRep_nil (by intro e; cases e)⟩
          rcases r5 with r5 | ⟨b, off, cs, ee, fr, q1, rfl, q3, q4⟩
          · exact nilc (by omega)
          · obtain ⟨X, x1, x2, x3, x4, x5, x6⟩ := (hI.objs id o hlk).parts r1 q1 q3
            obtain ⟨l, hl, hl2⟩ := lies_list (fun i j => X (offOf sub + i) j) (subRows sub o.rows []).n (E.T t).esz hz
            have hsub : ∀ {L : Set'} {st : Own} {fl : Bool}, RowsRep w G.F L st fl o.sz o.rows X → RowsRep w G.F L st fl (E.T t).esz (subRows sub o.rows (E.T t).ezero) (fun i j => X (offOf sub + i) j) := by
              intro L st fl hrr
              rw [← b2]
              cases sub with
              | none => simpa [subRows, offOf] using hrr
              | some p => exact hrr.sub r4 _
            refine ⟨_, l, hl, src_slice hu2 hl.1 (fun u hu => ?_) (.inr ⟨_, rfl, fun q u hq => ?_⟩), fun e => hsub (x1 e), fun e => hsub (x2 e), fun e => hsub (x3 e)⟩
            · obtain ⟨q, hq, rfl⟩ := List.mem_iff_getElem.1 hu
              obtain ⟨i, j, hi, hj, _, e⟩ := hl2 q _ (List.getElem?_eq_getElem hq)
              rw [e]; exact (x4 _ j (by omega) (by omega)).2
            · obtain ⟨i, j, hi, hj, rfl, rfl⟩ := hl2 q u hq
              rw [addr_add, cell_at q3]
              have := (x4 (offOf sub + i) j (by omega) (by omega)).1
              rw [Nat.add_mul] at this
              rw [← b2]
              have e : off + offOf sub * o.sz + (i * o.sz + j) = off + (offOf sub * o.sz + i * o.sz) + j := by omega
              rw [e]; exact this
        obtain ⟨Y, l, k1, k2, k3, k4, k5⟩ := key
        rw [← hn (E.T t).ezero] at k2 ⊢
        cases hf : o.fl with
        | true =>
          rw [hf] at h
          exact ⟨σ, G, _, _, _, none', Y, l, h, hI, .same, rfl, fun b hb => hb.elim, k3 hf, k1, k2⟩
        | false =>
          rw [hf] at h k4 k5
          simp only [cond_false] at h
          cases hs : o.st with
          | dp =>
            rw [hs] at h
            obtain ⟨I1, l1, l2⟩ := hI.kill hlk
            exact ⟨_, _, _, _, _, G.N id, Y, l, h, I1, kill_step hI hlk, rfl, l1, (k4 hs).mono (fun _ h => h) (fun _ h => h), k1, k2⟩
          | sh => rw [hs] at h; exact ⟨σ, G, _, _, _, none', Y, l, h, hI, .same, rfl, fun b hb => hb.elim, k5 (by rw [hs]; intro e; cases e), k1, k2⟩
          | fz => rw [hs] at h; exact ⟨σ, G, _, _, _, none', Y, l, h, hI, .same, rfl, fun b hb => hb.elim, k5 (by rw [hs]; intro e; cases e), k1, k2⟩
  | _ => cases h
end Go.Vk
end

section
namespace Go.Vk
open Go
set_option linter.unusedVariables false
set_option linter.unusedSimpArgs false
variable {w w' w0 : World} {S0 : SS} {F0 : Set'} {G G' : Gh} {ob ob' : Ob} {v : V} {x : Value} {σ σ' : St} {tm : Array Value} {id : Nat} {o o' : VO}
variable {R : Type} {r : R} {k : V → Option R} {kσ : St → Option R} {E : Env} {P : Program}

theorem Inv.drew (h : Inv w0 S0 F0 G σ tm w) : Inv w0 S0 F0 G σ tm w.drew :=
  (h.world (w' := w.drew) (fun b cs e fr h => ⟨cs, h, rfl⟩) (Nat.le_refl _) rfl rfl rfl (fun b _ _ => rfl)).1

theorem Loose.drew {b : Nat} (h : Loose w0 S0 G σ w b) : Loose w0 S0 G σ w.drew b := ⟨h.lt, h.mine, h.nF, h.nN, h.nR⟩

theorem append_zero_run {t tx ty e : Nat} {i : TypeInfo} (ht : P.underlying t = some (.slice e)) (hi : P.info? e = some i) {base : Option Addr} {n c : Nat} {x : Value} (hs : Src P i.size tx x 0 [] w) (hc : n ≤ c) :
    (Builtin.append_ #[t, tx] ty #[.slice base n c, x]).run P w = .ok (.slice base n c) w := by
  have h1 := hs.cells
  rcases hs.kind with ⟨e', hk⟩ | hk <;> cases base <;> simp [Builtin.append_, run_underlying ht, run_underlying hk, Go.sizeOf, typeInfo, hi, hs.len, hc, h1, storeCells]

theorem zeroCells_size (z : Array Value) (n : Nat) : (Builtin.zeroCells z n).size = n * z.size := by simp [Builtin.zeroCells]

/-- A row that was made for rows. -/
theorem newRow_of {F L : Set'} {st : Own} {fl : Bool} {sz c : Nat} {Rw : Rows} {X : Nat → Nat → Value} (h : RowsRep w F L st fl sz Rw X) (hc : Rw.n ≤ c) {xs : Array Value} (hsz : xs.size = c * sz) (hx : ∀ i j, i < Rw.n → j < sz → xs[i * sz + j]? = some (X i j)) :
    NewRow w F L ⟨false, st, sz, fl, Rw.n, Rw.get, 0⟩ c xs := by
  have hx' : ∀ i j, i < Rw.n → j < sz → xs.getD (i * sz + j) default = X i j := fun i j hi hj => by
    rw [Array.getD_eq_getD_getElem?, hx i j hi hj]; rfl
  refine ⟨hsz, hc, h.len, h.fl, fun e => ?_, fun e i j hi hj => ?_, h.nfz, rfl⟩
  · obtain ⟨Sr, s1, s2, s3⟩ := h.dp e
    exact ⟨Sr, fun i j hi hj => by rw [hx' i j hi hj]; exact s1 i j hi hj, s2, s3⟩
  · rw [hx' i j hi hj]; exact h.sh e i j hi hj

/-- An object out of rows that lie somewhere already. -/
theorem Inv.lay (h : Inv w0 S0 F0 G σ tm w) (hfree : σ.free id = true) {L : Set'} (hL : ∀ b, L b → Loose w0 S0 G σ w b) {st : Own} {fl : Bool} {sz : Nat} {Rw : Rows} {X : Nat → Nat → Value} (hr : RowsRep w G.F L st fl sz Rw X)
    {b off c : Nat} {cs : Array Value} {e : TypeId} {fr : Nat × Nat} (hb : w.heap[b]? = some (.cells cs e fr)) (hp : Plain fr cs.size) (hlb : Loose w0 S0 G σ w b) (hbL : ¬ L b) (hc : Rw.n ≤ c) (hsz : off + c * sz ≤ cs.size) (hx : ∀ i j, i < Rw.n → j < sz → cs[off + i * sz + j]? = some (X i j)) :
    ∃ G', Inv w0 S0 F0 G' (σ.putO id (some ⟨false, st, sz, fl, Rw.n, Rw.get, 0⟩)) tm w ∧ RepT w G' (look (σ.putO id (some ⟨false, st, sz, fl, Rw.n, Rw.get, 0⟩)).objs) (.ref id none) (.slice (some ⟨b, off, none⟩) Rw.n c) := by
  have hle : off + Rw.n * sz ≤ cs.size := by have := Nat.mul_le_mul_right sz hc; omega
  refine ⟨_, h.make (o := ⟨false, st, sz, fl, Rw.n, Rw.get, 0⟩) hfree (l := some (b, off)) (L := L) hL (fun b' off' hl _ => by cases hl; exact ⟨hlb, hbL⟩) (fun hs => ?_), ?_⟩
  · refine .row b off cs e fr X (by simp [Gh.at]) hb hle hr.len hx hr.fl (fun _ => hp) (fun hf => absurd hf hr.nfz) ?_
    unfold CellsOk
    cases hst : st with
    | dp =>
      obtain ⟨Sr, s1, s2, s3⟩ := hr.dp hst
      exact ⟨Sr, s1, fun i j x hi hj hx => by have := s2 i j x hi hj hx; simpa [Gh.at] using this, s3⟩
    | sh => exact hr.sh hst
    | fz => exact absurd hst hr.nfz
  · refine .ref _ _ _ ⟨_, _, _, rfl⟩ (by rw [look_putO]; simp) fun o2 ho => ?_
    rw [look_putO] at ho; simp at ho; subst ho
    exact ⟨rfl, _, _, rfl, hc, by simp [offOf, subRows, VO.rows], .inr ⟨b, off, cs, e, fr, by simp [Gh.at], by simp [offOf], hb, by simpa [offOf] using hsz⟩⟩

/-- An object without a row. -/
theorem Inv.layNull (h : Inv w0 S0 F0 G σ tm w) (hfree : σ.free id = true) {st : Own} {fl : Bool} {sz n : Nat} {g : Nat → List V} (hn : n = 0) (hst : st ≠ .fz) (a : Option Addr) :
    ∃ G', Inv w0 S0 F0 G' (σ.putO id (some ⟨false, st, sz, fl, n, g, 0⟩)) tm w ∧ RepT w G' (look (σ.putO id (some ⟨false, st, sz, fl, n, g, 0⟩)).objs) (.ref id none) (.slice a n 0) := by
  refine ⟨_, h.make (o := ⟨false, st, sz, fl, n, g, 0⟩) hfree (l := none) (L := none') (fun _ h => h.elim) (fun b' off' hl _ => by cases hl) (fun hs => .null (by simp [Gh.at]) rfl hn), ?_⟩
  refine .ref _ _ _ ⟨_, _, _, rfl⟩ (by rw [look_putO]; simp) fun o2 ho => ?_
  rw [look_putO] at ho; simp at ho; subst ho
  exact ⟨rfl, _, _, rfl, by simp [subRows, VO.rows, hn], by simp [offOf, subRows, VO.rows], .inl rfl⟩

theorem fits {need old bytes : Nat} (h : old < need) (h1 : need * bytes ≤ maxRow) (h2 : bytes ≤ 1048576) : Builtin.nextslicecap need old * bytes ≤ 281474976710656 := by
  refine growslice_fits_wide h ?_
  have hmr : maxRow = 1099511627776 := by decide
  have e1 : need / 4 * bytes ≤ need * bytes := Nat.mul_le_mul_right _ (Nat.div_le_self _ _)
  rw [Nat.add_mul, Nat.add_mul]
  have : 192 * bytes ≤ 192 * 1048576 := Nat.mul_le_mul_left _ h2
  omega

theorem grownCap_le (w : World) (need old : Nat) (e : TypeId) : need ≤ grownCap w need old e := by
  unfold grownCap
  simp [Question.cut]

/-- Old rows, new rows, and what is left of a grown row. -/
theorem grown_at {X Y : Nat → Nat → Value} {l n sz : Nat} {olds news : List Value} (ho : Lies X l sz olds) (hn : Lies Y n sz news) (rest : Array Value) :
    ∀ i j, i < l + n → j < sz → ((olds ++ news).toArray ++ rest)[i * sz + j]? = some (if i < l then X i j else Y (i - l) j) := by
  intro i j hi hj
  have hlen : ((olds ++ news).toArray).size = (l + n) * sz := by simp [ho.1, hn.1, Nat.add_mul]
  have hp := rowPos hi hj (Nat.le_refl (l + n))
  rw [Array.getElem?_append_left (by rw [hlen]; exact hp)]
  simp only [List.getElem?_toArray]
  by_cases hc : i < l
  · rw [if_pos hc, List.getElem?_append_left (by rw [ho.1]; exact rowPos hc hj (Nat.le_refl l))]
    exact ho.2 i j hc hj
  · rw [if_neg hc]
    have e : i * sz = l * sz + (i - l) * sz := by rw [← Nat.add_mul]; congr 1; omega
    rw [List.getElem?_append_right (by rw [ho.1, e]; omega), ho.1]
    have e2 : i * sz + j - l * sz = (i - l) * sz + j := by omega
    rw [e2]
    exact hn.2 _ j (by omega) hj
end Go.Vk
end

section
namespace Go.Vk
open Go
set_option linter.unusedVariables false
set_option linter.unusedSimpArgs false
variable {w w' w0 : World} {S0 : SS} {F0 : Set'} {G G' : Gh} {ob ob' : Ob} {v : V} {x : Value} {σ σ' : St} {tm : Array Value} {id : Nat} {o o' : VO}
variable {R : Type} {r : R} {k : V → Option R} {kσ : St → Option R} {E : Env} {P : Program}

theorem byteBound {t : Nat} (hok : (E.T t).slok = true) : (E.T t).ebytes ≤ 1048576 := by
  simp only [TI.slok, Bool.and_eq_true] at hok
  simpa using hok.2

theorem firstCells_drew {size n : Nat} {a : Option Addr} {c : Nat} {l : List Value} (hl : l.length = n * size) (hcell : n = 0 ∧ l = [] ∨ ∃ ad, a = some ad ∧ ∀ j u, l[j]? = some u → w.cell? (ad.add j) = some u) :
    (Builtin.firstCells size n (.slice a n c)).run P w.drew = .ok l.toArray w.drew := by
  rcases hcell with ⟨rfl, rfl⟩ | ⟨ad, rfl, h⟩
  · cases a with
    | none => exact run_firstCells_none w.drew size 0 0 c
    | some ad => exact run_firstCells_some w.drew size 0 ad 0 c [] (by simp) (fun j u h => by simp at h)
  · exact run_firstCells_some w.drew size n ad n c l hl (by simpa using h)

theorem appendC_sound (hE : EnvOk E) (hI : Inv w0 S0 F0 G σ tm w) {d t t2 ty : Nat} {a y : V} {xa xy : Value} (h : appendC E σ d t t2 a y kσ = some r) (ha : RepT w G (look σ.objs) a xa) (hy : RepT w G (look σ.objs) y xy) (hd : dstIn tm.size (some d) = true) :
    ∃ σ' G' w' xv, kσ σ' = some r ∧ Inv w0 S0 F0 G' σ' (putT tm (some d) xv) w' ∧ (Builtin.append_ #[t, t2] ty #[xa, xy]).run E.P w = .ok xv w' := by
  unfold appendC at h
  obtain ⟨hb, h⟩ := bif_none h
  simp only [Bool.not_eq_false', Bool.and_eq_true] at hb
  obtain ⟨hok, hnil⟩ := hb
  obtain ⟨ti, td, e, ie, ze, hT, _, hu, k1, k2, k3, k4, k5, k6, hz⟩ := slok_elem hE hok
  have hzc : ze.cells.size = (E.T t).esz := by rw [← k6]; have := zeroOk_len k5; simpa using this.symm
  have hby := byteBound hok
  obtain ⟨σ1, G1, ys, yfl, st, L, Y, l, h, I1, st1, t1, hL, hrr, hlies, hsrc⟩ := appSrc_sound hE hI h hy hz
  have hmr : maxRow = 1099511627776 := by decide
  have hby0 : 0 < (E.T t).ebytes := by simp only [TI.slok, Bool.and_eq_true] at hok; simpa using hok.1.2
  have ha1 := ha.step st1
  rw [← k2] at hsrc
  -- a grown row
  have grow : ∀ (σ2 : St) (G2 : Gh) (L2 : Set') (st2 : Own) (fl2 : Bool) (base : Option Addr) (n0 c0 : Nat) (Rw : Rows) (X : Nat → Nat → Value) (olds : List Value), Inv w0 S0 F0 G2 σ2 tm w → (∀ b, L2 b → Loose w0 S0 G2 σ2 w b) → σ2.free (d * 256) = true →
      RowsRep w G2.F L2 st2 fl2 (E.T t).esz Rw (fun i j => if i < n0 then X i j else Y (i - n0) j) → Rw.n = n0 + ys.n → Lies X n0 (E.T t).esz olds → (n0 = 0 ∧ olds = [] ∨ ∃ ad, base = some ad ∧ ∀ j u, olds[j]? = some u → w.cell? (ad.add j) = some u) →
      c0 < n0 + ys.n → (n0 + ys.n) * (E.T t).ebytes ≤ maxRow → kσ ((σ2.putO (d * 256) (some ⟨false, st2, (E.T t).esz, fl2, Rw.n, Rw.get, 0⟩)).put (some d) (.ref (d * 256) none)) = some r → xa = .slice base n0 c0 →
      ∃ σ' G' w' xv, kσ σ' = some r ∧ Inv w0 S0 F0 G' σ' (putT tm (some d) xv) w' ∧ (Builtin.append_ #[t, t2] ty #[xa, xy]).run E.P w = .ok xv w' := by
    intro σ2 G2 L2 st2 fl2 base n0 c0 Rw X olds I2 hL2 hfree hrr2 hRn hol hocell hc0 hbound hk hxa
    have hneed : n0 + ys.n ≤ maxRow := Nat.le_trans (Nat.le_mul_of_pos_right _ hby0) hbound
    have hrun := run_append_grow_src (P := E.P) w t t2 ty e ie ze hu k1 k4 base n0 c0 olds (firstCells_drew (by rw [k2]; exact hol.1) hocell) xy ys.n l hsrc hc0 (by omega) (by rw [k3]; exact fits hc0 hbound hby)
    have hgc := grownCap_le w (n0 + ys.n) c0 e
    have hns : ((olds ++ l).toArray ++ Builtin.zeroCells ze.cells (grownCap w (n0 + ys.n) c0 e - (n0 + ys.n))).size = grownCap w (n0 + ys.n) c0 e * (E.T t).esz := by
      rw [Array.size_append, zeroCells_size, hzc]
      simp only [List.size_toArray, List.length_append, hol.1, hlies.1]
      rw [← Nat.add_mul, ← Nat.add_mul]; congr 1; omega
    have hrr3 := hrr2.world (w' := w.drew) (fun b _ => rfl)
    obtain ⟨G', I', hv⟩ := I2.drew.newRow hfree (fun b hb => (hL2 b hb).drew) (newRow_of hrr3 (c := grownCap w (n0 + ys.n) c0 e) (by rw [hRn]; exact hgc) hns (fun i j hi hj => grown_at hol hlies _ i j (by rw [← hRn]; exact hi) hj)) e
    refine ⟨_, G', _, _, hk, I'.put hv hd, ?_⟩
    rw [hxa, hrun, ← hRn]
    rfl
  cases a with
  | sl sz fl cap src n g =>
    simp only [nilLike, Bool.and_eq_true] at hnil
    obtain ⟨⟨⟨n1, n2⟩, n3⟩, n4⟩ := hnil
    have n2 := Nat.eq_of_beq_eq_true n2
    have n3 := Nat.eq_of_beq_eq_true n3
    subst n3
    obtain ⟨cc, rfl⟩ := Option.isSome_iff_exists.1 n1
    simp only [Option.getD_some] at n2
    subst n2
    have hxa : ∃ base, xa = .slice base 0 0 := by
      have inv : ∀ Z : Set', Rep w Z false (.sl sz fl (some 0) none 0 g) xa none' → ∃ base, xa = .slice base 0 0 := by
        intro Z hr
        cases hr with
        | nul => exact ⟨_, rfl⟩
        | slF _ _ _ _ _ _ b off c cs e fr xs _ hb hF hcap => 
          have : c = 0 := by simp at hcap; omega
          subst this; exact ⟨_, rfl⟩
      cases ha with
      | val _ _ hr =>
        cases hr with
        | nul => exact ⟨_, rfl⟩
        | slF _ _ _ _ _ _ b off c cs e fr xs _ hb hF hcap =>
          have : c = 0 := by simp at hcap; omega
          subst this; exact ⟨_, rfl⟩
      | view _ _ _ A ver i j _ _ _ hx hA hle hr =>
        obtain ⟨oA, hl, hv⟩ := alive_some n4
        exact inv _ (hr oA hl hv)
    obtain ⟨base, hxa⟩ := hxa
    simp only at h
    obtain ⟨hfree, h⟩ := bif_none h
    simp only [Bool.not_eq_false'] at hfree
    obtain ⟨hbound, h⟩ := if_some h
    by_cases hn0 : ys.n = 0
    · obtain ⟨G', I', hv⟩ := I1.layNull hfree (st := st) (fl := yfl) (sz := (E.T t).esz) (g := ys.get) hn0 hrr.nfz base
      rw [hn0] at hsrc
      have hl0 : l = [] := by have := hlies.1; rw [hn0] at this; simpa using this
      rw [hl0] at hsrc
      refine ⟨_, G', w, _, h, I'.put hv hd, ?_⟩
      rw [hxa, append_zero_run hu k1 hsrc (Nat.le_refl 0), hn0]
    · exact grow σ1 G1 L st yfl base 0 0 ys (fun _ _ => default) [] I1 hL hfree (by simpa using hrr) (by omega) ⟨by simp, fun i j hi => absurd hi (by omega)⟩ (.inl ⟨rfl, rfl⟩) (by omega) (by simpa using hbound) h hxa
  | ref id sub =>
    simp only at h
    cases ho : σ1.obj id with
    | none => rw [ho] at h; cases h
    | some o =>
      rw [ho] at h
      have hlk := obj_look.1 ho
      obtain ⟨hb, h⟩ := bif_some h
      simp only [Bool.and_eq_true, Bool.not_eq_true'] at hb
      obtain ⟨⟨⟨b1, b2⟩, b3⟩, hfree⟩ := hb
      have b3 := Nat.eq_of_beq_eq_true b3
      have hnf : o.st ≠ .fz := fun e => by rw [e] at b1; cases b1
      obtain ⟨hbound, h⟩ := if_some h
      cases ha1 with
      | val _ _ hr => cases hr
      | ref _ _ _ hx hA hr =>
        obtain ⟨r1, base, c, hxa, r3, r4, r5⟩ := hr o hlk
        have hsubn : ∀ z, (subRows sub o.rows z).n = (subRows sub o.rows []).n := fun z => by cases sub <;> rfl
        -- the old rows
        have old : ∃ (X : Nat → Nat → Value) (olds : List Value), RowsRep w G1.F (G1.N id) o.st o.fl (E.T t).esz (subRows sub o.rows (E.T t).ezero) X ∧ Lies X (subRows sub o.rows []).n (E.T t).esz olds ∧
            ((subRows sub o.rows []).n = 0 ∧ olds = [] ∨ ∃ ad, base = some ad ∧ ∀ j u, olds[j]? = some u → w.cell? (ad.add j) = some u) ∧
            (c = 0 ∨ ∃ b off cs ee fr, G1.loc id = some (b, off) ∧ base = some ⟨b, off, none⟩ ∧ True ∧ w.heap[b]? = some (.cells cs ee fr) ∧ True ∨ True) := by
          have nilc : (subRows sub o.rows []).n = 0 → ∃ (X : Nat → Nat → Value) (olds : List Value), RowsRep w G1.F (G1.N id) o.st o.fl (E.T t).esz (subRows sub o.rows (E.T t).ezero) X ∧ Lies X (subRows sub o.rows []).n (E.T t).esz olds ∧
              ((subRows sub o.rows []).n = 0 ∧ olds = [] ∨ ∃ ad, base = some ad ∧ ∀ j u, olds[j]? = some u → w.cell? (ad.add j) = some u) ∧ (c = 0 ∨ ∃ b off cs ee fr, G1.loc id = some (b, off) ∧ base = some ⟨b, off, none⟩ ∧ True ∧ w.heap[b]? = some (.cells cs ee fr) ∧ True ∨ True) := by
            intro e0
            have e1 := hsubn (E.T t).ezero
            rw [e0] at e1
            have e2 : subRows sub o.rows (E.T t).ezero = ⟨0, (subRows sub o.rows (E.T t).ezero).get⟩ := by rw [← e1]
            rw [e2, e0]
            exact ⟨fun _ _ => default, [], rowsRep_nil hnf, ⟨by simp, fun i j hi => absurd hi (by omega)⟩, .inl ⟨rfl, rfl⟩, .inr ⟨0, 0, #[], 0, (0, 0), .inr trivial⟩⟩
          rcases r5 with r5 | ⟨b, off, cs, ee, fr, q1, hbase, q3, q4⟩
          · exact nilc (by omega)
          · obtain ⟨X, x2, x4, x5, x6⟩ := (I1.objs id o hlk).rows r1 hnf q1 q3
            obtain ⟨olds, hl, hl2⟩ := lies_list (fun i j => X (offOf sub + i) j) (subRows sub o.rows []).n (E.T t).esz hz
            refine ⟨_, olds, ?_, hl, .inr ⟨_, hbase, fun q u hq => ?_⟩, .inr ⟨0, 0, #[], 0, (0, 0), .inr trivial⟩⟩
            · rw [← b3]
              cases sub with
              | none => simpa [subRows, offOf] using x2
              | some p => exact x2.sub r4 _
            · obtain ⟨i, j, hi, hj, rfl, rfl⟩ := hl2 q u hq
              rw [addr_add, cell_at q3]
              have := x4 (offOf sub + i) j (by omega) (by omega)
              rw [Nat.add_mul] at this
              rw [← b3]
              have e : off + offOf sub * o.sz + (i * o.sz + j) = off + (offOf sub * o.sz + i * o.sz) + j := by omega
              rw [e]; exact this
        obtain ⟨X, olds, hox, hol, hocell, _⟩ := old
        -- the object is given up
        obtain ⟨I2, l1, l2⟩ := I1.kill hlk
        have hL2 : ∀ b, G1.N id b ∨ L b → Loose w0 S0 (G1.drop id) (σ1.putO id none) w b := fun b hb => hb.elim (l1 b) fun hb => (hL b hb).kill id
        have hdis : ∀ b, G1.N id b → ¬ L b := fun b hb hb' => (hL b hb').nN id hb
        have both : ∃ (G3 : Gh) (L3 : Set'), Inv w0 S0 F0 G3 (σ1.putO id none) tm w ∧ (∀ b, L3 b → Loose w0 S0 G3 (σ1.putO id none) w b) ∧ (∀ b off, G1.loc id = some (b, off) → Loose w0 S0 G3 (σ1.putO id none) w b ∧ ¬ L3 b) ∧
            RowsRep w G3.F L3 (o.st.le st) (o.fl && yfl) (E.T t).esz ((subRows sub o.rows (E.T t).ezero).app ys) (fun i j => if i < (subRows sub o.rows []).n then X i j else Y (i - (subRows sub o.rows []).n) j) := by
          have hroot : ∀ b off, G1.loc id = some (b, off) → ¬ (G1.N id b ∨ L b) := fun b off hl hb => hb.elim ((I1.root id o b off hlk hl hnf).2.2.2 id) (fun hb => (hL b hb).nR id o off hlk hl)
          by_cases hdd : o.st = .dp ∧ st = .dp
          · obtain ⟨d1, d2⟩ := hdd
            refine ⟨G1.drop id, fun b => G1.N id b ∨ L b, I2, hL2, fun b off hl => ⟨l2 b off hl hnf, hroot b off hl⟩, ?_⟩
            have e : o.st.le st = .dp := by rw [d1, d2]; rfl
            have hox' := hox; rw [d1] at hox'
            have hrr' := hrr; rw [d2] at hrr'
            rw [e]
            have := hox'.app hrr' hdis
            rw [hsubn] at this
            exact this
          · refine ⟨(G1.drop id).more fun b => G1.N id b ∨ L b, none', I2.share hL2, fun _ h => h.elim, fun b off hl => ⟨(l2 b off hl hnf).more (hroot b off hl), fun h => h⟩, ?_⟩
            have hsh : o.st.le st = .sh := by
              cases hs : o.st with
              | fz => exact absurd hs hnf
              | sh => cases hs2 : st <;> first | rfl | exact absurd hs2 hrr.nfz
              | dp => cases hs2 : st with
                | fz => exact absurd hs2 hrr.nfz
                | sh => rfl
                | dp => exact absurd ⟨hs, hs2⟩ hdd
            rw [hsh]
            have := (hox.low (F' := ((G1.drop id).more fun b => G1.N id b ∨ L b).F) (fun b hb => .inl hb) (fun b hb => .inr (.inl hb))).app (hrr.low (F' := ((G1.drop id).more fun b => G1.N id b ∨ L b).F) (fun b hb => .inl hb) (fun b hb => .inr (.inr hb))) (fun _ h => h.elim)
            rw [hsubn] at this
            exact this.mono (fun _ h => h) (fun b hb => hb.elim (fun h => h) (fun h => h))
        obtain ⟨G3, L3, I3, hL3, hroot3, hrr3⟩ := both
        have hfree3 : (σ1.putO id none).free (d * 256) = true := by
          simp only [St.free] at hfree ⊢
          rw [look_putO]
          by_cases e : id = d * 256
          · subst e; rw [hlk] at hfree; simp at hfree
          · rw [if_neg e]; exact hfree
        have hRn : ((subRows sub o.rows (E.T t).ezero).app ys).n = (subRows sub o.rows []).n + ys.n := by show (subRows sub o.rows (E.T t).ezero).n + ys.n = _; rw [hsubn]
        by_cases hroom : (subRows sub o.rows []).n + ys.n ≤ c
        · rcases r5 with r5 | ⟨b, off, cs, ee, fr, q1, hbase, q3, q4⟩
          · -- nothing to nothing
            have e1 : (subRows sub o.rows []).n = 0 := by omega
            have e2 : ys.n = 0 := by omega
            have e3 : ((subRows sub o.rows (E.T t).ezero).app ys).n = 0 := by omega
            obtain ⟨G', I', hv⟩ := I3.layNull hfree3 (st := o.st.le st) (fl := o.fl && yfl) (sz := (E.T t).esz) (g := ((subRows sub o.rows (E.T t).ezero).app ys).get) e3 hrr3.nfz base
            rw [e2] at hsrc
            have hl0 : l = [] := by have := hlies.1; rw [e2] at this; simpa using this
            rw [hl0] at hsrc
            refine ⟨_, G', w, _, h, I'.put hv hd, ?_⟩
            rw [hxa, append_zero_run hu k1 hsrc r3, r5, e1, e3]
          · -- there is room
            obtain ⟨X', x2', x4', x5', x6'⟩ := (I1.objs id o hlk).rows r1 hnf q1 q3
            have hpl := x5'
            have hlw := hroot3 b off q1
            have hlen : l.length = ys.n * (E.T t).esz := hlies.1
            have hin : off + offOf sub * (E.T t).esz + c * (E.T t).esz ≤ cs.size := by
              rw [b3, Nat.add_mul] at q4; omega
            have hin2 : (subRows sub o.rows []).n * (E.T t).esz + ys.n * (E.T t).esz ≤ c * (E.T t).esz := by rw [← Nat.add_mul]; exact Nat.mul_le_mul_right _ hroom
            have hrun := run_append_room_src (P := E.P) w t t2 ty e ie hu k1 b (off + offOf sub * (E.T t).esz) (subRows sub o.rows []).n c xy ys.n l hsrc hroom (fun j hj => by
                rw [k2, cell_at q3, Array.getElem?_eq_getElem (by omega)]; rfl) (fun j hj => by
                simp only [World.frozen?, q3]
                have := hpl (off + offOf sub * (E.T t).esz + (subRows sub o.rows []).n * ie.size + j) (by rw [k2]; omega)
                simpa using this)
            rw [k2] at hrun
            obtain ⟨s1, s2, s3, s4, s5, s6⟩ := setCells_heap b l (off + offOf sub * (E.T t).esz + (subRows sub o.rows []).n * (E.T t).esz) w
            obtain ⟨I4, lo4, _, _⟩ := I3.world (w' := w.setCells b (off + offOf sub * (E.T t).esz + (subRows sub o.rows []).n * (E.T t).esz) l) szs_setCells (by rw [s1]; exact Nat.le_refl _) s3 s4 s5 (fun b' _ hb' => s2 b' (fun e => hb' (e ▸ hlw.1)))
            have hblk : (w.setCells b (off + offOf sub * (E.T t).esz + (subRows sub o.rows []).n * (E.T t).esz) l).heap[b]? = some (.cells (splice cs (off + offOf sub * (E.T t).esz + (subRows sub o.rows []).n * (E.T t).esz) l.toArray) ee fr) := by
              have := setCells_block (w := w) (b := b) (p := off + offOf sub * (E.T t).esz + (subRows sub o.rows []).n * (E.T t).esz) (vs := l.toArray) q3
              simpa using this
            have hrr4 := hrr3.world (w' := w.setCells b (off + offOf sub * (E.T t).esz + (subRows sub o.rows []).n * (E.T t).esz) l) (fun b' hb' => s2 b' (fun e => by
              subst e
              exact hb'.elim hlw.2 hlw.1.nF))
            have hcells : ∀ i j, i < ((subRows sub o.rows (E.T t).ezero).app ys).n → j < (E.T t).esz → (splice cs (off + offOf sub * (E.T t).esz + (subRows sub o.rows []).n * (E.T t).esz) l.toArray)[off + offOf sub * (E.T t).esz + i * (E.T t).esz + j]? = some (if i < (subRows sub o.rows []).n then X i j else Y (i - (subRows sub o.rows []).n) j) := by
              intro i j hi hj
              rw [hRn] at hi
              rw [splice_at]
              have hsz : l.toArray.size = ys.n * (E.T t).esz := by simp [hlen]
              rw [hsz]
              by_cases hc : i < (subRows sub o.rows []).n
              · have hp := rowPos hc hj (Nat.le_refl _)
                rw [if_neg (by omega), if_pos hc]
                rcases hocell with ⟨e0, _⟩ | ⟨ad, e1, e2⟩
                · omega
                · rw [hbase] at e1; cases e1
                  have := e2 (i * (E.T t).esz + j) (X i j) (hol.2 i j hc hj)
                  rw [addr_add, cell_at q3, ← b3, ← Nat.add_assoc] at this
                  rw [← b3]; exact this
              · have e : i * (E.T t).esz = (subRows sub o.rows []).n * (E.T t).esz + (i - (subRows sub o.rows []).n) * (E.T t).esz := by rw [← Nat.add_mul]; congr 1; omega
                have hp := rowPos (n := ys.n) (c := ys.n) (i := i - (subRows sub o.rows []).n) (by omega) hj (Nat.le_refl _)
                rw [if_pos ⟨by omega, by omega, by omega⟩, if_neg hc]
                have e2 : off + offOf sub * (E.T t).esz + i * (E.T t).esz + j - (off + offOf sub * (E.T t).esz + (subRows sub o.rows []).n * (E.T t).esz) = (i - (subRows sub o.rows []).n) * (E.T t).esz + j := by omega
                rw [e2]
                simp only [List.getElem?_toArray]
                exact hlies.2 _ j (by omega) hj
            obtain ⟨G', I', hv⟩ := I4.lay hfree3 (fun b hb => lo4 b (hL3 b hb)) hrr4 hblk (by rw [splice_size]; exact hpl) (lo4 b hlw.1) hlw.2 (c := c) (by rw [hRn]; exact hroom) (by rw [splice_size]; exact hin) hcells
            refine ⟨_, G', _, _, h, I'.put hv hd, ?_⟩
            rw [hxa, hbase, b3, hrun, ← hRn]
        · exact grow (σ1.putO id none) G3 L3 (o.st.le st) (o.fl && yfl) base (subRows sub o.rows []).n c _ X olds I3 hL3 hfree3 hrr3 hRn hol hocell (by omega) hbound h hxa
  | _ => cases h
end Go.Vk
end

section
namespace Go.Vk
open Go
set_option linter.unusedVariables false
set_option linter.unusedSimpArgs false
variable {w w' w0 : World} {S0 : SS} {F0 : Set'} {G G' : Gh} {ob ob' : Ob} {v : V} {x : Value} {σ σ' : St} {tm : Array Value} {id : Nat} {o o' : VO}
variable {R : Type} {r : R} {k : V → Option R} {kσ : St → Option R} {E : Env} {P : Program}

theorem buildSlice_nil {t e : Nat} {ie : TypeInfo} (hu : P.underlying t = some (.slice e)) (hi : P.info? e = some ie) (w : World) :
    (Instr.buildSlice t 0 #[]).run P w = .ok (.slice (some ⟨w.heap.size, 0, none⟩) 0 0) (w.alloc (.cells #[] e)) := by
  simp [Instr.buildSlice, run_und hu, Go.sizeOf, typeInfo, hi, Instr.fill, newRow]
  congr 2
  apply Array.eq_empty_of_size_eq_zero
  simp

theorem rowsOf_get (ps : List (List V)) (z : List V) {i : Nat} (hi : i < ps.length) : (rowsOf ps z).get i = ps.getD i [] := selRow_at ps z hi

theorem buildSlice_sound (hE : EnvOk E) (hI : Inv w0 S0 F0 G σ tm w) {ρ : Operand → Value} (hev : ∀ x, RepT w G (look σ.objs) (E.ev σ 0 x) (ρ x)) {d : Option Nat} {t n : Nat} {parts : Array (Nat × Operand)}
    (h : (bif !((E.T t).slok && idxOk 0 parts.toList && Nat.beq parts.toList.length n && Nat.ble (n * (E.T t).esz) 16777216) then none else
      absorbParts (E.T t).esz σ (parts.toList.map fun p => E.ev σ 0 p.2) .dp fun σ ps w => newC σ d w (E.T t) ((E.T t).efl && ps.all (·.all V.leaf)) (rowsOf ps (E.T t).ezero) kσ) = some r) (hd : dstIn tm.size d = true) :
    ∃ σ' G' w' xv, kσ σ' = some r ∧ Inv w0 S0 F0 G' σ' (putT tm d xv) w' ∧ (Instr.buildSlice t n (parts.map fun (p : Nat × Operand) => (p.1, ρ p.2))).run E.P w = .ok xv w' := by
  obtain ⟨hb, h⟩ := bif_none h
  simp only [Bool.not_eq_false', Bool.and_eq_true] at hb
  obtain ⟨⟨⟨hok, hidx⟩, hn⟩, hsmall⟩ := hb
  have hn := Nat.eq_of_beq_eq_true hn
  have hsmall : n * (E.T t).esz ≤ 16777216 := by simpa using hsmall
  obtain ⟨ti, td, e, ie, ze, hT, _, hu, k1, k2, k3, k4, k5, k6, hz⟩ := slok_elem hE hok
  obtain ⟨σ1, G1, ps, own, ms, Sr, h, I1, st1, t1, l1, _, sz1, rep1, lo1, di1, dp1, nf1⟩ := absorbParts_sound (w := w) (tm := tm) (E.T t).esz (parts.toList.map fun p => E.ev σ 0 p.2) (parts.toList.map fun p => ρ p.2) σ G .dp none' _ h hI (by simp)
    (fun i hi => by
      have hi' : i < parts.toList.length := by simpa using hi
      have e1 : cellAt (parts.toList.map fun p => E.ev σ 0 p.2) i = E.ev σ 0 (parts.toList[i]).2 := by unfold cellAt; rw [List.getElem?_map, List.getElem?_eq_getElem hi']; rfl
      have e2 : (parts.toList.map fun p => ρ p.2).getD i default = ρ (parts.toList[i]).2 := by rw [List.getD_eq_getElem?_getD, List.getElem?_map, List.getElem?_eq_getElem hi']; rfl
      rw [e1, e2]; exact hev _) (fun _ h => h.elim)
  simp only [List.length_map] at l1 sz1 rep1 lo1 di1 dp1
  have hps : ps.length = n := by rw [l1]; exact hn
  -- the rows
  have rows : ∃ (G2 : Gh) (L : Set'), Inv w0 S0 F0 G2 σ1 tm w ∧ (∀ b, L b → Loose w0 S0 G2 σ1 w b) ∧ RowsRep w G2.F L own ((E.T t).efl && ps.all (·.all V.leaf)) (E.T t).esz (rowsOf ps (E.T t).ezero) (fun i j => ((parts.toList.map fun p => ρ p.2).getD i default).cells.getD j default) := by
    have hlen : ∀ i, i < (rowsOf ps (E.T t).ezero).n → ((rowsOf ps (E.T t).ezero).get i).length = (E.T t).esz := fun i hi => by
      have hi' : i < ps.length := hi
      rw [rowsOf_get ps _ hi']; exact (sz1 i (by omega)).1
    have hfl : ((E.T t).efl && ps.all (·.all V.leaf)) = true → ∀ i j, i < (rowsOf ps (E.T t).ezero).n → j < (E.T t).esz → (cellAt ((rowsOf ps (E.T t).ezero).get i) j).leaf = true := fun hf i j hi hj => by
      have hi' : i < ps.length := hi
      have hl := hlen i hi
      rw [rowsOf_get ps _ hi'] at hl ⊢
      rw [Bool.and_eq_true] at hf
      have := List.all_eq_true.1 hf.2 (ps[i]) (List.getElem_mem hi')
      have e : ps.getD i [] = ps[i] := by rw [List.getD_eq_getElem?_getD, List.getElem?_eq_getElem hi']; rfl
      rw [e] at hl ⊢
      exact all_at this (by omega)
    cases ho : own with
    | fz => exact absurd ho (nf1 (by intro e; cases e))
    | dp =>
      obtain ⟨_, hms⟩ := dp1 ho
      refine ⟨G1, fun b => ∃ i q, i < parts.toList.length ∧ q < (E.T t).esz ∧ Sr i q b, I1, fun b ⟨i, q, hi, hq, hb⟩ => (lo1 i q b hi hq (hms i q hi hq) hb).1, hlen, hfl, fun _ => ⟨Sr, fun i j hi hj => ?_, fun i j x hi hj hx => ⟨i, j, by have : i < ps.length := hi; omega, hj, hx⟩, fun i j i' j' x hi hj hi' hj' hx hx' => ?_⟩, fun e => (by cases e), (by intro e; cases e)⟩
      · have hi' : i < ps.length := hi
        rw [rowsOf_get ps _ hi']
        have := rep1 i j (by omega) hj
        rwa [hms i j (by omega) hj] at this
      · have hi1 : i < ps.length := hi
        have hi2 : i' < ps.length := hi'
        exact di1 i j i' j' x (by omega) hj (by omega) hj' (hms _ _ (by omega) hj) (hms _ _ (by omega) hj') hx hx'
    | sh =>
      have hLs : ∀ b, (∃ i q, i < parts.toList.length ∧ q < (E.T t).esz ∧ ms i q = true ∧ Sr i q b) → Loose w0 S0 G1 σ1 w b := fun b ⟨i, q, hi, hq, hm, hb⟩ => (lo1 i q b hi hq hm hb).1
      refine ⟨G1.more fun b => ∃ i q, i < parts.toList.length ∧ q < (E.T t).esz ∧ ms i q = true ∧ Sr i q b, none', I1.share hLs, fun _ h => h.elim, hlen, hfl, fun e => (by cases e), fun _ i j hi hj => ?_, (by intro e; cases e)⟩
      have hi' : i < ps.length := hi
      rw [rowsOf_get ps _ hi']
      have := rep1 i j (by omega) hj
      cases hm : ms i j with
      | true => rw [hm] at this; exact this.frozen (fun b hb => .inl hb) (fun b hb => .inr ⟨i, j, by omega, hj, hm, hb⟩)
      | false => rw [hm] at this; exact this.any.mono fun b hb => .inl hb
  obtain ⟨G2, L, I2, hL, hrr⟩ := rows
  have hRn : (rowsOf ps (E.T t).ezero).n = n := hps
  by_cases hn0 : n = 0
  · have hp0 : parts = #[] := by
      apply Array.eq_empty_of_size_eq_zero
      rw [← Array.length_toList]; omega
    obtain ⟨σ', G', a1, a2⟩ := newC_sound I2 h hd hL (c := 0) (xs := #[]) (newRow_of hrr (by omega) (by simp) (fun i j hi => absurd hi (by omega))) e
    refine ⟨σ', G', _, _, a1, a2, ?_⟩
    rw [hRn, hn0, hp0]
    simpa using buildSlice_nil hu k1 w
  · have hpos : ¬ n * (E.T t).esz = 0 := by
      intro e; rcases Nat.mul_eq_zero.1 e with e | e <;> omega
    obtain ⟨cells', f1, f2, f3⟩ := fill_rows (sz := (E.T t).esz) (parts.toList.map fun p => ρ p.2) 0 ((Array.range (n * ie.size)).map (ze.cells[· % ze.cells.size]!)) (fun v hv => by
        obtain ⟨i, hi, rfl⟩ := List.mem_iff_getElem.1 hv
        have hi' : i < parts.toList.length := by simpa using hi
        have := (sz1 i hi').2
        rwa [List.getD_eq_getElem?_getD, List.getElem?_eq_getElem hi] at this) (by simp only [List.length_map, Array.size_map, Array.size_range, k2]; rw [hn, Nat.zero_add]; exact Nat.le_refl _)
    have hcells : cells'.size = n * (E.T t).esz := by rw [f2]; simp [k2]
    obtain ⟨σ', G', a1, a2⟩ := newC_sound I2 h hd hL (c := n) (xs := cells') (newRow_of hrr (by omega) hcells (fun i j hi hj => by
      rw [hRn] at hi
      rw [f3 i j hj, dif_pos ⟨by omega, by simp only [List.length_map]; omega⟩]
      have hi' : i < (parts.toList.map fun p => ρ p.2).length := by simp only [List.length_map]; omega
      have hsz := (sz1 i (by omega)).2
      rw [List.getD_eq_getElem?_getD, List.getElem?_eq_getElem hi'] at hsz ⊢
      simp only [Option.getD_some, Nat.sub_zero] at hsz ⊢
      rw [Array.getD_eq_getD_getElem?, Array.getElem?_eq_getElem (by omega)]; rfl)) e
    refine ⟨σ', G', _, _, a1, a2, ?_⟩
    rw [hRn]
    refine run_buildSlice w t e n _ cells' ie ze hu k1 k4 (by rw [k2]; omega) (by rw [k2]; exact hpos) ?_
    rw [k2] at f1
    rw [Array.toList_map, idxOk_zip (ρ := ρ) 0 parts.toList hidx, k2]
    exact f1
end Go.Vk
end

section
namespace Go.Vk
open Go
set_option linter.unusedVariables false
set_option linter.unusedSimpArgs false
variable {w w' w0 : World} {S0 : SS} {F0 : Set'} {G G' : Gh} {ob ob' : Ob} {v : V} {x : Value} {σ σ' : St} {tm : Array Value} {id : Nat} {o o' : VO}
variable {R : Type} {r : R} {k : V → Option R} {kσ : St → Option R} {E : Env} {P : Program}

/-- What a call gives back, by how it is owned. -/
inductive ResRep (w : World) (F : Set') : V → Own → Value → Set' → Prop
  | dp (u : V) (x : Value) (S : Set') (h : Rep w F true u x S) : ResRep w F u .dp x S
  | dpA (cs : List V) (xs : Array Value) (S : Set') (Sr : Nat → Set') (hl : cs.length = xs.size) (h : ∀ i, i < cs.length → Rep w F true (cellAt cs i) (xs.getD i default) (Sr i)) (hS : ∀ i b, i < cs.length → Sr i b → S b)
      (hd : ∀ i i' b, i < cs.length → i' < cs.length → Sr i b → Sr i' b → i = i') : ResRep w F (.agg cs) .dp (.agg xs) S
  | sh (sz : Nat) (fl : Bool) (n : Nat) (g : Nat → List V) (b off c : Nat) (cs : Array Value) (e : TypeId) (fr : Nat × Nat) (X : Nat → Nat → Value) (S : Set') (hb : w.heap[b]? = some (.cells cs e fr)) (hS : S b) (hp : Plain fr cs.size) (hn : n ≤ c) (hsz : off + c * sz ≤ cs.size)
      (hr : RowsRep w F none' .sh fl sz ⟨n, g⟩ X) (hx : ∀ i j, i < n → j < sz → cs[off + i * sz + j]? = some (X i j)) : ResRep w F (.sl sz fl none none n g) .sh (.slice (some ⟨b, off, none⟩) n c) S
  | shN (sz : Nat) (fl : Bool) (g : Nat → List V) (a : Option Addr) (S : Set') : ResRep w F (.sl sz fl none none 0 g) .sh (.slice a 0 0) S
  | shP (row : List V) (j b off : Nat) (cs : Array Value) (e : TypeId) (fr : Nat × Nat) (xs : Nat → Value) (S : Set') (hb : w.heap[b]? = some (.cells cs e fr)) (hS : S b) (hp : Plain fr cs.size) (hx : ∀ i, i < row.length → cs[off + i]? = some (xs i))
      (hr : ∀ i, i < row.length → Rep w F false (cellAt row i) (xs i) none') : ResRep w F (.pv none row j) .sh (.pointer (some ⟨b, off + j, none⟩)) S
  | fz (u : V) (x : Value) (S : Set') (h : Rep w F false u x none') : ResRep w F u .fz x S
  | fzA (cs : List V) (xs : Array Value) (S : Set') (hl : cs.length = xs.size) (h : ∀ i, i < cs.length → Rep w F false (cellAt cs i) (xs.getD i default) none') : ResRep w F (.agg cs) .fz (.agg xs) S

theorem ResRep.mono {F F' : Set'} {u : V} {own : Own} {S : Set'} (h : ResRep w F u own x S) (hF : ∀ b, F b → F' b) : ResRep w F' u own x S := by
  cases h with
  | dp _ _ _ h => exact .dp _ _ _ (h.mono hF)
  | dpA cs xs _ Sr hl h hS hd => exact .dpA _ _ _ Sr hl (fun i hi => (h i hi).mono hF) hS hd
  | sh sz fl n g b off c cs e fr X _ hb hS hp hn hsz hr hx => exact .sh sz fl n g b off c cs e fr X _ hb hS hp hn hsz (hr.mono hF (fun _ h => h)) hx
  | shN => exact .shN _ _ _ _ _
  | shP row j b off cs e fr xs _ hb hS hp hx hr => exact .shP row j b off cs e fr xs _ hb hS hp hx (fun i hi => (hr i hi).mono hF)
  | fz _ _ _ h => exact .fz _ _ _ (h.mono hF)
  | fzA cs xs _ hl h => exact .fzA _ _ _ hl (fun i hi => (h i hi).mono hF)

theorem slO_of_rows {F L : Set'} {fl : Bool} {sz : Nat} {Rw : Rows} {X : Nat → Nat → Value} (h : RowsRep w F L .dp fl sz Rw X) {b off c : Nat} {cs : Array Value} {e : TypeId} {fr : Nat × Nat} (hb : w.heap[b]? = some (.cells cs e fr)) (hp : Plain fr cs.size) (hL : ¬ L b) (hc : Rw.n ≤ c)
    (hsz : off + c * sz ≤ cs.size) (hx : ∀ i j, i < Rw.n → j < sz → cs[off + i * sz + j]? = some (X i j)) : Rep w F true (.sl sz fl none none Rw.n Rw.get) (.slice (some ⟨b, off, none⟩) Rw.n c) (fun x => x = b ∨ L x) := by
  obtain ⟨Sr, s1, s2, s3⟩ := h.dp rfl
  exact .slO _ _ _ _ _ _ b off c cs e fr X _ Sr hb (.inl rfl) hp (.inl rfl) hc hsz h.len hx s1 h.fl (fun i j x hi hj hx => ⟨.inr (s2 i j x hi hj hx), fun e => hL (e ▸ s2 i j x hi hj hx)⟩) s3

theorem slF_of_rows {F L : Set'} {fl : Bool} {sz : Nat} {Rw : Rows} {X : Nat → Nat → Value} (h : RowsRep w F L .sh fl sz Rw X) {b off c : Nat} {cs : Array Value} {e : TypeId} {fr : Nat × Nat} (hb : w.heap[b]? = some (.cells cs e fr)) (hF : F b) (hc : Rw.n ≤ c)
    (hsz : off + c * sz ≤ cs.size) (hx : ∀ i j, i < Rw.n → j < sz → cs[off + i * sz + j]? = some (X i j)) : Rep w F false (.sl sz fl none none Rw.n Rw.get) (.slice (some ⟨b, off, none⟩) Rw.n c) none' :=
  .slF _ _ _ _ _ _ b off c cs e fr X _ hb hF (.inl rfl) hc hsz h.len hx (h.sh rfl) h.fl

/-- A handle's rows, where they lie. -/
theorem handle_rows (hI : Inv w0 S0 F0 G σ tm w) (hlk : look σ.objs id = some (some o)) {sub : Option (Nat × Nat)} (hr : RefOk w (G.loc id) o sub x) (z : List V) :
    (∃ a, x = .slice a (subRows sub o.rows z).n 0 ∧ (subRows sub o.rows z).n = 0) ∨ ∃ (b off c : Nat) (cs : Array Value) (e : TypeId) (fr : Nat × Nat) (X : Nat → Nat → Value) (off0 : Nat), G.loc id = some (b, off0) ∧ x = .slice (some ⟨b, off, none⟩) (subRows sub o.rows z).n c ∧ w.heap[b]? = some (.cells cs e fr) ∧
      (o.st ≠ .fz → Plain fr cs.size) ∧ (subRows sub o.rows z).n ≤ c ∧ off + c * o.sz ≤ cs.size ∧ (∀ i j, i < (subRows sub o.rows z).n → j < o.sz → cs[off + i * o.sz + j]? = some (X i j)) ∧
      (o.st = .dp → RowsRep w G.F (G.N id) .dp o.fl o.sz (subRows sub o.rows z) X) ∧ (o.st ≠ .dp → RowsRep w G.F none' .sh o.fl o.sz (subRows sub o.rows z) X) := by
  have hsubn : (subRows sub o.rows z).n = (subRows sub o.rows []).n := by cases sub <;> rfl
  obtain ⟨r1, a, c, rfl, r3, r4, r5⟩ := hr
  rw [hsubn]
  rcases r5 with r5 | ⟨b, off, cs, ee, fr, q1, rfl, q3, q4⟩
  · left; subst r5; exact ⟨a, rfl, by omega⟩
  · right
    obtain ⟨X, x1, x2, x3, x4, x5, x6⟩ := (hI.objs id o hlk).parts r1 q1 q3
    have hsub : ∀ {L : Set'} {st : Own} {fl : Bool}, RowsRep w G.F L st fl o.sz o.rows X → RowsRep w G.F L st fl o.sz (subRows sub o.rows z) (fun i j => X (offOf sub + i) j) := by
      intro L st fl hrr
      cases sub with
      | none => simpa [subRows, offOf] using hrr
      | some p => exact hrr.sub r4 _
    refine ⟨b, off + offOf sub * o.sz, c, cs, ee, fr, fun i j => X (offOf sub + i) j, off, q1, rfl, q3, x5, r3, ?_, fun i j hi hj => ?_, fun e => hsub (x2 e), fun e => hsub (x3 e)⟩
    · rw [Nat.add_mul] at q4; omega
    · have := (x4 (offOf sub + i) j (by omega) hj).1
      rw [Nat.add_mul] at this
      have e : off + offOf sub * o.sz + i * o.sz + j = off + (offOf sub * o.sz + i * o.sz) + j := by omega
      rw [e]; exact this

theorem retV_sound (hE : EnvOk E) (hI : Inv w0 S0 F0 G σ tm w) {t : Nat} {u : V} {kk : St → V → Own → Option R} (h : retV E t σ u kk = some r) (hu : RepT w G (look σ.objs) u x) {A0 : Set'} (hA : ∀ b, A0 b → Loose w0 S0 G σ w b) :
    ∃ σ' G' u' own S, kk σ' u' own = some r ∧ Inv w0 S0 F0 G' σ' tm w ∧ Step w G (look σ.objs) w G' (look σ'.objs) ∧ σ'.tmps = σ.tmps ∧ ResRep w G'.F u' own x S ∧ (∀ b, S b → Loose w0 S0 G' σ' w b ∧ ¬ A0 b) ∧ (∀ b, A0 b → Loose w0 S0 G' σ' w b) := by
  have leafCase : u.leaf = true → kk σ u .dp = some r → ∃ σ' G' u' own S, kk σ' u' own = some r ∧ Inv w0 S0 F0 G' σ' tm w ∧ Step w G (look σ.objs) w G' (look σ'.objs) ∧ σ'.tmps = σ.tmps ∧ ResRep w G'.F u' own x S ∧ (∀ b, S b → Loose w0 S0 G' σ' w b ∧ ¬ A0 b) ∧ (∀ b, A0 b → Loose w0 S0 G' σ' w b) :=
    fun hl h => ⟨σ, G, u, .dp, none', h, hI, .same, rfl, .dp _ _ _ (hu.leaf hl), fun _ h => h.elim, hA⟩
  unfold retV at h
  cases u with
  | ref id sub =>
    simp only at h
    cases ho : σ.obj id with
    | none => rw [ho] at h; cases h
    | some o =>
      rw [ho] at h
      have hlk := obj_look.1 ho
      obtain ⟨hbx, h⟩ := bif_none h
      cases hu with
      | val _ _ hr => cases hr
      | ref _ _ _ hx hA' hr =>
        have href := hr o hlk
        have hh := handle_rows hI hlk href (E.T t).ezero
        cases hst : o.st with
        | fz =>
          rw [hst] at h
          refine ⟨σ, G, _, _, none', h, hI, .same, rfl, .fz _ _ _ ?_, fun _ h => h.elim, hA⟩
          rcases hh with ⟨a, rfl, e0⟩ | ⟨b, off, c, cs, e, fr, X, off0, q1, rfl, q3, q4, q5, q6, q7, q8, q9⟩
          · rw [e0]; exact .nul _ _ _ _ _ _ _ _ (.inl rfl)
          · exact slF_of_rows (q9 (by rw [hst]; intro e; cases e)) q3 ((hI.root' hlk q1).2 hst) q5 q6 q7
        | sh =>
          rw [hst] at h
          obtain ⟨I1, l1, l2⟩ := hI.kill hlk
          rcases hh with ⟨a, rfl, e0⟩ | ⟨b, off, c, cs, e, fr, X, off0, q1, rfl, q3, q4, q5, q6, q7, q8, q9⟩
          · refine ⟨_, _, _, _, none', h, I1, kill_step hI hlk, rfl, ?_, fun _ h => h.elim, fun b hb => (hA b hb).kill id⟩
            rw [e0]; exact .shN _ _ _ _ _
          · exact ⟨_, _, _, _, fun b' => b' = b, h, I1, kill_step hI hlk, rfl, .sh _ _ _ _ b off c cs e fr X _ q3 rfl (q4 (by rw [hst]; intro e; cases e)) q5 q6 (q9 (by rw [hst]; intro e; cases e)) q7,
              fun b' hb' => by subst hb'; exact ⟨l2 b' off0 q1 (by rw [hst]; intro e; cases e), fun ha => (hA b' ha).nR id o off0 hlk q1⟩, fun b hb => (hA b hb).kill id⟩
        | dp =>
          rw [hst] at h
          obtain ⟨I1, l1, l2⟩ := hI.kill hlk
          rcases hh with ⟨a, rfl, e0⟩ | ⟨b, off, c, cs, e, fr, X, off0, q1, rfl, q3, q4, q5, q6, q7, q8, q9⟩
          · refine ⟨_, _, _, _, none', h, I1, kill_step hI hlk, rfl, .dp _ _ _ ?_, fun _ h => h.elim, fun b hb => (hA b hb).kill id⟩
            rw [e0]; exact .nul _ _ _ _ _ _ _ _ (.inl rfl)
          · refine ⟨_, _, _, _, fun b' => b' = b ∨ G.N id b', h, I1, kill_step hI hlk, rfl, .dp _ _ _ ((slO_of_rows (q8 hst) q3 (q4 (by rw [hst]; intro e; cases e)) ((hI.root id o b off0 hlk q1 (by rw [hst]; intro e; cases e)).2.2.2 id) q5 q6 q7).zone rfl), fun b' hb' => ?_, fun b hb => (hA b hb).kill id⟩
            rcases hb' with rfl | hb'
            · exact ⟨l2 b' off0 q1 (by rw [hst]; intro e; cases e), fun ha => (hA b' ha).nR id o off0 hlk q1⟩
            · exact ⟨l1 b' hb', fun ha => (hA b' ha).nN id hb'⟩
  | sl sz fl cap src n g =>
    simp only at h
    cases hn0 : nil0 cap src n with
    | true =>
      rw [hn0] at h
      exact ⟨σ, G, _, _, none', h, hI, .same, rfl, .dp _ _ _ (nil0_rep hn0 hu), fun _ h => h.elim, hA⟩
    | false =>
    rw [hn0] at h
    simp only [cond_false] at h
    obtain ⟨σ1, G1, h, I1, st1, t1, old1, hsrc⟩ := downTo_sound hI h hA
    refine ⟨σ1, G1, _, _, none', h, I1, st1, t1, .fz _ _ _ ?_, fun _ h => h.elim, old1⟩
    cases hu with
    | val _ _ hr => exact hr.retag.mono st1.F
    | view _ _ _ A ver i j _ _ _ hx hA' hle hr =>
      obtain ⟨oA, e1, e2, e3⟩ := hsrc A ver rfl
      exact (hr oA e1 e2).retag.mono e3
  | pv src row j =>
    simp only at h
    obtain ⟨σ1, G1, h, I1, st1, t1, old1, hsrc⟩ := downTo_sound hI h hA
    refine ⟨σ1, G1, _, _, none', h, I1, st1, t1, .fz _ _ _ ?_, fun _ h => h.elim, old1⟩
    cases hu with
    | val _ _ hr => exact hr.retagp.mono st1.F
    | vpv A ver _ _ _ hx hA' hle hr =>
      obtain ⟨oA, e1, e2, e3⟩ := hsrc A ver rfl
      exact (hr oA e1 e2).retagp.mono e3
  | agg cs =>
    simp only at h
    obtain ⟨hone, h⟩ := bif_none h
    obtain ⟨xs, rfl, hl, hc⟩ := hu.agg_inv
    obtain ⟨σ1, G1, cs1, own1, ms, Sr, h, Ab, hlen1, hdp, hone1, hnf1⟩ := absorb_sound (w := w) (tm := tm) cs σ G .dp (fun i => xs.getD i default) A0 _ h hI hc hA
    cases ho : own1 with
    | fz => exact absurd ho (hnf1 (by intro e; cases e))
    | dp =>
      rw [ho] at h
      obtain ⟨_, hms⟩ := hdp ho
      refine ⟨σ1, G1, _, _, fun b => ∃ q, q < cs1.length ∧ Sr q b, h, Ab.inv, Ab.step, Ab.tmps, .dpA cs1 xs _ Sr (by omega) (fun i hi => by have := Ab.rep i hi; rwa [hms i (by omega)] at this) (fun i b hi hb => ⟨i, hi, hb⟩) (fun i i' b hi hi' hb hb' => Ab.dis i i' b hi hi' (hms i (by omega)) (hms i' (by omega)) hb hb'), fun b ⟨q, hq, hb⟩ => Ab.loose q b hq (hms q (by omega)) hb, Ab.old⟩
    | sh =>
      rw [ho] at h
      have hLs : ∀ b, (∃ q, q < cs1.length ∧ ms q = true ∧ Sr q b) → Loose w0 S0 G1 σ1 w b := fun b ⟨q, hq, hm, hb⟩ => (Ab.loose q b hq hm hb).1
      refine ⟨σ1, G1.more fun b => ∃ q, q < cs1.length ∧ ms q = true ∧ Sr q b, _, _, none', h, Ab.inv.share hLs, Ab.step.trans' share_step, Ab.tmps, .fzA cs1 xs _ (by omega) (fun i hi => ?_), fun _ h => h.elim, fun b hb => (Ab.old b hb).more fun ⟨q, hq, hm, hb'⟩ => (Ab.loose q b hq hm hb').2 hb⟩
      have := Ab.rep i hi
      cases hm : ms i with
      | true => rw [hm] at this; exact this.frozen (fun b hb => .inl hb) (fun b hb => .inr ⟨i, hi, hm, hb⟩)
      | false => rw [hm] at this; exact this.any.mono fun b hb => .inl hb
  | adr id i j =>
    simp only at h
    cases ho : σ.obj id with
    | none => rw [ho] at h; cases h
    | some o =>
      rw [ho] at h
      have hlk := obj_look.1 ho
      simp only at h
      have hq := bif_some h; clear h
      obtain ⟨hb, h⟩ := hq
      simp only [Bool.and_eq_true, Bool.not_eq_true'] at hb
      obtain ⟨⟨⟨b1, b2⟩, b3⟩, b4⟩ := hb
      have b2 := Nat.eq_of_beq_eq_true b2
      subst b2
      have hnf : o.st ≠ .fz := fun e => by rw [e] at b4; cases b4
      cases hu with
      | val _ _ hr => cases hr
      | adr _ _ _ _ hx hA' hr =>
        obtain ⟨b, off, k1, rfl⟩ := hr o hlk
        cases hI.objs id o hlk with
        | null n1 n2 n3 => rw [n2] at b1; cases b1
        | row b' off' cs e fr xs l1 hb hsz hlen hxs hfl hp hF hc =>
          rw [k1] at l1; cases l1
          unfold CellsOk at hc
          rw [b1] at hc
          have hl0 := hlen 0 (by rw [hc.1]; omega)
          obtain ⟨I1, l1, l2⟩ := hI.kill hlk
          obtain ⟨σ1, G1, cs1, own1, ms, Sr, h, Ab, hlen1, hdp, hone1, hnf1⟩ := absorb_sound (w := w) (tm := tm) (o.get 0) (σ.putO id none) (G.drop id) .dp (fun q => xs 0 q) (fun b' => A0 b' ∨ b' = b) _ h I1 (fun q hq => (hc.2 q (by omega)).step (kill_step hI hlk)) (fun b' hb' => hb'.elim (fun h => (hA b' h).kill id) (fun e => by subst e; exact l2 b' off k1 hnf))
          have hxs0 : ∀ i, i < cs1.length → cs[off + i]? = some (xs 0 i) := fun i hi => by
            have := hxs 0 i (by rw [hc.1]; omega) (by omega)
            simpa using this
          have e0 : off + 0 * o.sz + j = off + j := by omega
          rw [e0]
          have hbA : ¬ A0 b := fun ha => (hA b ha).nR id o off hlk k1
          cases ho2 : own1 with
          | fz => exact absurd ho2 (hnf1 (by intro e; cases e))
          | dp =>
            rw [ho2] at h
            obtain ⟨_, hms⟩ := hdp ho2
            refine ⟨σ1, G1, _, _, fun b' => b' = b ∨ ∃ q, q < cs1.length ∧ Sr q b', h, Ab.inv, (kill_step hI hlk).trans' Ab.step, Ab.tmps, .dp _ _ _ (.pvO _ _ _ b off cs e fr (fun i => xs 0 i) _ Sr hb (.inl rfl) (hp hnf) hxs0 (fun i hi => by have := Ab.rep i hi; rwa [hms i (by omega)] at this) (fun i b' hi hb' => ⟨.inr ⟨i, hi, hb'⟩, fun e => (Ab.loose i b' hi (hms i (by omega)) hb').2 (.inr e)⟩)
              (fun i i' b' hi hi' hb' hb'' => Ab.dis i i' b' hi hi' (hms i (by omega)) (hms i' (by omega)) hb' hb'')), fun b' hb' => ?_, fun b' hb' => Ab.old b' (.inl hb')⟩
            rcases hb' with rfl | ⟨q, hq, hb'⟩
            · exact ⟨Ab.old b' (.inr rfl), hbA⟩
            · have := Ab.loose q b' hq (hms q (by omega)) hb'
              exact ⟨this.1, fun h => this.2 (.inl h)⟩
          | sh =>
            rw [ho2] at h
            have hLs : ∀ b', (∃ q, q < cs1.length ∧ ms q = true ∧ Sr q b') → Loose w0 S0 G1 σ1 w b' := fun b' ⟨q, hq, hm, hb'⟩ => (Ab.loose q b' hq hm hb').1
            have hnl : ∀ b', (A0 b' ∨ b' = b) → ¬ ∃ q, q < cs1.length ∧ ms q = true ∧ Sr q b' := fun b' hb' ⟨q, hq, hm, hb''⟩ => (Ab.loose q b' hq hm hb'').2 hb'
            refine ⟨σ1, G1.more fun b' => ∃ q, q < cs1.length ∧ ms q = true ∧ Sr q b', _, _, fun b' => b' = b, h, Ab.inv.share hLs, ((kill_step hI hlk).trans' Ab.step).trans' share_step, Ab.tmps, .shP _ _ b off cs e fr (fun i => xs 0 i) _ hb rfl (hp hnf) hxs0 (fun i hi => ?_), fun b' hb' => ?_, fun b' hb' => (Ab.old b' (.inl hb')).more (hnl b' (.inl hb'))⟩
            · have := Ab.rep i hi
              cases hm : ms i with
              | true => rw [hm] at this; exact this.frozen (fun b hb => .inl hb) (fun b hb => .inr ⟨i, hi, hm, hb⟩)
              | false => rw [hm] at this; exact this.any.mono fun b hb => .inl hb
            · subst hb'
              exact ⟨(Ab.old b' (.inr rfl)).more (hnl b' (.inr rfl)), hbA⟩
  | int kk n => exact leafCase rfl (by simpa [V.leaf] using h)
  | bool b => exact leafCase rfl (by simpa [V.leaf] using h)
  | str s => exact leafCase rfl (by simpa [V.leaf] using h)
  | nilp => exact leafCase rfl (by simpa [V.leaf] using h)
  | nilf => exact leafCase rfl (by simpa [V.leaf] using h)
  | nili => exact leafCase rfl (by simpa [V.leaf] using h)
  | fn f cs => simp [V.leaf] at h
  | tup cs => simp [V.leaf] at h
  | dead => simp [V.leaf] at h
  | ub => simp [V.leaf] at h
  | hole => simp [V.leaf] at h
end Go.Vk
end

section
namespace Go.Vk
open Go
set_option linter.unusedVariables false
set_option linter.unusedSimpArgs false
variable {w w' w0 : World} {S0 : SS} {F0 : Set'} {G G' : Gh} {ob ob' : Ob} {v : V} {x : Value} {σ σ' : St} {tm : Array Value} {id : Nat} {o o' : VO}
variable {R : Type} {r : R} {k : V → Option R} {kσ : St → Option R} {E : Env} {P : Program}

def resVal (tm : Array Value) : ResultVar → Sem Value
  | .tmp t => pure (tm.getD t undef)
  | .cell a t => do loadVar t (← asAddr (tm.getD a undef))

theorem tmps_eq {σ1 σ2 : St} (h : σ1.tmps = σ2.tmps) (t : Nat) : σ1.tmp t = σ2.tmp t := by simp only [St.tmp, h]

theorem loadAt_asAddr {t : Nat} {xa y : Value} (h : (Instr.loadAt t xa).run P w = .ok y w') (hx : ∃ a, xa = .pointer (some a)) : (do loadVar t (← asAddr xa) : Sem Value).run P w = .ok y w' := by
  obtain ⟨a, rfl⟩ := hx
  simpa [Instr.loadAt, Instr.sureAddr, asAddr] using h

/-- Results one after the other. -/
structure Given (w : World) (w0 : World) (S0 : SS) (G : Gh) (σ : St) (A0 : Set') (l : List (V × Own)) (xs : List Value) (Ss : Nat → Set') : Prop where
  len : l.length = xs.length
  rep : ∀ i p x, l[i]? = some p → xs[i]? = some x → ResRep w G.F p.1 p.2 x (Ss i)
  loose : ∀ i b, i < l.length → Ss i b → Loose w0 S0 G σ w b ∧ ¬ A0 b
  dis : ∀ i i' b, i < l.length → i' < l.length → Ss i b → Ss i' b → i = i'

theorem retL_sound (hE : EnvOk E) : ∀ (rs : List (Nat × ResultVar)) (σ : St) (G : Gh) (A0 : Set') (kk : St → List (V × Own) → Option R), retL E rs σ kk = some r → Inv w0 S0 F0 G σ tm w → (∀ b, A0 b → Loose w0 S0 G σ w b) →
    ∃ σ' G' l xs Ss, kk σ' l = some r ∧ Inv w0 S0 F0 G' σ' tm w ∧ Step w G (look σ.objs) w G' (look σ'.objs) ∧ ((rs.map (·.2)).mapM (resVal tm)).run E.P w = .ok xs w ∧ Given w w0 S0 G' σ' A0 l xs Ss ∧ (∀ b, A0 b → Loose w0 S0 G' σ' w b) ∧ xs.length = rs.length
  | [], σ, G, A0, kk, h, hI, hA => ⟨σ, G, [], [], fun _ => none', h, hI, .same, rfl, ⟨rfl, fun i p x h => by simp at h, fun i b h => absurd h (by simp), fun i i' b h => absurd h (by simp)⟩, hA, rfl⟩
  | (t, rv) :: rs, σ, G, A0, kk, h, hI, hA => by
    -- one result, then the others
    have step : ∀ (u : V) (y : Value), RepT w G (look σ.objs) u y → retV E t σ u (fun σ v w => retL E rs σ fun σ' l => kk σ' ((v, w) :: l)) = some r → (resVal tm rv).run E.P w = .ok y w →
        ∃ σ' G' l xs Ss, kk σ' l = some r ∧ Inv w0 S0 F0 G' σ' tm w ∧ Step w G (look σ.objs) w G' (look σ'.objs) ∧ ((((t, rv) :: rs).map (·.2)).mapM (resVal tm)).run E.P w = .ok xs w ∧ Given w w0 S0 G' σ' A0 l xs Ss ∧ (∀ b, A0 b → Loose w0 S0 G' σ' w b) ∧ xs.length = ((t, rv) :: rs).length := by
      intro u y hu h hy
      obtain ⟨σ1, G1, u', own, S, h, I1, st1, t1, rep1, lo1, old1⟩ := retV_sound hE hI h hu hA
      obtain ⟨σ2, G2, l, xs, Ss, h, I2, st2, run2, giv, old2, len2⟩ := retL_sound hE rs σ1 G1 (fun b => A0 b ∨ S b) _ h I1 (fun b hb => hb.elim (old1 b) fun hb => (lo1 b hb).1)
      refine ⟨σ2, G2, (u', own) :: l, y :: xs, fun i => match i with | 0 => S | i + 1 => Ss i, h, I2, st1.trans' st2, ?_, ⟨by simp [giv.len], fun i p x hp hx => ?_, fun i b hi hb => ?_, fun i i' b hi hi' hb hb' => ?_⟩, fun b hb => old2 b (.inl hb), by simp [len2]⟩
      · simp only [List.map_cons, List.mapM_cons, Sem.run_bind, hy, Result.andThen_ok, run2, Sem.run_pure]
      · cases i with
        | zero => simp at hp hx; subst hp hx; exact rep1.mono st2.F
        | succ i => exact giv.rep i p x (by simpa using hp) (by simpa using hx)
      · cases i with
        | zero => exact ⟨old2 b (.inr hb), (lo1 b hb).2⟩
        | succ i =>
          obtain ⟨a1, a2⟩ := giv.loose i b (by simpa using hi) hb
          exact ⟨a1, fun h => a2 (.inl h)⟩
      · cases i with
        | zero =>
          cases i' with
          | zero => rfl
          | succ i' => exact absurd (.inr hb) (giv.loose i' b (by simpa using hi') hb').2
        | succ i =>
          cases i' with
          | zero => exact absurd (.inr hb') (giv.loose i b (by simpa using hi) hb).2
          | succ i' => rw [giv.dis i i' b (by simpa using hi) (by simpa using hi') hb hb']
    cases rv with
    | tmp q => exact step _ _ (hI.tmps q) (by simpa [retL] using h) rfl
    | cell a t' =>
      simp only [retL] at h
      have hptr : ∃ ad, tm.getD a undef = .pointer (some ad) := by
        have hp := hI.tmps a
        cases hv : σ.tmp a with
        | adr id i j =>
          rw [hv] at hp
          cases hp with
          | val _ _ hr => cases hr
          | adr _ _ _ _ hx => obtain ⟨b, q, e⟩ := hx; exact ⟨_, e⟩
        | pv src row j => rw [hv] at hp; obtain ⟨b, q, e⟩ := hp.pv_inv; exact ⟨_, e⟩
        | _ => rw [hv] at h; cases h
      obtain ⟨u, y, h, hu, hrun⟩ := loadC_sound hE hI h (hI.tmps a)
      exact step u y hu h (loadAt_asAddr hrun hptr)
end Go.Vk
end

section
namespace Go.Vk
open Go
set_option linter.unusedVariables false
set_option linter.unusedSimpArgs false
variable {w w' w0 : World} {S0 : SS} {F0 : Set'} {G G' : Gh} {ob ob' : Ob} {v : V} {x : Value} {σ σ' : St} {tm : Array Value} {id : Nat} {o o' : VO}
variable {R : Type} {r : R} {k : V → Option R} {kσ : St → Option R} {E : Env} {P : Program}

/-- A value handed over: nothing of it is written. -/
inductive ArgOk (w : World) (F : Set') : V → Value → Prop
  | val (v : V) (x : Value) (h : Rep w F false v x none') : ArgOk w F v x
  | agg (cs : List V) (xs : Array Value) (hl : cs.length = xs.size) (h : ∀ i, i < cs.length → Rep w F false (cellAt cs i) (xs.getD i default) none') : ArgOk w F (.agg cs) (.agg xs)

/-- What a call may look at that is handed some objects. -/
def Zone (G : Gh) (σ : St) (ids : List Nat) (b : Nat) : Prop := G.F b ∨ ∃ id ∈ ids, ∃ o, look σ.objs id = some (some o) ∧ (G.N id b ∨ ∃ off, G.loc id = some (b, off))

theorem strip_rep {m : Bool} {F S : Set'} {c : V} (h : Rep w F m c x S) : Rep w F m (strip1 c) x S := by
  cases c with
  | sl sz fl cap src n g => exact h.retag
  | pv src row j => exact h.retagp
  | _ => exact h

theorem resC_sound (hI : Inv w0 S0 F0 G σ tm w) (ids : List Nat) : ∀ (cs : List V) (ys : Nat → Value) (kk : List V → Option R), resC σ cs kk = some r → (∀ i, i < cs.length → RepT w G (look σ.objs) (cellAt cs i) (ys i)) →
    (∀ i, i < cs.length → ∀ id ∈ (cellAt cs i).ids1, id ∈ ids) → ∃ cs', kk cs' = some r ∧ cs'.length = cs.length ∧ ∀ i, i < cs.length → Rep w (Zone G σ ids) false (cellAt cs' i) (ys i) none'
  | [], ys, kk, h, _, _ => ⟨[], h, rfl, fun i hi => absurd hi (by simp)⟩
  | c :: cs, ys, kk, h, hc, hid => by
    have h0 : RepT w G (look σ.objs) c (ys 0) := hc 0 (by simp)
    have rest : ∀ c', resC σ cs (fun cs' => kk (c' :: cs')) = some r → Rep w (Zone G σ ids) false c' (ys 0) none' → ∃ cs', kk cs' = some r ∧ cs'.length = (c :: cs).length ∧ ∀ i, i < (c :: cs).length → Rep w (Zone G σ ids) false (cellAt cs' i) (ys i) none' := by
      intro c' h hr
      obtain ⟨cs', k1, k2, k3⟩ := resC_sound hI ids cs (fun i => ys (i + 1)) _ h (fun i hi => hc (i + 1) (by simpa using hi)) (fun i hi => hid (i + 1) (by simpa using hi))
      refine ⟨c' :: cs', k1, by simp [k2], fun i hi => ?_⟩
      cases i with
      | zero => exact hr
      | succ i => exact k3 i (by simpa using hi)
    have hid0 : ∀ id ∈ c.ids1, id ∈ ids := hid 0 (by simp)
    cases c with
    | ref id sub =>
      simp only [resC] at h
      cases ho : σ.obj id with
      | none => rw [ho] at h; cases h
      | some o =>
        rw [ho] at h
        have hlk := obj_look.1 ho
        cases sub with
        | some p => cases h
        | none =>
          simp only at h
          obtain ⟨hbx, h⟩ := bif_none h
          cases h0 with
          | val _ _ hr => cases hr
          | ref _ _ _ hx hA hr =>
            have hin : id ∈ ids := hid0 id (by simp [V.ids1])
            refine rest _ h ?_
            rcases handle_rows hI hlk (hr o hlk) [] with ⟨a, e, e0⟩ | ⟨b, off, c, cs', e, fr, X, off0, q1, e', q3, q4, q5, q6, q7, q8, q9⟩
            · rw [e]
              have e0' : o.n = 0 := e0
              show Rep _ _ _ (.sl o.sz o.fl none none o.n o.get) (.slice a o.n 0) _
              rw [e0']; exact .nul _ _ _ _ _ _ _ _ (.inl rfl)
            · rw [e']
              have hZ : ∀ b', G.N id b' ∨ (∃ off, G.loc id = some (b', off)) → Zone G σ ids b' := fun b' hb' => .inr ⟨id, hin, o, hlk, hb'⟩
              have hsh : RowsRep w (Zone G σ ids) none' .sh o.fl o.sz (subRows none o.rows []) X := by
                by_cases hd : o.st = .dp
                · exact (q8 hd).low (fun b hb => .inl hb) (fun b hb => hZ b (.inl hb))
                · exact (q9 hd).low (fun b hb => .inl hb) (fun b hb => hb.elim)
              exact slF_of_rows hsh q3 (hZ b (.inr ⟨off0, q1⟩)) q5 q6 q7
    | sl sz fl cap src n g =>
      simp only [resC] at h
      obtain ⟨hal, h⟩ := bif_some h
      refine rest _ h ?_
      cases h0 with
      | val _ _ hr => exact hr.retag.mono fun b hb => .inl hb
      | view _ _ _ A ver i j _ _ _ hx hA hle hr =>
        obtain ⟨oA, hl, hv⟩ := alive_some hal
        exact (hr oA hl hv).retag.mono fun b hb => hb.elim .inl fun hb => .inr ⟨A, hid0 A (by simp [V.ids1]), oA, hl, .inl hb⟩
    | pv src row j =>
      simp only [resC] at h
      obtain ⟨hal, h⟩ := bif_some h
      refine rest _ h ?_
      cases h0 with
      | val _ _ hr => exact hr.retagp.mono fun b hb => .inl hb
      | vpv A ver _ _ _ hx hA hle hr =>
        obtain ⟨oA, hl, hv⟩ := alive_some hal
        exact (hr oA hl hv).retagp.mono fun b hb => hb.elim .inl fun hb => .inr ⟨A, hid0 A (by simp [V.ids1]), oA, hl, .inl hb⟩
    | adr id i j =>
      simp only [resC] at h
      cases ho : σ.obj id with
      | none => rw [ho] at h; cases h
      | some o =>
        rw [ho] at h
        have hlk := obj_look.1 ho
        simp only at h
        obtain ⟨hb, h⟩ := bif_some h
        simp only [Bool.and_eq_true] at hb
        cases i with
        | succ i => cases h
        | zero =>
          simp only at h
          cases h0 with
          | val _ _ hr => cases hr
          | adr _ _ _ _ hx hA hr =>
            obtain ⟨b, off, k1, e⟩ := hr o hlk
            refine rest _ h ?_
            rw [e]
            cases hI.objs id o hlk with
            | null n1 n2 n3 => rw [n2] at hb; cases hb.1
            | row b' off' cs' e' fr xs l1 hbb hsz hlen hxs hfl hp hF hcc =>
              rw [k1] at l1; cases l1
              unfold CellsOk at hcc
              rw [hb.1] at hcc
              have hl0 := hlen 0 (by rw [hcc.1]; omega)
              have e0 : off + 0 * o.sz + j = off + j := by omega
              rw [e0]
              refine .pvF _ _ _ b off cs' e' fr (fun q => xs 0 q) _ hbb (.inr ⟨id, hid0 id (by simp [V.ids1]), o, hlk, .inr ⟨off, k1⟩⟩) (fun q hq => ?_) (fun q hq => ?_)
              · have := hxs 0 q (by rw [hcc.1]; omega) (by omega)
                simpa using this
              · exact (hcc.2 q (by omega)).leaf (all_at hb.2 hq)
    | int kk n => exact rest _ (by simpa [resC, V.leaf] using h) (h0.leaf rfl)
    | bool b => exact rest _ (by simpa [resC, V.leaf] using h) (h0.leaf rfl)
    | str s => exact rest _ (by simpa [resC, V.leaf] using h) (h0.leaf rfl)
    | nilp => exact rest _ (by simpa [resC, V.leaf] using h) (h0.leaf rfl)
    | nilf => exact rest _ (by simpa [resC, V.leaf] using h) (h0.leaf rfl)
    | nili => exact rest _ (by simpa [resC, V.leaf] using h) (h0.leaf rfl)
    | fn f cs => simp [resC, V.leaf] at h
    | agg cs => simp [resC, V.leaf] at h
    | tup cs => simp [resC, V.leaf] at h
    | dead => simp [resC, V.leaf] at h
    | ub => simp [resC, V.leaf] at h
    | hole =>
      have h : (resC σ cs fun cs' => kk (.hole :: cs')) = some r := by simpa only [resC] using h
      exact rest .hole h (by
        cases h0 with
        | val _ _ hr => cases hr; exact .hole _ _ _ (by assumption))

theorem mem_idsIn {σ : St} {v : V} {id : Nat} (h : id ∈ v.ids) : id ∈ idsIn σ v := by
  unfold idsIn; exact List.mem_append_left _ h

theorem argC_sound (hI : Inv w0 S0 F0 G σ tm w) {t : Nat} {ids : List Nat} (h : argC E t σ v k = some r) (hv : RepT w G (look σ.objs) v x) (hids : ∀ id ∈ idsIn σ v, id ∈ ids) : ∃ v', k v' = some r ∧ ArgOk w (Zone G σ ids) v' x := by
  have single : v.one = true → (∀ id ∈ v.ids1, id ∈ ids) → resC σ [v] (fun vs => k (cellAt vs 0)) = some r → ∃ v', k v' = some r ∧ ArgOk w (Zone G σ ids) v' x := by
    intro _ hid h
    have g1 : ∀ i, i < [v].length → RepT w G (look σ.objs) (cellAt [v] i) ((fun _ => x) i) := fun i hi => by
      have : i = 0 := by simpa using hi
      subst this; exact hv
    have g2 : ∀ i, i < [v].length → ∀ id ∈ (cellAt [v] i).ids1, id ∈ ids := fun i hi => by
      have : i = 0 := by simpa using hi
      subst this; exact hid
    obtain ⟨cs', k1, k2, k3⟩ := resC_sound hI ids [v] (fun _ => x) _ h g1 g2
    exact ⟨_, k1, .val _ _ (k3 0 (by simp))⟩
  unfold argC at h
  cases v with
  | agg cs =>
    simp only at h
    obtain ⟨xs, rfl, hl, hc⟩ := hv.agg_inv
    obtain ⟨cs', k1, k2, k3⟩ := resC_sound hI ids cs (fun i => xs.getD i default) _ h hc (fun i hi id hm => hids id (mem_idsIn (by
      show id ∈ cs.flatMap V.ids1
      exact List.mem_flatMap.2 ⟨cs[i], List.getElem_mem hi, by simpa [cellAt, hi] using hm⟩)))
    exact ⟨_, k1, .agg _ _ (by omega) (fun i hi => k3 i (by omega))⟩
  | fn f cs =>
    simp only at h
    obtain ⟨xs, rfl, hl, hc⟩ := hv.fn_inv
    obtain ⟨cs', k1, k2, k3⟩ := resC_sound hI ids cs (fun i => xs.getD i default) _ h hc (fun i hi id hm => hids id (mem_idsIn (by
      show id ∈ cs.flatMap V.ids1
      exact List.mem_flatMap.2 ⟨cs[i], List.getElem_mem hi, by simpa [cellAt, hi] using hm⟩)))
    exact ⟨_, k1, .val _ _ (.fn _ _ _ _ (by omega) (fun i hi => k3 i (by omega)))⟩
  | ref id sub =>
    simp only at h
    cases ho : σ.obj id with
    | none => rw [ho] at h; cases h
    | some o =>
      rw [ho] at h
      have hlk := obj_look.1 ho
      obtain ⟨hbx, h⟩ := bif_none h
      cases hv with
      | val _ _ hr => cases hr
      | ref _ _ _ hx hA hr =>
        have hin : id ∈ ids := hids id (mem_idsIn (by simp [V.ids, V.ids1]))
        refine ⟨_, h, .val _ _ ?_⟩
        rcases handle_rows hI hlk (hr o hlk) (E.T t).ezero with ⟨a, e, e0⟩ | ⟨b, off, c, cs', e, fr, X, off0, q1, e', q3, q4, q5, q6, q7, q8, q9⟩
        · rw [e, e0]; exact .nul _ _ _ _ _ _ _ _ (.inl rfl)
        · rw [e']
          have hZ : ∀ b', G.N id b' ∨ (∃ off, G.loc id = some (b', off)) → Zone G σ ids b' := fun b' hb' => .inr ⟨id, hin, o, hlk, hb'⟩
          have hsh : RowsRep w (Zone G σ ids) none' .sh o.fl o.sz (subRows sub o.rows (E.T t).ezero) X := by
            by_cases hd : o.st = .dp
            · exact (q8 hd).low (fun b hb => .inl hb) (fun b hb => hZ b (.inl hb))
            · exact (q9 hd).low (fun b hb => .inl hb) (fun b hb => hb.elim)
          exact slF_of_rows hsh q3 (hZ b (.inr ⟨off0, q1⟩)) q5 q6 q7
  | adr id i j =>
    simp only at h
    cases ho : σ.obj id with
    | none => rw [ho] at h; cases h
    | some o =>
      rw [ho] at h
      have hlk := obj_look.1 ho
      simp only at h
      have hq := if_some h; clear h
      obtain ⟨hi, h⟩ := hq
      have hin : id ∈ ids := hids id (mem_idsIn (by simp [V.ids, V.ids1]))
      have hZ : ∀ b', G.N id b' ∨ (∃ off, G.loc id = some (b', off)) → Zone G σ ids b' := fun b' hb' => .inr ⟨id, hin, o, hlk, hb'⟩
      cases hv with
      | val _ _ hr => cases hr
      | adr _ _ _ _ hx hA hr =>
        obtain ⟨b, off, k1, e⟩ := hr o hlk
        cases hI.objs id o hlk with
        | null n1 n2 n3 => omega
        | row b' off' cs' e' fr xs l1 hbb hsz hlen hxs hfl hp hF hcc =>
          rw [k1] at l1; cases l1
          unfold CellsOk at hcc
          have hli := hlen i hi
          cases hbx : o.box with
          | true =>
            rw [hbx] at hcc h
            simp only [cond_true] at h
            have hi0 : i = 0 := by omega
            subst hi0
            simp only at h
            obtain ⟨row', k2, k3, k4⟩ := resC_sound hI ids (o.get 0) (fun q => xs 0 q) _ h (fun q hq => hcc.2 q (by omega)) (fun q hq id' hm => hids id' (by
              unfold idsIn
              refine List.mem_append_right _ (List.mem_flatMap.2 ⟨id, by simp [V.ids, V.ids1], ?_⟩)
              rw [ho]
              simp only [hbx, cond_true]
              exact List.mem_flatMap.2 ⟨(o.get 0)[q], List.getElem_mem hq, by simpa [cellAt, hq] using hm⟩))
            refine ⟨_, k2, .val _ _ ?_⟩
            have e0 : off + 0 * o.sz + j = off + j := by omega
            rw [e, e0]
            refine .pvF _ _ _ b off cs' e' fr (fun q => xs 0 q) _ hbb (hZ b (.inr ⟨off, k1⟩)) (fun q hq => ?_) (fun q hq => k4 q (by omega))
            have := hxs 0 q hi (by omega)
            simpa using this
          | false =>
            rw [hbx] at hcc h
            simp only [cond_false] at h
            refine ⟨_, h, .val _ _ ?_⟩
            rw [e]
            refine .pvF _ _ _ b (off + i * o.sz) cs' e' fr (fun q => xs i q) _ hbb (hZ b (.inr ⟨off, k1⟩)) (fun q hq => ?_) (fun q hq => ?_)
            · exact hxs i q hi (by simp at hq; omega)
            · have hq' : q < (o.get i).length := by simpa using hq
              have e1 : cellAt ((o.get i).map strip1) q = strip1 (cellAt (o.get i) q) := by simp [cellAt, hq']
              rw [e1]
              refine strip_rep ?_
              cases hst : o.st with
              | dp =>
                rw [hst] at hcc
                obtain ⟨Sr, s1, s2, s3⟩ := hcc
                exact (s1 i q hi (by omega)).frozen (fun b hb => .inl hb) (fun b hb => hZ b (.inl (s2 i q b hi (by omega) hb)))
              | sh => rw [hst] at hcc; exact (hcc i q hi (by omega)).mono fun b hb => .inl hb
              | fz => rw [hst] at hcc; exact (hcc i q hi (by omega)).mono fun b hb => .inl hb
  | sl sz fl cap src n g => exact single rfl (fun id hm => hids id (mem_idsIn hm)) (by simpa [V.one] using h)
  | pv src row j => exact single rfl (fun id hm => hids id (mem_idsIn hm)) (by simpa [V.one] using h)
  | int kk n => exact single rfl (fun id hm => hids id (mem_idsIn hm)) (by simpa [V.one] using h)
  | bool b => exact single rfl (fun id hm => hids id (mem_idsIn hm)) (by simpa [V.one] using h)
  | str s => exact single rfl (fun id hm => hids id (mem_idsIn hm)) (by simpa [V.one] using h)
  | nilp => exact single rfl (fun id hm => hids id (mem_idsIn hm)) (by simpa [V.one] using h)
  | nilf => exact single rfl (fun id hm => hids id (mem_idsIn hm)) (by simpa [V.one] using h)
  | nili => exact single rfl (fun id hm => hids id (mem_idsIn hm)) (by simpa [V.one] using h)
  | tup cs => simp [V.one] at h
  | dead => simp [V.one] at h
  | ub => simp [V.one] at h
  | hole => exact single rfl (fun id hm => hids id (mem_idsIn hm)) (by simpa [V.one] using h)

theorem argsC_sound (hI : Inv w0 S0 F0 G σ tm w) (ids : List Nat) : ∀ (ts : List Nat) (vs : List V) (xs : List Value) (kk : List V → Option R), argsC E σ ts vs kk = some r → vs.length = xs.length → (∀ i, i < vs.length → RepT w G (look σ.objs) (cellAt vs i) (xs.getD i default)) →
    (∀ v ∈ vs, ∀ id ∈ idsIn σ v, id ∈ ids) → ∃ vs', kk vs' = some r ∧ vs'.length = vs.length ∧ ∀ i, i < vs.length → ArgOk w (Zone G σ ids) (cellAt vs' i) (xs.getD i default) := by
  have main : ∀ (vs : List V) (ts : List Nat) (xs : List Value) (kk : List V → Option R), argsC E σ ts vs kk = some r → vs.length = xs.length → (∀ i, i < vs.length → RepT w G (look σ.objs) (cellAt vs i) (xs.getD i default)) →
      (∀ v ∈ vs, ∀ id ∈ idsIn σ v, id ∈ ids) → ∃ vs', kk vs' = some r ∧ vs'.length = vs.length ∧ ∀ i, i < vs.length → ArgOk w (Zone G σ ids) (cellAt vs' i) (xs.getD i default) := by
    intro vs
    induction vs with
    | nil => intro ts xs kk h _ _ _; exact ⟨[], by cases ts <;> simpa [argsC] using h, rfl, fun i hi => absurd hi (by simp)⟩
    | cons v vs ih =>
      intro ts xs kk h hl hc hid
      cases xs with
      | nil => simp at hl
      | cons x xs =>
        have go : ∀ t ts', argC E t σ v (fun v' => argsC E σ ts' vs fun vs' => kk (v' :: vs')) = some r → ∃ vs', kk vs' = some r ∧ vs'.length = (v :: vs).length ∧ ∀ i, i < (v :: vs).length → ArgOk w (Zone G σ ids) (cellAt vs' i) ((x :: xs).getD i default) := by
          intro t ts' h
          obtain ⟨v', h, hv'⟩ := argC_sound hI h (hc 0 (by simp)) (hid v (by simp))
          obtain ⟨vs', k1, k2, k3⟩ := ih ts' xs _ h (by simpa using hl) (fun i hi => hc (i + 1) (by simpa using hi)) (fun u hu => hid u (by simp [hu]))
          refine ⟨v' :: vs', k1, by simp [k2], fun i hi => ?_⟩
          cases i with
          | zero => exact hv'
          | succ i => exact k3 i (by simpa using hi)
        cases ts with
        | nil => exact go 0 [] (by simpa [argsC] using h)
        | cons t ts' => exact go t ts' (by simpa [argsC] using h)
  exact fun ts vs => main vs ts
end Go.Vk
end

section
namespace Go.Vk
open Go
set_option linter.unusedVariables false
set_option linter.unusedSimpArgs false
variable {w w' w0 : World} {S0 : SS} {F0 : Set'} {G G' : Gh} {ob ob' : Ob} {v : V} {x : Value} {σ σ' : St} {tm : Array Value} {id : Nat} {o o' : VO}
variable {R : Type} {r : R} {k : V → Option R} {kσ : St → Option R} {E : Env} {P : Program}

theorem freezeL_sound : ∀ (ids : List Nat) (σ : St) (G : Gh), Inv w0 S0 F0 G σ tm w → ∃ G', Inv w0 S0 F0 G' (freezeL σ ids) tm w ∧ Step w G (look σ.objs) w G' (look (freezeL σ ids).objs) ∧ (freezeL σ ids).tmps = σ.tmps ∧
    (∀ id ∈ ids, ∀ o, look σ.objs id = some (some o) → ∀ b, (G.N id b ∨ ∃ off, G.loc id = some (b, off)) → G'.F b) ∧ (∀ b, Loose w0 S0 G σ w b → Loose w0 S0 G' (freezeL σ ids) w b) ∧ (∀ k, (freezeL σ ids).free k = σ.free k)
  | [], σ, G, h => ⟨G, h, .same, rfl, fun id hi => by simp at hi, fun b hb => hb, fun k => rfl⟩
  | id :: ids, σ, G, h => by
    simp only [freezeL]
    cases ho : σ.obj id with
    | none =>
      obtain ⟨G', a1, a2, a3, a4, a5, a6⟩ := freezeL_sound ids σ G h
      refine ⟨G', a1, a2, a3, fun id' hi o hl b hb => ?_, a5, a6⟩
      rcases List.mem_cons.1 hi with rfl | hi
      · rw [obj_look.2 hl] at ho; cases ho
      · exact a4 id' hi o hl b hb
    | some o =>
      have hlk := obj_look.1 ho
      obtain ⟨G', a1, a2, a3, a4, a5, a6⟩ := freezeL_sound ids (σ.putO id (some (o.low true))) (G.down id true) (h.down hlk true)
      have st := down_step h hlk true
      refine ⟨G', a1, st.trans' a2, a3, fun id' hi o' hl b hb => ?_, fun b hb => a5 b (hb.down hlk true), fun k => ?_⟩
      · by_cases e : id' = id
        · subst e
          refine a2.F b ?_
          rcases hb with hb | ⟨off, hb⟩
          · exact .inr (.inl hb)
          · exact .inr (.inr ⟨rfl, off, hb⟩)
        · rcases List.mem_cons.1 hi with rfl | hi
          · exact absurd rfl e
          · refine a4 id' hi o' (by rw [look_putO, if_neg (fun h => e h.symm)]; exact hl) b (hb.imp (fun hb => ?_) (fun hb => hb))
            simp only [Gh.down, if_neg e]; exact hb
      · rw [show (freezeL (σ.putO id (some ⟨o.box, .fz, o.sz, o.fl, o.n, o.get, o.ver⟩)) ids).free k = (σ.putO id (some (o.low true))).free k from a6 k]
        simp only [St.free]
        rw [look_putO]
        by_cases e : id = k
        · subst e; rw [if_pos rfl, hlk]
        · rw [if_neg e]

theorem look_append {α : Type} : ∀ (l m : List (Nat × α)) (k : Nat), look (l ++ m) k = match look l k with | some x => some x | none => look m k
  | [], m, k => rfl
  | (a, x) :: l, m, k => by
    rw [List.cons_append, look_cons, look_cons, look_append l m k]
    by_cases h : a = k <;> simp [h]

theorem look_none {α : Type} : ∀ (l : List (Nat × α)) (k : Nat), (∀ q ∈ l, q.1 ≠ k) → look l k = none
  | [], k, _ => rfl
  | (a, x) :: l, k, h => by
    rw [look_cons, if_neg (h (a, x) (by simp)), look_none l k (fun q hq => h q (by simp [hq]))]

theorem free_putL {l : List (Nat × Option VO)} {k : Nat} (h : σ.free k = true) (hl : ∀ q ∈ l, q.1 ≠ k) : (σ.putL l).free k = true := by
  simp only [St.free, St.putL] at h ⊢
  rw [look_append, look_none l k hl]
  exact h

theorem putL_cons (σ : St) (q : Nat × Option VO) (l : List (Nat × Option VO)) : σ.putL (q :: l) = (σ.putL l).putO q.1 q.2 := rfl
theorem putL_append (σ : St) (l m : List (Nat × Option VO)) : σ.putL (l ++ m) = (σ.putL m).putL l := by simp [St.putL, List.append_assoc]

theorem distinct_cons {a : Nat} {l : List Nat} (h : distinct (a :: l) = true) : (∀ b ∈ l, b ≠ a) ∧ distinct l = true := by
  simp only [distinct, Bool.and_eq_true] at h
  refine ⟨fun b hb e => ?_, h.2⟩
  have := List.all_eq_true.1 h.1 b hb
  subst e; simp at this

theorem distinct_append {l m : List Nat} : distinct (l ++ m) = true → distinct l = true ∧ distinct m = true ∧ ∀ a ∈ l, ∀ b ∈ m, a ≠ b := by
  induction l with
  | nil => intro h; exact ⟨rfl, h, fun a ha => by simp at ha⟩
  | cons a l ih =>
    intro h
    obtain ⟨h1, h2⟩ := distinct_cons (l := l ++ m) h
    obtain ⟨i1, i2, i3⟩ := ih h2
    refine ⟨?_, i2, fun c hc b hb => ?_⟩
    · simp only [distinct, Bool.and_eq_true]
      refine ⟨List.all_eq_true.2 fun b hb => ?_, i1⟩
      have := h1 b (by simp [hb])
      cases hq : Nat.beq a b with
      | false => rfl
      | true => exact absurd (Nat.eq_of_beq_eq_true hq).symm this
    · rcases List.mem_cons.1 hc with rfl | hc
      · exact fun e => h1 b (by simp [hb]) e.symm
      · exact i3 c hc b hb

theorem make_step (hfree : σ.free id = true) {l : Option (Nat × Nat)} {L : Set'} : Step w G (look σ.objs) w (G.at id l L) (look (σ.putO id (some o)).objs) := by
  have hfr := free_look hfree
  refine ⟨.refl w, fun _ h => h, fun k hk => by rw [look_putO]; split <;> simp [hk], fun _ _ => rfl, fun _ _ _ _ _ _ _ _ => rfl, fun k o' hk hd => ?_⟩
  rw [look_putO] at hk
  by_cases e : id = k
  · subst e; exact absurd hfr hd
  · rw [if_neg e] at hk
    have e' : k ≠ id := fun h => e h.symm
    exact ⟨o', hk, rfl, rfl, rfl, by simp [Gh.at, e'], Nat.le_refl _, fun _ => ⟨fun b hb => .inr (by simp only [Gh.at, if_neg e']; exact hb), fun _ => .refl⟩⟩

theorem Loose.make {b : Nat} (h : Loose w0 S0 G σ w b) {l : Option (Nat × Nat)} {L : Set'} (hL : ¬ L b) (hl : ∀ off, l ≠ some (b, off)) : Loose w0 S0 (G.at id l L) (σ.putO id (some o)) w b := by
  refine ⟨h.lt, h.mine, h.nF, fun k hk => ?_, fun k o' off hk hl' => ?_⟩
  · by_cases e : k = id
    · simp only [Gh.at, if_pos e] at hk; exact hL hk
    · simp only [Gh.at, if_neg e] at hk; exact h.nN k hk
  · by_cases e : k = id
    · simp only [Gh.at, if_pos e] at hl'; exact hl off hl'
    · simp only [Gh.at, if_neg e] at hl'
      rw [look_putO, if_neg (fun h => e h.symm)] at hk
      exact h.nR k o' off hk hl'

/-- An object out of rows that lie somewhere already, with all that stays. -/
theorem Inv.layRows (h : Inv w0 S0 F0 G σ tm w) (hfree : σ.free id = true) {L : Set'} (hL : ∀ b, L b → Loose w0 S0 G σ w b) {st : Own} {fl : Bool} {sz : Nat} {Rw : Rows} {X : Nat → Nat → Value} (hr : RowsRep w G.F L st fl sz Rw X)
    {b off c : Nat} {cs : Array Value} {e : TypeId} {fr : Nat × Nat} (hb : w.heap[b]? = some (.cells cs e fr)) (hp : Plain fr cs.size) (hlb : Loose w0 S0 G σ w b) (hbL : ¬ L b) (hc : Rw.n ≤ c) (hsz : off + c * sz ≤ cs.size) (hx : ∀ i j, i < Rw.n → j < sz → cs[off + i * sz + j]? = some (X i j))
    {A0 : Set'} (hA : ∀ b, A0 b → Loose w0 S0 G σ w b) (hd : ∀ b', (b' = b ∨ L b') → ¬ A0 b') :
    ∃ G', Inv w0 S0 F0 G' (σ.putO id (some ⟨false, st, sz, fl, Rw.n, Rw.get, 0⟩)) tm w ∧ RepT w G' (look (σ.putO id (some ⟨false, st, sz, fl, Rw.n, Rw.get, 0⟩)).objs) (.ref id none) (.slice (some ⟨b, off, none⟩) Rw.n c) ∧
      Step w G (look σ.objs) w G' (look (σ.putO id (some ⟨false, st, sz, fl, Rw.n, Rw.get, 0⟩)).objs) ∧ (∀ b, A0 b → Loose w0 S0 G' (σ.putO id (some ⟨false, st, sz, fl, Rw.n, Rw.get, 0⟩)) w b) := by
  have hle : off + Rw.n * sz ≤ cs.size := by have := Nat.mul_le_mul_right sz hc; omega
  refine ⟨_, h.make (o := ⟨false, st, sz, fl, Rw.n, Rw.get, 0⟩) hfree (l := some (b, off)) (L := L) hL (fun b' off' hl _ => by cases hl; exact ⟨hlb, hbL⟩) (fun hs => ?_), ?_, make_step hfree, fun b' hb' => (hA b' hb').make (fun h => hd b' (.inr h) hb') (fun off' e => by cases e; exact hd _ (.inl rfl) hb')⟩
  · refine .row b off cs e fr X (by simp [Gh.at]) hb hle hr.len hx hr.fl (fun _ => hp) (fun hf => absurd hf hr.nfz) ?_
    unfold CellsOk
    cases hst : st with
    | dp =>
      obtain ⟨Sr, s1, s2, s3⟩ := hr.dp hst
      exact ⟨Sr, s1, fun i j x hi hj hx => by have := s2 i j x hi hj hx; simpa [Gh.at] using this, s3⟩
    | sh => exact hr.sh hst
    | fz => exact absurd hst hr.nfz
  · refine .ref _ _ _ ⟨_, _, _, rfl⟩ (by rw [look_putO]; simp) fun o2 ho => ?_
    rw [look_putO] at ho; simp at ho; subst ho
    exact ⟨rfl, _, _, rfl, hc, by simp [offOf, subRows, VO.rows], .inr ⟨b, off, cs, e, fr, by simp [Gh.at], by simp [offOf], hb, by simpa [offOf] using hsz⟩⟩

theorem Inv.layNil (h : Inv w0 S0 F0 G σ tm w) (hfree : σ.free id = true) {st : Own} {fl : Bool} {sz n : Nat} {g : Nat → List V} (hn : n = 0) (hst : st ≠ .fz) (a : Option Addr) {A0 : Set'} (hA : ∀ b, A0 b → Loose w0 S0 G σ w b) :
    ∃ G', Inv w0 S0 F0 G' (σ.putO id (some ⟨false, st, sz, fl, n, g, 0⟩)) tm w ∧ RepT w G' (look (σ.putO id (some ⟨false, st, sz, fl, n, g, 0⟩)).objs) (.ref id none) (.slice a n 0) ∧
      Step w G (look σ.objs) w G' (look (σ.putO id (some ⟨false, st, sz, fl, n, g, 0⟩)).objs) ∧ (∀ b, A0 b → Loose w0 S0 G' (σ.putO id (some ⟨false, st, sz, fl, n, g, 0⟩)) w b) := by
  refine ⟨_, h.make (o := ⟨false, st, sz, fl, n, g, 0⟩) hfree (l := none) (L := none') (fun _ h => h.elim) (fun b' off' hl _ => by cases hl) (fun hs => .null (by simp [Gh.at]) rfl hn), ?_, make_step hfree, fun b' hb' => (hA b' hb').make (fun h => h) (fun off' e => by cases e)⟩
  refine .ref _ _ _ ⟨_, _, _, rfl⟩ (by rw [look_putO]; simp) fun o2 ho => ?_
  rw [look_putO] at ho; simp at ho; subst ho
  exact ⟨rfl, _, _, rfl, by simp [subRows, VO.rows, hn], by simp [offOf, subRows, VO.rows], .inl rfl⟩

/-- A tree of a call's own, laid as an object. -/
theorem Inv.laySl (h : Inv w0 S0 F0 G σ tm w) (hfree : σ.free id = true) {sz : Nat} {fl : Bool} {cap : Option Nat} {src : Option (Nat × Nat × Nat × Nat)} {n : Nat} {g : Nat → List V} {S : Set'} (hr : Rep w G.F true (.sl sz fl cap src n g) x S) (hS : ∀ b, S b → Loose w0 S0 G σ w b)
    {A0 : Set'} (hA : ∀ b, A0 b → Loose w0 S0 G σ w b) (hd : ∀ b, S b → ¬ A0 b) :
    ∃ G', Inv w0 S0 F0 G' (σ.putO id (some ⟨false, .dp, sz, fl, n, g, 0⟩)) tm w ∧ RepT w G' (look (σ.putO id (some ⟨false, .dp, sz, fl, n, g, 0⟩)).objs) (.ref id none) x ∧ Step w G (look σ.objs) w G' (look (σ.putO id (some ⟨false, .dp, sz, fl, n, g, 0⟩)).objs) ∧
      (∀ b, A0 b → Loose w0 S0 G' (σ.putO id (some ⟨false, .dp, sz, fl, n, g, 0⟩)) w b) := by
  cases hr with
  | nul _ _ _ _ _ _ a _ hcap => exact h.layNil hfree rfl (by intro e; cases e) a hA
  | slO _ _ _ _ _ _ b off c cs e fr xs _ Sr hb hSb hp hcap hn hsz hlen hxs hc hfl hsub hdis =>
    exact h.layRows (Rw := ⟨n, g⟩) (L := fun b' => S b' ∧ b' ≠ b) (X := xs) hfree (fun b' hb' => hS b' hb'.1) ⟨hlen, hfl, fun _ => ⟨Sr, hc, fun i j x hi hj hx => hsub i j x hi hj hx, hdis⟩, fun e => (by cases e), (by intro e; cases e)⟩ hb hp (hS b hSb) (fun h => h.2 rfl) hn hsz hxs hA
      (fun b' hb' => hb'.elim (fun e => by subst e; exact hd _ hSb) (fun h => hd b' h.1))

/-- A variable out of cells that lie somewhere already. -/
theorem Inv.layBox (h : Inv w0 S0 F0 G σ tm w) (hfree : σ.free id = true) {row : List V} {b off j : Nat} {cs : Array Value} {e : TypeId} {fr : Nat × Nat} {xs : Nat → Value} (hb : w.heap[b]? = some (.cells cs e fr)) (hp : Plain fr cs.size) (hlb : Loose w0 S0 G σ w b) (hx : ∀ i, i < row.length → cs[off + i]? = some (xs i)) (hsz : off + row.length ≤ cs.size)
    (hc : ∀ i, i < row.length → RepT w G (look σ.objs) (cellAt row i) (xs i)) {A0 : Set'} (hA : ∀ b, A0 b → Loose w0 S0 G σ w b) (hd : ¬ A0 b) :
    ∃ G', Inv w0 S0 F0 G' (σ.putO id (some ⟨true, .dp, row.length, false, 1, fun _ => row, 0⟩)) tm w ∧ RepT w G' (look (σ.putO id (some ⟨true, .dp, row.length, false, 1, fun _ => row, 0⟩)).objs) (.adr id 0 j) (.pointer (some ⟨b, off + j, none⟩)) ∧
      Step w G (look σ.objs) w G' (look (σ.putO id (some ⟨true, .dp, row.length, false, 1, fun _ => row, 0⟩)).objs) ∧ (∀ b, A0 b → Loose w0 S0 G' (σ.putO id (some ⟨true, .dp, row.length, false, 1, fun _ => row, 0⟩)) w b) := by
  refine ⟨_, h.make (o := ⟨true, .dp, row.length, false, 1, fun _ => row, 0⟩) hfree (l := some (b, off)) (L := none') (fun b hb => hb.elim) (fun b' off' hl _ => by cases hl; exact ⟨hlb, fun h => h⟩) (fun hs => ?_), ?_, make_step hfree, fun b' hb' => (hA b' hb').make (fun h => h) (fun off' e => by cases e; exact hd hb')⟩
  · refine .row b off cs e fr (fun _ i => xs i) (by simp [Gh.at]) hb (by show off + 1 * row.length ≤ cs.size; omega) (fun i hi => rfl) (fun i q hi hq => ?_) (fun hf => by cases hf) (fun _ => hp) (fun hf => by cases hf) ⟨rfl, fun q hq => (hc q hq).step hs⟩
    have hi0 : i = 0 := by have : i < 1 := hi; omega
    subst hi0
    show cs[off + 0 * row.length + q]? = _
    rw [Nat.zero_mul, Nat.add_zero]; exact hx q hq
  · refine .adr _ _ _ _ ⟨_, _, rfl⟩ (by rw [look_putO]; simp) fun o ho => ?_
    rw [look_putO] at ho; simp at ho; subst ho
    exact ⟨b, off, by simp [Gh.at], by simp⟩

/-- The cells of a struct that came back, its slices laid as objects. -/
theorem promCells_sound (b0 : Nat) : ∀ (cs : List V) (j : Nat) (ys : Nat → Value) (Sr : Nat → Set') (G : Gh) (A0 : Set'), Inv w0 S0 F0 G σ tm w → (∀ i, i < cs.length → Rep w G.F true (cellAt cs i) (ys i) (Sr i)) → (∀ i b, i < cs.length → Sr i b → Loose w0 S0 G σ w b ∧ ¬ A0 b) →
    (∀ i i' b, i < cs.length → i' < cs.length → Sr i b → Sr i' b → i = i') → (∀ b, A0 b → Loose w0 S0 G σ w b) → (∀ q ∈ (promCells .dp b0 j cs).2, σ.free q.1 = true) → distinct ((promCells .dp b0 j cs).2.map (·.1)) = true →
    ∃ G', Inv w0 S0 F0 G' (σ.putL (promCells .dp b0 j cs).2) tm w ∧ Step w G (look σ.objs) w G' (look (σ.putL (promCells .dp b0 j cs).2).objs) ∧ (promCells .dp b0 j cs).1.length = cs.length ∧
      (∀ i, i < cs.length → RepT w G' (look (σ.putL (promCells .dp b0 j cs).2).objs) (cellAt (promCells .dp b0 j cs).1 i) (ys i)) ∧ (∀ b, A0 b → Loose w0 S0 G' (σ.putL (promCells .dp b0 j cs).2) w b)
  | [], j, ys, Sr, G, A0, h, _, _, _, hA, _, _ => ⟨G, h, .same, rfl, fun i hi => absurd hi (by simp), hA⟩
  | c :: cs, j, ys, Sr, G, A0, h, hr, hS, hdis, hA, hfr, hdi => by
    have h0 : Rep w G.F true c (ys 0) (Sr 0) := hr 0 (by simp)
    have other : ∀ c', (promCells .dp b0 j (c :: cs)) = (c' :: (promCells .dp b0 (j + 1) cs).1, (promCells .dp b0 (j + 1) cs).2) → c' = c →
        ∃ G', Inv w0 S0 F0 G' (σ.putL (promCells .dp b0 j (c :: cs)).2) tm w ∧ Step w G (look σ.objs) w G' (look (σ.putL (promCells .dp b0 j (c :: cs)).2).objs) ∧ (promCells .dp b0 j (c :: cs)).1.length = (c :: cs).length ∧
      (∀ i, i < (c :: cs).length → RepT w G' (look (σ.putL (promCells .dp b0 j (c :: cs)).2).objs) (cellAt (promCells .dp b0 j (c :: cs)).1 i) (ys i)) ∧ (∀ b, A0 b → Loose w0 S0 G' (σ.putL (promCells .dp b0 j (c :: cs)).2) w b) := by
      intro c' e ec
      subst ec
      rw [e] at hfr hdi ⊢
      -- what this cell has of its own is shared
      have hsh := h.share (L := Sr 0) (fun b hb => (hS 0 b (by simp) hb).1)
      obtain ⟨G', I', st', l', r', a'⟩ := promCells_sound b0 cs (j + 1) (fun i => ys (i + 1)) (fun i => Sr (i + 1)) (G.more (Sr 0)) A0 hsh (fun i hi => (hr (i + 1) (by simpa using hi)).mono fun b hb => .inl hb)
        (fun i b hi hb => ⟨(hS (i + 1) b (by simpa using hi) hb).1.more fun h0 => by have := hdis 0 (i + 1) b (by simp) (by simpa using hi) h0 hb; omega, (hS (i + 1) b (by simpa using hi) hb).2⟩)
        (fun i i' b hi hi' hb hb' => by have := hdis (i + 1) (i' + 1) b (by simpa using hi) (by simpa using hi') hb hb'; omega) (fun b hb => (hA b hb).more fun h0 => (hS 0 b (by simp) h0).2 hb) hfr hdi
      refine ⟨G', I', share_step.trans' st', by simp [l'], fun i hi => ?_, a'⟩
      cases i with
      | zero => exact (RepT.val _ _ (h0.frozen (F' := (G.more (Sr 0)).F) (fun b hb => .inl hb) (fun b hb => .inr hb))).step st'
      | succ i => exact r' i (by simpa using hi)
    cases c with
    | sl sz fl cap src n g =>
      have e : promCells .dp b0 j (.sl sz fl cap src n g :: cs) = (.ref (b0 + j) none :: (promCells .dp b0 (j + 1) cs).1, (b0 + j, some ⟨false, .dp, sz, fl, n, g, 0⟩) :: (promCells .dp b0 (j + 1) cs).2) := rfl
      rw [e] at hfr hdi ⊢
      have hdi' : distinct ((b0 + j) :: (promCells .dp b0 (j + 1) cs).2.map (·.1)) = true := hdi
      obtain ⟨d1, d2⟩ := distinct_cons hdi'
      obtain ⟨G1, I1, st1, l1, r1, a1⟩ := promCells_sound b0 cs (j + 1) (fun i => ys (i + 1)) (fun i => Sr (i + 1)) G (fun b => A0 b ∨ Sr 0 b) h (fun i hi => hr (i + 1) (by simpa using hi))
        (fun i b hi hb => ⟨(hS (i + 1) b (by simpa using hi) hb).1, fun h => h.elim (hS (i + 1) b (by simpa using hi) hb).2 fun h0 => by have := hdis 0 (i + 1) b (by simp) (by simpa using hi) h0 hb; omega⟩)
        (fun i i' b hi hi' hb hb' => by have := hdis (i + 1) (i' + 1) b (by simpa using hi) (by simpa using hi') hb hb'; omega) (fun b hb => hb.elim (hA b) fun h0 => (hS 0 b (by simp) h0).1) (fun q hq => hfr q (by simp [hq])) d2
      have hfree : (σ.putL (promCells .dp b0 (j + 1) cs).2).free (b0 + j) = true := free_putL (hfr (b0 + j, some ⟨false, .dp, sz, fl, n, g, 0⟩) (by simp)) (fun q hq => d1 q.1 (List.mem_map.2 ⟨q, hq, rfl⟩))
      obtain ⟨G2, I2, r2, st2, a2⟩ := I1.laySl hfree (h0.mono st1.F) (fun b hb => a1 b (.inr hb)) (A0 := A0) (fun b hb => a1 b (.inl hb)) (fun b hb => (hS 0 b (by simp) hb).2)
      refine ⟨G2, I2, st1.trans' st2, by simp [l1], fun i hi => ?_, a2⟩
      cases i with
      | zero => exact r2
      | succ i => exact (r1 i (by simpa using hi)).step st2
    | int kk n => exact other _ rfl rfl
    | bool b => exact other _ rfl rfl
    | str s => exact other _ rfl rfl
    | nilp => exact other _ rfl rfl
    | nilf => exact other _ rfl rfl
    | nili => exact other _ rfl rfl
    | fn f cs' => exact other _ rfl rfl
    | agg cs' => exact other _ rfl rfl
    | tup cs' => exact other _ rfl rfl
    | pv src row q => exact other _ rfl rfl
    | ref id sub => exact other _ rfl rfl
    | adr id i q => exact other _ rfl rfl
    | dead => exact other _ rfl rfl
    | ub => exact other _ rfl rfl
    | hole => exact other _ rfl rfl
end Go.Vk
end

section
namespace Go.Vk
open Go
set_option linter.unusedVariables false
set_option linter.unusedSimpArgs false
variable {w w' w0 : World} {S0 : SS} {F0 : Set'} {G G' : Gh} {ob ob' : Ob} {v : V} {x : Value} {σ σ' : St} {tm : Array Value} {id : Nat} {o o' : VO}
variable {R : Type} {r : R} {k : V → Option R} {kσ : St → Option R} {E : Env} {P : Program}

/-- One result is laid. -/
theorem promV_sound (h : Inv w0 S0 F0 G σ tm w) {b0 : Nat} {u : V} {own : Own} {S A0 : Set'} (hr : ResRep w G.F u own x S) (hS : ∀ b, S b → Loose w0 S0 G σ w b ∧ ¬ A0 b) (hA : ∀ b, A0 b → Loose w0 S0 G σ w b)
    (hfr : ∀ q ∈ (promV b0 u own).2, σ.free q.1 = true) (hdi : distinct ((promV b0 u own).2.map (·.1)) = true) :
    ∃ G', Inv w0 S0 F0 G' (σ.putL (promV b0 u own).2) tm w ∧ Step w G (look σ.objs) w G' (look (σ.putL (promV b0 u own).2).objs) ∧ RepT w G' (look (σ.putL (promV b0 u own).2).objs) (promV b0 u own).1 x ∧
      (∀ b, A0 b → Loose w0 S0 G' (σ.putL (promV b0 u own).2) w b) := by
  have plain : ∀ {v' : V}, RepT w G (look σ.objs) v' x → promV b0 u own = (v', []) → ∃ G', Inv w0 S0 F0 G' (σ.putL (promV b0 u own).2) tm w ∧ Step w G (look σ.objs) w G' (look (σ.putL (promV b0 u own).2).objs) ∧ RepT w G' (look (σ.putL (promV b0 u own).2).objs) (promV b0 u own).1 x ∧
      (∀ b, A0 b → Loose w0 S0 G' (σ.putL (promV b0 u own).2) w b) := by
    intro v' hv e
    rw [e]; exact ⟨G, h, .same, hv, hA⟩
  cases hr with
  | dp _ _ _ hu =>
    cases u with
    | sl sz fl cap src n g =>
      obtain ⟨G', a1, a2, a3, a4⟩ := h.laySl (id := b0) (hfr (b0, some ⟨false, .dp, sz, fl, n, g, 0⟩) (by simp [promV])) hu (fun b hb => (hS b hb).1) hA (fun b hb => (hS b hb).2)
      exact ⟨G', a1, a3, a2, a4⟩
    | pv src row j =>
      cases hu with
      | pvO _ _ _ b off cs e fr xs _ Sr hb hSb hp hxs hc hsub hdis =>
        rcases Nat.eq_zero_or_pos row.length with e0 | e0
        · have e : promV b0 (.pv src row j) .dp = (.dead, []) := by rw [List.length_eq_zero_iff.1 e0]; rfl
          rw [e]; exact ⟨G, h, .same, .dead _, hA⟩
        have e : promV b0 (.pv src row j) .dp = (.adr b0 0 j, (b0, some ⟨true, .dp, row.length, false, 1, fun _ => (promCells .dp (b0 + 1) 0 row).1, 0⟩) :: (promCells .dp (b0 + 1) 0 row).2) := by
          have : Nat.blt 0 row.length = true := Nat.ble_eq_true_of_le e0
          simp [promV, this]
        rw [e] at hfr hdi ⊢
        have hdi' : distinct (b0 :: (promCells .dp (b0 + 1) 0 row).2.map (·.1)) = true := hdi
        obtain ⟨d1, d2⟩ := distinct_cons hdi'
        obtain ⟨G1, I1, st1, l1, r1, a1⟩ := promCells_sound (b0 + 1) row 0 xs Sr G (fun b' => A0 b' ∨ b' = b) h hc (fun i b' hi hb' => ⟨(hS b' (hsub i b' hi hb').1).1, fun hh => hh.elim (hS b' (hsub i b' hi hb').1).2 (hsub i b' hi hb').2⟩) hdis
          (fun b' hb' => hb'.elim (hA b') fun e => by subst e; exact (hS _ hSb).1) (fun q hq => hfr q (by simp [hq])) d2
        have hfree : (σ.putL (promCells .dp (b0 + 1) 0 row).2).free b0 = true := free_putL (hfr (b0, some ⟨true, .dp, row.length, false, 1, fun _ => (promCells .dp (b0 + 1) 0 row).1, 0⟩) (by simp)) (fun q hq => d1 q.1 (List.mem_map.2 ⟨q, hq, rfl⟩))
        have hsz : off + row.length ≤ cs.size := by
          have := hxs (row.length - 1) (by omega)
          have := (Array.getElem?_eq_some_iff.1 this).1
          omega
        obtain ⟨G2, I2, r2, st2, a2⟩ := I1.layBox hfree (row := (promCells .dp (b0 + 1) 0 row).1) (j := j) hb hp (a1 b (.inr rfl)) (fun i hi => hxs i (by omega)) (by omega) (fun i hi => r1 i (by omega)) (A0 := A0) (fun b' hb' => a1 b' (.inl hb')) (hS _ hSb).2
        rw [l1] at I2 r2 st2 a2
        exact ⟨G2, I2, st1.trans' st2, r2, a2⟩
    | agg cs => cases hu
    | tup cs => cases hu
    | fn f cs => cases hu
    | ref id sub => cases hu
    | adr id i j => cases hu
    | dead => cases hu
    | ub => cases hu
    | hole => cases hu; exact plain (.val _ _ (.hole _ _ _ (by assumption))) rfl
    | int kk n => exact plain (.val _ _ (hu.leaf rfl)) rfl
    | bool b => exact plain (.val _ _ (hu.leaf rfl)) rfl
    | str s => exact plain (.val _ _ (hu.leaf rfl)) rfl
    | nilp => exact plain (.val _ _ (hu.leaf rfl)) rfl
    | nilf => exact plain (.val _ _ (hu.leaf rfl)) rfl
    | nili => exact plain (.val _ _ (hu.leaf rfl)) rfl
  | dpA cs xs _ Sr hl hc hS' hd =>
    have e : promV b0 (.agg cs) .dp = (.agg (promCells .dp (b0 + 1) 0 cs).1, (promCells .dp (b0 + 1) 0 cs).2) := rfl
    rw [e] at hfr hdi ⊢
    obtain ⟨G1, I1, st1, l1, r1, a1⟩ := promCells_sound (b0 + 1) cs 0 (fun i => xs.getD i default) Sr G A0 h hc (fun i b' hi hb' => hS b' (hS' i b' hi hb')) hd hA hfr hdi
    exact ⟨G1, I1, st1, .agg _ _ (by omega) (fun i hi => r1 i (by omega)), a1⟩
  | sh sz fl n g b off c cs e fr X _ hb hSb hp hn hsz hrr hx =>
    obtain ⟨G', a1, a2, a3, a4⟩ := h.layRows (id := b0) (Rw := ⟨n, g⟩) (L := none') (hfr (b0, some ⟨false, .sh, sz, fl, n, g, 0⟩) (by simp [promV])) (fun _ h => h.elim) hrr hb hp (hS b hSb).1 (fun h => h) hn hsz hx hA (fun b' hb' => hb'.elim (fun e => by subst e; exact (hS _ hSb).2) (fun h => h.elim))
    exact ⟨G', a1, a3, a2, a4⟩
  | shN sz fl g a _ =>
    obtain ⟨G', a1, a2, a3, a4⟩ := h.layNil (id := b0) (sz := sz) (fl := fl) (g := g) (st := .sh) (hfr (b0, some ⟨false, .sh, sz, fl, 0, g, 0⟩) (by simp [promV])) rfl (by intro e; cases e) a hA
    exact ⟨G', a1, a3, a2, a4⟩
  | shP row j b off cs e fr xs _ hb hSb hp hx hrr =>
    rcases Nat.eq_zero_or_pos row.length with e0 | e0
    · have e : promV b0 (.pv Option.none row j) .sh = (.dead, []) := by rw [List.length_eq_zero_iff.1 e0]; rfl
      rw [e]; exact ⟨G, h, .same, .dead _, hA⟩
    have e : promV b0 (.pv Option.none row j) .sh = (.adr b0 0 j, [(b0, some ⟨true, .dp, row.length, false, 1, fun _ => row, 0⟩)]) := by
      have : Nat.blt 0 row.length = true := Nat.ble_eq_true_of_le e0
      simp [promV, this]
    rw [e] at hfr hdi ⊢
    have hsz : off + row.length ≤ cs.size := by
      have := hx (row.length - 1) (by omega)
      have := (Array.getElem?_eq_some_iff.1 this).1
      omega
    obtain ⟨G', a1, a2, a3, a4⟩ := h.layBox (id := b0) (row := row) (j := j) (hfr (b0, some ⟨true, .dp, row.length, false, 1, fun _ => row, 0⟩) (by simp [promV])) hb hp (hS b hSb).1 hx hsz (fun i hi => .val _ _ (hrr i hi)) hA (hS b hSb).2
    exact ⟨G', a1, a3, a2, a4⟩
  | fz _ _ _ hu => exact plain (.val _ _ hu) rfl
  | fzA cs xs _ hl hc => exact plain (.agg _ _ hl fun i hi => .val _ _ (hc i hi)) rfl
end Go.Vk
end

section
namespace Go.Vk
open Go
set_option linter.unusedVariables false
set_option linter.unusedSimpArgs false
variable {w w' w0 : World} {S0 : SS} {F0 : Set'} {G G' : Gh} {ob ob' : Ob} {v : V} {x : Value} {σ σ' : St} {tm : Array Value} {id : Nat} {o o' : VO}
variable {R : Type} {r : R} {k : V → Option R} {kσ : St → Option R} {E : Env} {P : Program}

theorem setAt_len (v : V) : ∀ (j : Nat) (cs : List V), (setAt v j cs).length = cs.length
  | _, [] => by simp [setAt]
  | 0, c :: cs => by simp [setAt]
  | j + 1, c :: cs => by simp [setAt, setAt_len v j cs]

theorem setAt_at (v : V) : ∀ (j : Nat) (cs : List V) (i : Nat), cellAt (setAt v j cs) i = if i = j ∧ i < cs.length then v else cellAt cs i
  | _, [], i => by simp [setAt]
  | 0, c :: cs, i => by
    cases i with
    | zero => simp [setAt, cellAt]
    | succ i => simp [setAt, cellAt]
  | j + 1, c :: cs, i => by
    cases i with
    | zero => simp [setAt, cellAt]
    | succ i =>
      have := setAt_at v j cs i
      simp only [setAt, cellAt, List.getElem?_cons_succ, List.length_cons] at this ⊢
      rw [this]
      by_cases h : i = j ∧ i < cs.length
      · rw [if_pos h, if_pos (by omega)]
      · rw [if_neg h, if_neg (by omega)]

theorem holeAt_get (o : VO) (i j : Nat) (v : V) (n : Nat) (i' : Nat) : (holeAt o i j v n).get i' = if i' = i then setAt v j (o.get i) else o.get i' := by
  show mrgE (Nat.beq i' i) _ _ = _
  rw [mrgE_eq]
  by_cases e : i' = i
  · subst e; simp
  · have : Nat.beq i' i = false := by cases hb : Nat.beq i' i with | false => rfl | true => exact absurd (Nat.eq_of_beq_eq_true hb) e
    rw [this, if_neg e]; rfl

/-- One cell of an object of one's own is told anew (nothing is written): what it held is loose. -/
theorem Inv.setCell (h : Inv w0 S0 F0 G σ tm w) {A i j : Nat} (hA : look σ.objs A = some (some o)) (hbx : o.box = false) (hst : o.st = .dp) (hi : i < o.n) (hj : j < o.sz) (hx : Exact w (G.loc A) o.sz i j x) {c : V} {S : Set'} (hc : Rep w G.F true c x S) (hS : ∀ b, S b → Loose w0 S0 G σ w b) :
    ∃ G' Sold, Inv w0 S0 F0 G' (σ.putO A (some (holeAt o i j c (o.ver + 1)))) tm w ∧ Step w G (look σ.objs) w G' (look (σ.putO A (some (holeAt o i j c (o.ver + 1)))).objs) ∧ Rep w G'.F true (cellAt (o.get i) j) x Sold ∧
      (∀ b, Sold b → Loose w0 S0 G' (σ.putO A (some (holeAt o i j c (o.ver + 1)))) w b ∧ ¬ S b) ∧ (∀ b, Loose w0 S0 G σ w b → ¬ S b → Loose w0 S0 G' (σ.putO A (some (holeAt o i j c (o.ver + 1)))) w b) ∧ G'.loc = G.loc ∧ G'.F = G.F ∧ (∀ b, Sold b → G.N A b) := by
  cases h.objs A o hA with
  | null n1 n2 n3 => omega
  | row b off cs e fr xs l1 hb hsz hlen hxs hfl hp hF hcs =>
    obtain ⟨b', off', cs', e', fr', q1, q2, q3⟩ := hx
    rw [l1] at q1; cases q1
    rw [hb] at q2; cases q2
    have hxx : xs i j = x := by
      have := hxs i j hi hj
      rw [q3] at this; simpa using this.symm
    unfold CellsOk at hcs
    rw [hbx, hst] at hcs
    obtain ⟨Sr, s1, s2, s3⟩ := hcs
    let G' : Gh := ⟨G.F, G.loc, fun k b => if k = A then (G.N A b ∧ ¬ Sr i j b) ∨ S b else G.N k b⟩
    have hN : ∀ k b, k ≠ A → (G'.N k b ↔ G.N k b) := fun k b e => by show (if k = A then _ else _) ↔ _; rw [if_neg e]
    have hNA : ∀ b, G'.N A b ↔ (G.N A b ∧ ¬ Sr i j b) ∨ S b := fun b => by show (if A = A then _ else _) ↔ _; rw [if_pos rfl]
    let o' : VO := holeAt o i j c (o.ver + 1)
    have hs : Step w G (look σ.objs) w G' (look (σ.putO A (some o')).objs) :=
      ⟨.refl w, fun _ h => h, fun k hk => by rw [look_putO]; split <;> simp [hk], fun _ _ => rfl, fun _ _ _ _ _ _ _ _ => rfl, fun k o2 hk hd => by
        rw [look_putO] at hk
        by_cases e : A = k
        · subst e; simp at hk; subst hk
          refine ⟨o, hA, rfl, rfl, hbx.symm, rfl, Nat.le_succ _, fun hv => ?_⟩
          have : o.ver + 1 = o.ver := hv
          omega
        · simp [e] at hk
          have e' : k ≠ A := fun h => e h.symm
          exact ⟨o2, hk, rfl, rfl, rfl, rfl, Nat.le_refl _, fun _ => ⟨fun b hb => .inr ((hN k b e').2 hb), fun _ => .refl⟩⟩⟩
    have I' : Inv w0 S0 F0 G' (σ.putO A (some o')) tm w := by
      refine h.upd (o := o) hA h.base (Nat.le_refl _) (fun _ _ _ => rfl) hs (fun _ => rfl) (fun k b e => hN k b e) (fun b hb => ?_) (fun b hb => .inl hb) (fun e => by rw [hst] at e; cases e) ?_
      · rcases (hNA b).1 hb with ⟨h1, _⟩ | h1
        · exact .inl h1
        · exact .inr (hS b h1)
      · have hcell : ∀ i' j', i' < o.n → j' < o.sz → cellAt (o'.get i') j' = if i' = i ∧ j' = j then c else cellAt (o.get i') j' := fun i' j' hi' hj' => by
          show cellAt ((holeAt o i j c (o.ver + 1)).get i') j' = _
          rw [holeAt_get]
          by_cases e : i' = i
          · subst e
            rw [if_pos rfl, setAt_at, hlen _ hi]
            by_cases e2 : j' = j
            · rw [if_pos ⟨e2, hj'⟩, if_pos ⟨rfl, e2⟩]
            · rw [if_neg (fun h => e2 h.1), if_neg (fun h => e2 h.2)]
          · rw [if_neg e, if_neg (fun h => e h.1)]
        refine .row b off cs e fr xs l1 hb hsz (fun i' hi' => ?_) hxs (fun hf => by cases hf) (fun _ => hp (by rw [hst]; simp)) (fun hf => by cases hf) ?_
        · show ((holeAt o i j c (o.ver + 1)).get i').length = o.sz
          rw [holeAt_get]
          split
          · rw [setAt_len]; exact hlen i hi
          · exact hlen i' hi'
        · show ∃ Sr : Nat → Nat → Set', _
          refine ⟨fun i' j' => if i' = i ∧ j' = j then S else Sr i' j', fun i' j' hi' hj' => ?_, fun i' j' y hi' hj' hy => ?_, fun i1 j1 i2 j2 y h1 h2 h3 h4 h5 h6 => ?_⟩
          · rw [hcell i' j' hi' hj']
            show Rep w G.F true _ _ (if i' = i ∧ j' = j then S else Sr i' j')
            by_cases e : i' = i ∧ j' = j
            · rw [if_pos e, if_pos e]; obtain ⟨rfl, rfl⟩ := e; rw [hxx]; exact hc
            · rw [if_neg e, if_neg e]; exact s1 i' j' hi' hj'
          · rw [hNA]
            simp only at hy
            split at hy
            · exact .inr hy
            · rename_i hne
              exact .inl ⟨s2 i' j' y hi' hj' hy, fun hh => hne (s3 i' j' i j y hi' hj' hi hj hy hh)⟩
          · simp only at h5 h6
            split at h5 <;> split at h6
            · rename_i c1 c2; exact ⟨c1.1.trans c2.1.symm, c1.2.trans c2.2.symm⟩
            · exact ((hS y h5).nN A (s2 _ _ y h3 h4 h6)).elim
            · exact ((hS y h6).nN A (s2 _ _ y h1 h2 h5)).elim
            · exact s3 _ _ _ _ y h1 h2 h3 h4 h5 h6
    have keepL : ∀ b, (∀ k, ¬ G'.N k b) → b < w.heap.size → Mine w0 S0 b → ¬ G.F b → (∀ k o2 off2, look σ.objs k = some (some o2) → G.loc k = some (b, off2) → False) → Loose w0 S0 G' (σ.putO A (some o')) w b := fun b h1 h2 h3 h4 h5 =>
      ⟨h2, h3, h4, h1, fun k o2 off2 hk hl => by
        rw [look_putO] at hk
        by_cases e : A = k
        · subst e; exact h5 A o off2 hA hl
        · simp [e] at hk; exact h5 k o2 off2 hk hl⟩
    refine ⟨G', Sr i j, I', hs, by rw [← hxx]; exact s1 i j hi hj, fun b' hb' => ?_, fun b' hb' hn => ?_, rfl, rfl, fun b' hb' => s2 i j b' hi hj hb'⟩
    · have hn := s2 i j b' hi hj hb'
      obtain ⟨n1, n2, n3⟩ := h.nest A b' hn
      refine ⟨keepL b' (fun k hk => ?_) n1 n2 n3 (fun k o2 off2 hk hl => ?_), fun hh => (hS b' hh).nN A hn⟩
      · by_cases e : k = A
        · rw [e, hNA] at hk
          rcases hk with ⟨_, hk⟩ | hk
          · exact hk hb'
          · exact (hS b' hk).nN A hn
        · exact e (h.ndis k A b' ((hN k b' e).1 hk) hn)
      · by_cases hf : o2.st = .fz
        · exact n3 ((h.root' hk hl).2 hf)
        · exact (h.root k o2 b' off2 hk hl hf).2.2.2 A hn
    · refine keepL b' (fun k hk => ?_) hb'.lt hb'.mine hb'.nF hb'.nR
      by_cases e : k = A
      · rw [e, hNA] at hk
        rcases hk with ⟨hk, _⟩ | hk
        · exact hb'.nN A hk
        · exact hn hk
      · exact hb'.nN k ((hN k b' e).1 hk)
end Go.Vk
end

section
namespace Go.Vk
open Go
set_option linter.unusedVariables false
set_option linter.unusedSimpArgs false
variable {w w' w0 : World} {S0 : SS} {F0 : Set'} {G G' : Gh} {ob ob' : Ob} {v : V} {x : Value} {σ σ' : St} {tm : Array Value} {id : Nat} {o o' : VO}

/-- What is handed to a call to be written: objects of one's own, as trees. -/
structure Handed (w : World) (G : Gh) (σ : St) (I : Nat → Prop) (oo : Nat → VO) (X : Nat → Value) (Sk : Nat → Set') : Prop where
  ob : ∀ k, I k → look σ.objs k = some (some (oo k))
  box : ∀ k, I k → (oo k).box = false
  st : ∀ k, I k → (oo k).st = .dp
  ref : ∀ k, I k → RefOk w (G.loc k) (oo k) none (X k)
  own : ∀ k b, I k → Sk k b → G.N k b ∨ ∃ off, G.loc k = some (b, off)

/-- What a call has made of them. -/
structure Back (w w' : World) (G : Gh) (σ σ' : St) (I : Nat → Prop) (oo o1 : Nat → VO) (X : Nat → Value) (Fz Sw : Set') (Sk S1 : Nat → Set') : Prop where
  same : ∀ k, ¬ I k → look σ'.objs k = look σ.objs k
  tmps : σ'.tmps = σ.tmps
  ob : ∀ k, I k → look σ'.objs k = some (some (o1 k))
  box : ∀ k, I k → (o1 k).box = false
  st : ∀ k, I k → (o1 k).st = .dp
  sz : ∀ k, I k → (o1 k).sz = (oo k).sz
  ver : ∀ k, I k → (o1 k).ver = (oo k).ver + 1
  rep : ∀ k, I k → Rep w' Fz true (.sl (o1 k).sz (o1 k).fl none none (o1 k).n (o1 k).get) (X k) (S1 k)
  base : Base w Sw w'
  sw : ∀ b, Sw b → ∃ k, I k ∧ Sk k b
  s1 : ∀ k b, I k → S1 k b → (w.heap.size ≤ b ∨ Sw b) ∧ b < w'.heap.size
  dis : ∀ k k' b, I k → I k' → S1 k b → S1 k' b → k = k'

open Classical in
theorem Inv.call (h : Inv w0 S0 F0 G σ tm w) {I : Nat → Prop} {oo o1 : Nat → VO} {X : Nat → Value} {Fz Sw : Set'} {Sk S1 : Nat → Set'} (hh : Handed w G σ I oo X Sk) (hz : ∀ k b, I k → Sk k b → ∀ a n c, X k = .slice a n c → c ≠ 0)
    (hb : Back w w' G σ σ' I oo o1 X Fz Sw Sk S1) :
    ∃ G', Inv w0 S0 F0 G' σ' tm w' ∧ Step w G (look σ.objs) w' G' (look σ'.objs) ∧ G'.loc = G.loc ∧ G'.F = G.F ∧ (∀ b, Loose w0 S0 G σ w b → Loose w0 S0 G' σ' w' b) ∧
      (∀ b, (w.heap.size ≤ b ∨ Sw b) → b < w'.heap.size → (∀ k, I k → ¬ S1 k b) → Loose w0 S0 G' σ' w' b) ∧
      (∀ k o2 b off, ¬ I k → look σ.objs k = some (some o2) → G.loc k = some (b, off) → w'.heap[b]? = w.heap[b]?) := by
  have hle := hb.base.size
  -- the blocks that may change
  have nst : ∀ k, I k → (oo k).st ≠ .fz := fun k hk => by rw [hh.st k hk]; simp
  have swN : ∀ b, Sw b → b < w.heap.size ∧ Mine w0 S0 b ∧ ¬ G.F b ∧ ((∃ k, I k ∧ G.N k b) ∨ ∃ k off, I k ∧ G.loc k = some (b, off) ∧ ∀ a n c, X k = .slice a n c → c ≠ 0) := fun b hs => by
    obtain ⟨k, hk, hsk⟩ := hb.sw b hs
    rcases hh.own k b hk hsk with hn | ⟨off, hl⟩
    · obtain ⟨n1, n2, n3⟩ := h.nest k b hn
      exact ⟨n1, n2, n3, .inl ⟨k, hk, hn⟩⟩
    · obtain ⟨r1, r2, r3, r4⟩ := h.root k (oo k) b off (hh.ob k hk) hl (nst k hk)
      exact ⟨r1, r2, r3, .inr ⟨k, off, hk, hl, hz k b hk hsk⟩⟩
  have nF : ∀ b, G.F b → ¬ Sw b := fun b hf hs => (swN b hs).2.2.1 hf
  have nN : ∀ k b, ¬ I k → G.N k b → ¬ Sw b := fun k b hk hn hs => by
    rcases (swN b hs).2.2.2 with ⟨k', hk', hn'⟩ | ⟨k', off, hk', hl, _⟩
    · exact hk (h.ndis k k' b hn hn' ▸ hk')
    · exact (h.root k' (oo k') b off (hh.ob k' hk') hl (nst k' hk')).2.2.2 k hn
  -- a root in what may change is that of a written object
  have nR : ∀ k o2 b off, look σ.objs k = some (some o2) → G.loc k = some (b, off) → Sw b → I k ∧ ∀ a n c, X k = .slice a n c → c ≠ 0 := fun k o2 b off hk hl hs => by
    rcases (swN b hs).2.2.2 with ⟨k', hk', hn'⟩ | ⟨k', off', hk', hl', hc⟩
    · by_cases hf : o2.st = .fz
      · exact ((swN b hs).2.2.1 ((h.root' hk hl).2 hf)).elim
      · exact ((h.root k o2 b off hk hl hf).2.2.2 k' hn').elim
    · have := h.rdis k' (oo k') k o2 b off' off (hh.ob k' hk') hk hl' hl (nst k' hk')
      subst this; exact ⟨hk', hc⟩
  have blk : ∀ b, b < w.heap.size → ¬ Sw b → w'.heap[b]? = w.heap[b]? := hb.base.block
  have rootSame : ∀ k o2 b off, ¬ I k → look σ.objs k = some (some o2) → G.loc k = some (b, off) → w'.heap[b]? = w.heap[b]? := fun k o2 b off hn hk hl => blk b (h.root' hk hl).1 fun hs => hn (nR k o2 b off hk hl hs).1
  have hn1 : ∀ k, I k → (o1 k).n = (oo k).n := fun k hk => by
    obtain ⟨_, a, c, e, _⟩ := hh.ref k hk
    obtain ⟨a', c', e', _⟩ := (hb.rep k hk).slice_len
    rw [e] at e'; injection e' with _ e2 _
    exact e2.symm
  let G' : Gh := ⟨G.F, G.loc, fun k b => if I k then S1 k b ∧ (¬ ∃ off, G.loc k = some (b, off)) ∧ (∀ a n c, X k = .slice a n c → c ≠ 0) else G.N k b⟩
  have gI : ∀ k b, I k → (G'.N k b ↔ S1 k b ∧ (¬ ∃ off, G.loc k = some (b, off)) ∧ (∀ a n c, X k = .slice a n c → c ≠ 0)) := fun k b hk => by show (if I k then _ else _) ↔ _; rw [if_pos hk]
  have gN : ∀ k b, ¬ I k → (G'.N k b ↔ G.N k b) := fun k b hk => by show (if I k then _ else _) ↔ _; rw [if_neg hk]
  have hlk : ∀ k o2, look σ'.objs k = some (some o2) → (I k ∧ o2 = o1 k) ∨ (¬ I k ∧ look σ.objs k = some (some o2)) := fun k o2 hk => by
    by_cases hi : I k
    · rw [hb.ob k hi] at hk; cases hk; exact .inl ⟨hi, rfl⟩
    · rw [hb.same k hi] at hk; exact .inr ⟨hi, hk⟩
  have hs : Step w G (look σ.objs) w' G' (look σ'.objs) := by
    refine ⟨hb.base.szs, fun _ h => h, fun k hk => ?_, fun b hf => blk b (h.flt b hf) (nF b hf), fun k b o2 o3 hn hk hk' hv => ?_, fun k o2 hk hd => ?_⟩
    · by_cases hi : I k
      · rw [hb.ob k hi]; simp
      · rw [hb.same k hi]; exact hk
    · by_cases hi : I k
      · rw [hh.ob k hi] at hk; cases hk
        rw [hb.ob k hi] at hk'; cases hk'
        rw [hb.ver k hi] at hv; omega
      · exact blk b (h.nest k b hn).1 (nN k b hi hn)
    · rcases hlk k o2 hk with ⟨hi, rfl⟩ | ⟨hi, hk'⟩
      · refine ⟨oo k, hh.ob k hi, hn1 k hi, hb.sz k hi, (hb.box k hi).trans (hh.box k hi).symm, rfl, by rw [hb.ver k hi]; omega, fun hv => ?_⟩
        rw [hb.ver k hi] at hv; omega
      · exact ⟨o2, hk', rfl, rfl, rfl, rfl, Nat.le_refl _, fun _ => ⟨fun b hn => .inr ((gN k b hi).2 hn), fun _ => .same fun b off hl => rootSame k o2 b off hi hk' hl⟩⟩
  -- the roots of written objects are in their trees
  have rootS : ∀ k b off, I k → G.loc k = some (b, off) → (∀ a n c, X k = .slice a n c → c ≠ 0) → S1 k b := fun k b off hi hl hc => by
    obtain ⟨_, a, c, e, _, _, h5⟩ := hh.ref k hi
    have hr := hb.rep k hi
    rcases h5 with h5 | ⟨b', off', cs, ee, fr, q1, q2, q3, q4⟩
    · exact absurd h5 (hc a _ c e)
    · rw [hl] at q1; cases q1
      subst q2
      have e : X k = .slice (some ⟨b, off + offOf none * (oo k).sz, none⟩) (o1 k).n c := by rw [hn1 k hi]; exact e
      have hc0 := hc _ _ _ e
      rw [e] at hr
      generalize hz1 : (o1 k).n = n1 at hr
      cases hr with
      | nul => exact absurd rfl hc0
      | slO _ _ _ _ _ _ _ _ _ _ _ _ _ _ Sr hb' hS => exact hS
  have notS1 : ∀ k o2 b off, look σ.objs k = some (some o2) → G.loc k = some (b, off) → o2.st ≠ .fz → ∀ k', I k' → S1 k' b → k' = k ∧ ∀ a n c, X k = .slice a n c → c ≠ 0 := fun k o2 b off hk hl hf k' hi' hs1 => by
    rcases (hb.s1 k' b hi' hs1).1 with hge | hsw
    · have := (h.root k o2 b off hk hl hf).1; omega
    · obtain ⟨hi, hc⟩ := nR k o2 b off hk hl hsw
      exact ⟨hb.dis k' k b hi' hi hs1 (rootS k b off hi hl hc), hc⟩
  have I' : Inv w0 S0 F0 G' σ' tm w' := {
    base := ⟨hb.base.os.trans h.base.os, hb.base.tape.trans h.base.tape, hb.base.output.trans h.base.output, Nat.le_trans h.base.size hle, fun b hlt hS => by
      rw [← h.base.block b hlt hS]
      exact blk b (Nat.lt_of_lt_of_le hlt h.base.size) fun hs => (swN b hs).2.1.elim (fun h => absurd hlt (by omega)) hS, h.base.szs.trans hb.base.szs⟩
    fsub := h.fsub, fmine := h.fmine, flt := fun b hf => Nat.lt_of_lt_of_le (h.flt b hf) hle
    tmps := fun t => by
      have : σ'.tmp t = σ.tmp t := by simp only [St.tmp, hb.tmps]
      rw [this]; exact (h.tmps t).step hs
    keep := fun p hp => (h.keep p hp).step hs
    objs := fun k o2 hk => by
      rcases hlk k o2 hk with ⟨hi, rfl⟩ | ⟨hi, hk'⟩
      · obtain ⟨_, a, c, e, hnc, hnn, h5⟩ := hh.ref k hi
        have hr := hb.rep k hi
        have nul : (oo k).n = 0 → ObjOk w' G' (look σ'.objs) k (o1 k) := fun h0 => by
          have h01 : (o1 k).n = 0 := by rw [hn1 k hi]; exact h0
          cases h.objs k (oo k) (hh.ob k hi) with
          | null m1 m2 m3 => exact .null m1 (hb.box k hi) h01
          | row b off cs ee fr xs l1 hbk hsz hlen hxs hfl hp hF hcs =>
            obtain ⟨cs', k1, k2⟩ := hb.base.szs b cs ee fr hbk
            refine .row b off cs' ee fr xs l1 k1 (by rw [h01]; omega) (fun i hi' => by omega) (fun i j hi' => by omega) (fun _ i j hi' => by omega) (fun _ => by rw [← k2]; exact hp (nst k hi)) (fun hf => by rw [hb.st k hi] at hf; cases hf) ?_
            unfold CellsOk
            rw [hb.box k hi, hb.st k hi]
            exact ⟨fun _ _ => none', fun i j hi' => by omega, fun i j y hi' => by omega, fun i j i' j' y hi' => by omega⟩
        rcases h5 with h5 | ⟨b, off, cs0, ee0, fr0, q1, q2, q3, q4⟩
        · refine nul ?_
          have : (oo k).n ≤ c := hnc
          omega
        · subst q2
          have e' : X k = .slice (some ⟨b, off + offOf none * (oo k).sz, none⟩) (o1 k).n c := by rw [hn1 k hi]; exact e
          rw [e'] at hr
          have e0 : off + offOf none * (oo k).sz = off := by simp [offOf]
          by_cases hc0 : c = 0
          · refine nul ?_
            have : (oo k).n ≤ c := hnc
            omega
          generalize hz1 : (o1 k).n = n1 at hr
          rw [e0] at hr
          have hall : ∀ a n c, X k = .slice a n c → c ≠ 0 := fun a n c' e' => by rw [e] at e'; injection e' with _ _ e3; rw [← e3]; exact hc0
          cases hr with
          | nul => exact absurd rfl hc0
          | slO _ _ _ _ _ _ _ _ _ cs ee fr xs _ Sr hbk hS hp hcap hn hsz hlen hxs hc hfl hsub hdis =>
            have hn' : (o1 k).n ≤ c := by rw [hz1]; exact hn
            refine .row b off cs ee fr xs q1 hbk (by have := Nat.mul_le_mul_right (o1 k).sz hn'; omega) (fun i hi' => hlen i (by omega)) (fun i j hi' hj => hxs i j (by omega) hj) (fun hf i j hi' hj => hfl hf i j (by omega) hj) (fun _ => hp) (fun hf => by rw [hb.st k hi] at hf; cases hf) ?_
            unfold CellsOk
            rw [hb.box k hi, hb.st k hi]
            refine ⟨Sr, fun i j hi' hj => ((hc i j (by omega) hj).zone rfl), fun i j y hi' hj hy => ?_, fun i j i' j' y h1 h2 h3 h4 => hdis i j i' j' y (by omega) h2 (by omega) h4⟩
            rw [gI k y hi]
            refine ⟨(hsub i j y (by omega) hj hy).1, fun ⟨off2, hl2⟩ => ?_, hall⟩
            rw [q1] at hl2; cases hl2
            exact (hsub i j _ (by omega) hj hy).2 rfl
      · exact (h.objs k o2 hk').step hs rfl (fun b off hl => rootSame k o2 b off hi hk' hl) (fun b hn => (gN k b hi).2 hn) (fun b hn => blk b (h.nest k b hn).1 (nN k b hi hn))
    root := fun k o2 b off hk hl hf => by
      have old : ∃ o3, look σ.objs k = some (some o3) ∧ o3.st ≠ .fz := by
        rcases hlk k o2 hk with ⟨hi, rfl⟩ | ⟨hi, hk'⟩
        · exact ⟨oo k, hh.ob k hi, nst k hi⟩
        · exact ⟨o2, hk', hf⟩
      obtain ⟨o3, hk3, hf3⟩ := old
      obtain ⟨r1, r2, r3, r4⟩ := h.root k o3 b off hk3 hl hf3
      refine ⟨Nat.lt_of_lt_of_le r1 hle, r2, r3, fun k' hn => ?_⟩
      by_cases hi' : I k'
      · obtain ⟨t1, t2, t3⟩ := (gI k' b hi').1 hn
        obtain ⟨rfl, _⟩ := notS1 k o3 b off hk3 hl hf3 k' hi' t1
        exact t2 ⟨off, hl⟩
      · exact r4 k' ((gN k' b hi').1 hn)
    rdis := fun k o2 k' o3 b off off' hk hk' hl hl' hf => by
      have old : ∀ k o2, look σ'.objs k = some (some o2) → ∃ o3, look σ.objs k = some (some o3) ∧ (o2.st ≠ .fz → o3.st ≠ .fz) := fun k o2 hk => by
        rcases hlk k o2 hk with ⟨hi, rfl⟩ | ⟨hi, hk'⟩
        · exact ⟨oo k, hh.ob k hi, fun _ => nst k hi⟩
        · exact ⟨o2, hk', fun h => h⟩
      obtain ⟨p1, a1, a2⟩ := old k o2 hk
      obtain ⟨p2, b1, b2⟩ := old k' o3 hk'
      exact h.rdis k p1 k' p2 b off off' a1 b1 hl hl' (a2 hf)
    nest := fun k b hn => by
      by_cases hi : I k
      · obtain ⟨t1, t2, t3⟩ := (gI k b hi).1 hn
        obtain ⟨s1, s2⟩ := hb.s1 k b hi t1
        refine ⟨s2, s1.elim (fun hge => .inl (Nat.le_trans h.base.size hge)) (fun hs => (swN b hs).2.1), fun hf => s1.elim (fun hge => absurd (h.flt b hf) (by omega)) (nF b hf)⟩
      · have hn := (gN k b hi).1 hn
        exact ⟨Nat.lt_of_lt_of_le (h.nest k b hn).1 hle, (h.nest k b hn).2⟩
    ndis := fun k k' b hn hn' => by
      have mix : ∀ k k', I k → ¬ I k' → G'.N k b → G'.N k' b → False := fun k k' hi hi' hn hn' => by
        obtain ⟨t1, t2, t3⟩ := (gI k b hi).1 hn
        have hn' := (gN k' b hi').1 hn'
        rcases (hb.s1 k b hi t1).1 with hge | hs
        · have := (h.nest k' b hn').1; omega
        · exact nN k' b hi' hn' hs
      by_cases hi : I k
      · by_cases hi' : I k'
        · exact hb.dis k k' b hi hi' ((gI k b hi).1 hn).1 ((gI k' b hi').1 hn').1
        · exact (mix k k' hi hi' hn hn').elim
      · by_cases hi' : I k'
        · exact (mix k' k hi' hi hn' hn).elim
        · exact h.ndis k k' b ((gN k b hi).1 hn) ((gN k' b hi').1 hn') }
  have mk : ∀ b, b < w'.heap.size → Mine w0 S0 b → ¬ G.F b → (∀ k, I k → ¬ S1 k b) → (∀ k, ¬ I k → ¬ G.N k b) → (∀ k o2 off, look σ.objs k = some (some o2) → G.loc k = some (b, off) → I k → False) → (∀ k o2 off, ¬ I k → look σ.objs k = some (some o2) → G.loc k = some (b, off) → False) → Loose w0 S0 G' σ' w' b := fun b h1 h2 h3 h4 h5 h6 h7 =>
    ⟨h1, h2, h3, fun k hn => by
      by_cases hi : I k
      · exact h4 k hi ((gI k b hi).1 hn).1
      · exact h5 k hi ((gN k b hi).1 hn), fun k o2 off hk hl => by
      rcases hlk k o2 hk with ⟨hi, rfl⟩ | ⟨hi, hk'⟩
      · exact h6 k (oo k) off (hh.ob k hi) hl hi
      · exact h7 k o2 off hi hk' hl⟩
  refine ⟨G', I', hs, rfl, rfl, fun b hl => ?_, fun b hb1 hb2 hb3 => ?_, rootSame⟩
  · have nsw : ¬ Sw b := fun hs => by
      rcases (swN b hs).2.2.2 with ⟨k, hk, hn⟩ | ⟨k, off, hk, hl', _⟩
      · exact hl.nN k hn
      · exact hl.nR k (oo k) off (hh.ob k hk) hl'
    exact mk b (Nat.lt_of_lt_of_le hl.lt hle) hl.mine hl.nF (fun k hk hs => (hb.s1 k b hk hs).1.elim (fun hge => absurd hl.lt (by omega)) nsw) (fun k _ => hl.nN k) (fun k o2 off hk hl' _ => hl.nR k o2 off hk hl') (fun k o2 off _ hk hl' => hl.nR k o2 off hk hl')
  · have lt : ∀ {P : Prop}, (b < w.heap.size → Sw b → P) → (w.heap.size ≤ b → P) → P := fun h1 h2 => hb1.elim h2 fun hs => h1 (swN b hs).1 hs
    refine mk b hb2 (hb1.elim (fun hge => .inl (Nat.le_trans h.base.size hge)) fun hs => (swN b hs).2.1) (fun hf => hb1.elim (fun hge => absurd (h.flt b hf) (by omega)) (nF b hf)) hb3 (fun k hk hn => hb1.elim (fun hge => absurd (h.nest k b hn).1 (by omega)) (nN k b hk hn)) (fun k o2 off hk hl hi => ?_) (fun k o2 off hi hk hl => ?_)
    · rcases hb1 with hge | hs
      · have := (h.root' hk hl).1; omega
      · exact hb3 k hi (rootS k b off hi hl (nR k o2 b off hk hl hs).2)
    · rcases hb1 with hge | hs
      · have := (h.root' hk hl).1; omega
      · exact hi (nR k o2 b off hk hl hs).1
end Go.Vk
end

section
namespace Go.Vk
open Go
set_option linter.unusedVariables false
set_option linter.unusedSimpArgs false
variable {w w' w0 : World} {S0 : SS} {F0 : Set'} {G G' : Gh} {ob ob' : Ob} {v : V} {x : Value} {σ σ' : St} {tm : Array Value} {id : Nat} {o o' : VO}
variable {R : Type} {r : R} {k : V → Option R} {kσ : St → Option R} {E : Env} {P : Program}

/-- A slice of an object of its own that is to go back into another one's row. -/
structure LogOk (w : World) (G : Gh) (ob : Ob) (q : Nat × Nat × Nat × Nat) (x : Value) : Prop where
  dom : ob q.2.1 ≠ none
  row : ∀ o, ob q.2.1 = some (some o) → o.box = false ∧ q.2.2.1 < o.n ∧ q.2.2.2 < o.sz ∧ Exact w (G.loc q.2.1) o.sz q.2.2.1 q.2.2.2 x
  ref : RepT w G ob (.ref q.1 none) x

theorem LogOk.step {q : Nat × Nat × Nat × Nat} (h : LogOk w G ob q x) (hs : Step w G ob w' G' ob') (hw : ∀ o b off, ob q.2.1 = some (some o) → G.loc q.2.1 = some (b, off) → w'.heap[b]? = w.heap[b]?) : LogOk w' G' ob' q x := by
  refine ⟨hs.dom _ h.dom, fun o' ho' => ?_, h.ref.step hs⟩
  obtain ⟨o, h1, h2, h3, h4, h5, _⟩ := hs.obj _ o' ho' h.dom
  obtain ⟨q1, q2, q3, b, off, cs, e, fr, q4, q5, q6⟩ := h.row o h1
  exact ⟨h4.trans q1, by omega, by omega, b, off, cs, e, fr, h5.trans q4, (hw o b off h1 q4).trans q5, by rw [h3]; exact q6⟩

theorem ref_inv {sub : Option (Nat × Nat)} (h : RepT w G ob (.ref id sub) x) : ob id ≠ none ∧ ∀ o, ob id = some (some o) → RefOk w (G.loc id) o sub x := by
  cases h with
  | val _ _ h => cases h
  | ref _ _ _ _ h1 h2 => exact ⟨h1, h2⟩

/-- What the cells that were not yet taken are, as before the first was taken. -/
def Untook (σ0 σ : St) (used : List (Nat × Nat)) : Prop := ∀ A o, look σ0.objs A = some (some o) → ∀ o', look σ.objs A = some (some o') → o'.box = o.box ∧ o'.n = o.n ∧ o'.sz = o.sz ∧ ∀ i j, (A, j) ∉ used → cellAt (o'.get i) j = cellAt (o.get i) j

theorem Untook.rfl' : Untook σ σ [] := fun A o h o' h' => by rw [h] at h'; cases h'; exact ⟨rfl, rfl, rfl, fun _ _ _ => rfl⟩

theorem pullV_sound {σ0 : St} {used : List (Nat × Nat)} {n : Nat} {kk : St → Nat → List (Nat × Nat × Nat × Nat) → Option R} (h : pullV σ0 σ n used v kk = some r) (hut : Untook σ0 σ used) (hI0 : ∃ G0, Inv w0 S0 F0 G0 σ0 tm w ∧ Step w G0 (look σ0.objs) w G (look σ.objs) ∧ RepT w G0 (look σ0.objs) v x) (hI : Inv w0 S0 F0 G σ tm w) {A0 : Set'} (hA : ∀ b, A0 b → Loose w0 S0 G σ w b) :
    ∃ σ' G' id lg, kk σ' id lg = some r ∧ Inv w0 S0 F0 G' σ' tm w ∧ Step w G (look σ.objs) w G' (look σ'.objs) ∧ σ'.tmps = σ.tmps ∧ RepT w G' (look σ'.objs) (.ref id none) x ∧ (∀ q ∈ lg, LogOk w G' (look σ'.objs) q x) ∧ (∀ b, A0 b → Loose w0 S0 G' σ' w b) ∧ Untook σ0 σ' (logUsed lg ++ used) := by
  obtain ⟨G0, hI0, st0, hv0⟩ := hI0
  have hv := hv0.step st0
  have addFree : ∀ {n : Nat} {o : VO} {τ : St}, τ.free n = true → (∀ o0, look σ0.objs n = some (some o0) → look τ.objs n ≠ none) → ∀ {u}, Untook σ0 τ u → Untook σ0 (τ.putO n (some o)) u := by
    intro n o τ hf hd u hu A o1 h1 o2 h2
    rw [look_putO] at h2
    by_cases e : n = A
    · subst e; exact (hd o1 h1 (free_look hf)).elim
    · rw [if_neg e] at h2; exact hu A o1 h1 o2 h2
  have domOf : ∀ k o0, look σ0.objs k = some (some o0) → look σ.objs k ≠ none := fun k o0 h0 => st0.dom k (by rw [h0]; simp)
  unfold pullV at h
  split at h
  · rename_i id
    exact ⟨σ, G, id, [], h, hI, .same, rfl, hv, (fun q hq => by cases hq), hA, hut⟩
  · rename_i sz fl c m g
    have hq := bif_some h; clear h
    obtain ⟨hb, h⟩ := hq
    simp only [Bool.and_eq_true] at hb
    obtain ⟨⟨h1, h2⟩, h3⟩ := hb
    have h1 := Nat.eq_of_beq_eq_true h1
    have h2 := Nat.eq_of_beq_eq_true h2
    subst h1 h2
    have hx : ∃ a, x = .slice a 0 0 := by
      cases hv with
      | val _ _ hr =>
        cases hr with
        | nul => exact ⟨_, rfl⟩
        | slF _ _ _ _ _ _ b off c cs e fr xs _ hb hF hcap =>
          rcases hcap with hcap | hcap
          · cases hcap
          · cases hcap; exact ⟨_, rfl⟩
    obtain ⟨a, rfl⟩ := hx
    obtain ⟨G', I', r', st', a'⟩ := hI.layNil (id := n) (sz := sz) (fl := fl) (g := g) (st := .dp) h3 (n := 0) rfl (by intro e; cases e) a hA
    exact ⟨_, G', n, [], h, I', st', rfl, r', (fun q hq => by cases hq), a', addFree h3 (domOf n) hut⟩
  · rename_i _ _ _ A ver i j _ _
    cases ho0 : σ0.obj A with
    | none => rw [ho0] at h; cases h
    | some oA0 =>
    cases ho : σ.obj A with
    | none => rw [ho0, ho] at h; cases h
    | some oA =>
      rw [ho0, ho] at h
      have hlk := obj_look.1 ho
      have hlk0 := obj_look.1 ho0
      simp only at h
      obtain ⟨hb, h⟩ := bif_some h
      simp only [Bool.and_eq_true, Bool.not_eq_true'] at hb
      obtain ⟨⟨⟨⟨⟨h1, h2⟩, _⟩, h3⟩, h4⟩, h5⟩ := hb
      have h1 := Nat.eq_of_beq_eq_true h1
      have h2 : j < 256 := by simpa using h2
      have h3 : oA.st = .dp := by cases hst : oA.st with | dp => rfl | sh => rw [hst] at h3; cases h3 | fz => rw [hst] at h3; cases h3
      have hun : (A, j) ∉ used := fun hm => by
        have : used.any (fun q => Nat.beq q.1 A && Nat.beq q.2 j) = true := List.any_eq_true.2 ⟨_, hm, by simp⟩
        rw [this] at h5; cases h5
      obtain ⟨u1, u2, u3, u4⟩ := hut A oA0 hlk0 oA hlk
      split at h
      · rename_i sz fl cap' src' m g hcell
        cases hv0 with
        | val _ _ hr => have := hr.nosrc; cases this
        | view _ _ _ _ _ _ _ _ _ _ hx hd hle hr hq =>
          obtain ⟨q1, q2, q3, q4⟩ := hq oA0 hlk0 h1 h2
          have hone : x.oneCell' = true := by obtain ⟨a, c, rfl, _⟩ := hx; rfl
          obtain ⟨o9, b1, _, _, _, b5, _⟩ := st0.obj A oA hlk (by rw [hlk0]; simp)
          rw [hlk0] at b1; cases b1
          have q4' : Exact w (G.loc A) oA.sz i j x := by
            obtain ⟨b, off, cs, e, fr, m1, m2, m3⟩ := q4
            exact ⟨b, off, cs, e, fr, b5.trans m1, m2, by rw [u3]; exact m3⟩
          obtain ⟨G1, Sold, I1, st1, rp1, lo1, ol1, lc1, f1, sub1⟩ := hI.setCell (c := .hole) (S := none') hlk (u1.trans q1) h3 (by omega) (by omega) q4' (.hole _ _ _ hone) (fun _ h => h.elim)
          rw [u4 i j hun, hcell] at rp1
          have hfree : (σ.putO A (some (holeAt oA i j .hole (oA.ver + 1)))).free n = true := by
            have hnA : n ≠ A := fun e => by subst e; rw [free_look h4] at hlk; cases hlk
            simp only [St.free, St.putO, look_cons, if_neg (fun e : A = n => hnA e.symm)]
            exact h4
          obtain ⟨G2, I2, r2, st2, a2⟩ := I1.laySl hfree rp1 (fun b hb => (lo1 b hb).1) (A0 := A0) (fun b hb => ol1 b (hA b hb) (fun h => h)) (fun b hb hh => (hA b hh).nN A (sub1 b hb))
          refine ⟨_, G2, n, [(n, A, i, j)], h, I2, st1.trans' st2, rfl, r2, fun q hq' => ?_, a2, ?_⟩
          · have : q = (n, A, i, j) := by simpa using hq'
            subst this
            refine ⟨st2.dom A (st1.dom A (by rw [hlk]; simp)), fun o' ho' => ?_, r2⟩
            obtain ⟨o1, b1, b2, b3, b4, b5, _⟩ := (st1.trans' st2).obj A o' ho' (by rw [hlk]; simp)
            rw [hlk] at b1; cases b1
            obtain ⟨b, off, cs, e, fr, m1, m2, m3⟩ := q4'
            exact ⟨b4.trans (u1.trans q1), by show i < _; omega, by show j < _; omega, b, off, cs, e, fr, b5.trans m1, m2, by rw [b3]; exact m3⟩
          · refine addFree hfree (fun o0 h0 => ?_) fun B ob hB ob' hB' => ?_
            · rw [look_putO]; split
              · simp
              · exact domOf n o0 h0
            · rw [look_putO] at hB'
              by_cases e : A = B
              · subst e; simp at hB'; subst hB'
                rw [hlk0] at hB; cases hB
                refine ⟨u1 ▸ (by rw [show (holeAt oA i j .hole (oA.ver + 1)).box = false from rfl]; exact (u1.trans q1).symm), u2, u3, fun i' j' hne => ?_⟩
                have hne1 : j' ≠ j := fun e => hne (by subst e; simp [logUsed])
                have hne2 : (A, j') ∉ used := fun hm => hne (List.mem_append_right _ hm)
                rw [holeAt_get]
                split
                · rename_i e; subst e
                  rw [setAt_at, if_neg fun hh => hne1 hh.1]; exact u4 i' j' hne2
                · exact u4 i' j' hne2
              · rw [if_neg e] at hB'
                obtain ⟨v1, v2, v3, v4⟩ := hut B ob hB ob' hB'
                exact ⟨v1, v2, v3, fun i' j' hne => v4 i' j' fun hm => hne (List.mem_append_right _ hm)⟩
      · cases h
  · cases h
end Go.Vk
end

section
namespace Go.Vk
open Go
set_option linter.unusedVariables false
set_option linter.unusedSimpArgs false
variable {w w' w0 : World} {S0 : SS} {F0 : Set'} {G G' : Gh} {ob ob' : Ob} {v : V} {x : Value} {σ σ' : St} {tm : Array Value} {id : Nat} {o o' : VO}
variable {R : Type} {r : R} {k : V → Option R} {kσ : St → Option R} {E : Env} {P : Program}

theorem pullG_sound {σ0 : St} {G0 : Gh} {args : List V} {X : Slot → Value} (hI0 : Inv w0 S0 F0 G0 σ0 tm w) (hv : ∀ s, RepT w G0 (look σ0.objs) (slotV args s) (X s)) : ∀ (ms : List Slot) (n : Nat) (σ : St) (G : Gh) (used : List (Nat × Nat)) (A0 : Set') (kk : St → List Nat → List (Nat × Nat × Nat × Nat) → Option R), pullG σ0 σ n used args ms kk = some r → Inv w0 S0 F0 G σ tm w →
    Step w G0 (look σ0.objs) w G (look σ.objs) → Untook σ0 σ used → (∀ b, A0 b → Loose w0 S0 G σ w b) →
    ∃ (σ' : St) (G' : Gh) (ids : List Nat) (lg : List (Nat × Nat × Nat × Nat)), kk σ' ids lg = some r ∧ Inv w0 S0 F0 G' σ' tm w ∧ Step w G (look σ.objs) w G' (look σ'.objs) ∧ σ'.tmps = σ.tmps ∧ ids.length = ms.length ∧
      (∀ (i id : Nat) (s : Slot), ids[i]? = some id → ms[i]? = some s → RepT w G' (look σ'.objs) (.ref id none) (X s)) ∧ (∀ q ∈ lg, ∃ x, LogOk w G' (look σ'.objs) q x) ∧ (∀ b, A0 b → Loose w0 S0 G' σ' w b)
  | [], n, σ, G, used, A0, kk, h, hI, st0, hu, hA => ⟨σ, G, [], [], h, hI, .same, rfl, rfl, (fun i id s h => by cases h), (fun q hq => by cases hq), hA⟩
  | s :: ms, n, σ, G, used, A0, kk, h, hI, st0, hu, hA => by
    unfold pullG at h
    obtain ⟨σ1, G1, id, lg, h, I1, st1, t1, r1, l1, a1, u1⟩ := pullV_sound h hu ⟨G0, hI0, st0, hv s⟩ hI hA
    obtain ⟨σ2, G2, ids, lg', h, I2, st2, t2, len2, r2, l2, a2⟩ := pullG_sound hI0 hv ms (n + 1) σ1 G1 _ A0 _ h I1 (st0.trans' st1) u1 a1
    refine ⟨σ2, G2, id :: ids, lg ++ lg', h, I2, st1.trans' st2, t2.trans t1, by simp [len2], fun i id' s' hi hs => ?_, fun q hq => ?_, a2⟩
    · cases i with
      | zero => simp at hi hs; subst hi hs; exact r1.step st2
      | succ i => exact r2 i id' s' (by simpa using hi) (by simpa using hs)
    · rcases List.mem_append.1 hq with hq | hq
      · exact ⟨_, (l1 q hq).step st2 fun _ _ _ _ _ => rfl⟩
      · exact l2 q hq

theorem pullL_sound {args : List V} {X : Slot → Value} (ms : List Slot) (n : Nat) (σ : St) (G : Gh) (A0 : Set') (kk : St → List Nat → List (Nat × Nat × Nat × Nat) → Option R) (h : pullL σ n args ms kk = some r) (hI : Inv w0 S0 F0 G σ tm w)
    (hv : ∀ s, RepT w G (look σ.objs) (slotV args s) (X s)) (hA : ∀ b, A0 b → Loose w0 S0 G σ w b) :
    ∃ (σ' : St) (G' : Gh) (ids : List Nat) (lg : List (Nat × Nat × Nat × Nat)), kk σ' ids lg = some r ∧ Inv w0 S0 F0 G' σ' tm w ∧ Step w G (look σ.objs) w G' (look σ'.objs) ∧ σ'.tmps = σ.tmps ∧ ids.length = ms.length ∧
      (∀ (i id : Nat) (s : Slot), ids[i]? = some id → ms[i]? = some s → RepT w G' (look σ'.objs) (.ref id none) (X s)) ∧ (∀ q ∈ lg, ∃ x, LogOk w G' (look σ'.objs) q x) ∧ (∀ b, A0 b → Loose w0 S0 G' σ' w b) :=
  pullG_sound hI hv ms n σ G [] A0 kk h hI .same .rfl' hA

theorem treesL_sound : ∀ (ids : List Nat) (kk : List V → Option R), treesL σ ids kk = some r → ∃ trees : List V, kk trees = some r ∧ trees.length = ids.length ∧
    ∀ (i id : Nat), ids[i]? = some id → ∃ o, look σ.objs id = some (some o) ∧ o.box = false ∧ o.st = .dp ∧ trees[i]? = some (V.sl o.sz o.fl none none o.n o.get)
  | [], kk, h => ⟨[], h, rfl, fun i id h => by cases h⟩
  | id :: ids, kk, h => by
    unfold treesL at h
    cases ho : σ.obj id with
    | none => rw [ho] at h; cases h
    | some o =>
      rw [ho] at h
      simp only at h
      obtain ⟨hb, h⟩ := bif_some h
      simp only [Bool.and_eq_true, Bool.not_eq_true'] at hb
      have hst : o.st = .dp := by cases hst : o.st with | dp => rfl | sh => rw [hst] at hb; cases hb.2 | fz => rw [hst] at hb; cases hb.2
      obtain ⟨trees, h, hl, ht⟩ := treesL_sound ids _ h
      refine ⟨_, h, by simp [hl], fun i id' hi => ?_⟩
      cases i with
      | zero => simp at hi; subst hi; exact ⟨o, obj_look.1 ho, hb.1, hst, rfl⟩
      | succ i =>
        obtain ⟨o', q1, q2, q3, q4⟩ := ht i id' (by simpa using hi)
        exact ⟨o', q1, q2, q3, by simpa using q4⟩

theorem backL_sound : ∀ (ids : List Nat) (vs : List V) (σ : St), backL σ ids vs kσ = some r → distinct ids = true → ∃ σ', kσ σ' = some r ∧ σ'.tmps = σ.tmps ∧ vs.length = ids.length ∧ (∀ j, j ∉ ids → look σ'.objs j = look σ.objs j) ∧
    ∀ (i id : Nat), ids[i]? = some id → ∃ (o : VO) (fl : Bool) (cap : Option Nat) (src : Option (Nat × Nat × Nat × Nat)) (n : Nat) (g : Nat → List V), look σ.objs id = some (some o) ∧ vs[i]? = some (V.sl o.sz fl cap src n g) ∧ look σ'.objs id = some (some ⟨false, .dp, o.sz, fl, n, g, o.ver + 1⟩)
  | [], [], σ, h, _ => ⟨σ, h, rfl, rfl, fun _ _ => rfl, fun i id h => by cases h⟩
  | [], v :: vs, σ, h, _ => by cases h
  | id :: ids, [], σ, h, _ => by cases h
  | id :: ids, v :: vs, σ, h, hd => by
    cases v with
    | sl sz fl cap src n g =>
      simp only [backL] at h
      cases ho : σ.obj id with
      | none => rw [ho] at h; cases h
      | some o =>
        rw [ho] at h
        simp only at h
        have hq := bif_some h; clear h
        obtain ⟨hb, h⟩ := hq
        have hb := Nat.eq_of_beq_eq_true hb
        subst hb
        obtain ⟨d1, d2⟩ := distinct_cons hd
        obtain ⟨σ', h, t1, l1, s1, c1⟩ := backL_sound ids vs _ h d2
        have hne : ∀ j, j ∈ ids → look (σ.putO id (some ⟨false, .dp, o.sz, fl, n, g, o.ver + 1⟩)).objs j = look σ.objs j := fun j hj => by
          rw [look_putO, if_neg fun e => d1 j hj e.symm]
        refine ⟨σ', h, t1, by simp [l1], fun j hj => ?_, fun i id' hi => ?_⟩
        · rw [s1 j fun hh => hj (by simp [hh]), look_putO, if_neg fun e => hj (by simp [e])]
        · cases i with
          | zero =>
            simp at hi; subst hi
            refine ⟨o, fl, cap, src, n, g, obj_look.1 ho, rfl, ?_⟩
            rw [s1 id fun hh => d1 id hh rfl, look_putO, if_pos rfl]
          | succ i =>
            have hi : ids[i]? = some id' := by simpa using hi
            obtain ⟨o', fl', cap', src', n', g', q1, q2, q3⟩ := c1 i id' hi
            rw [hne id' (List.mem_of_getElem? hi)] at q1
            exact ⟨o', fl', cap', src', n', g', q1, by simpa using q2, q3⟩
    | _ => cases h

theorem pushL_sound : ∀ (lg : List (Nat × Nat × Nat × Nat)) (σ : St) (G : Gh) (A0 : Set'), pushL σ lg kσ = some r → Inv w0 S0 F0 G σ tm w → (∀ q ∈ lg, ∃ x, LogOk w G (look σ.objs) q x) → (∀ b, A0 b → Loose w0 S0 G σ w b) →
    ∃ σ' G', kσ σ' = some r ∧ Inv w0 S0 F0 G' σ' tm w ∧ Step w G (look σ.objs) w G' (look σ'.objs) ∧ σ'.tmps = σ.tmps ∧ (∀ b, A0 b → Loose w0 S0 G' σ' w b)
  | [], σ, G, A0, h, hI, _, hA => ⟨σ, G, h, hI, .same, rfl, hA⟩
  | (n, A, i, j) :: lg, σ, G, A0, h, hI, hlg, hA => by
    simp only [pushL] at h
    cases hn : σ.obj n with
    | none => rw [hn] at h; cases h
    | some p =>
      cases ho : σ.obj A with
      | none => rw [hn, ho] at h; cases h
      | some o =>
        rw [hn, ho] at h
        simp only at h
        obtain ⟨hb, h⟩ := bif_some h
        simp only [Bool.and_eq_true, Bool.not_eq_true'] at hb
        obtain ⟨⟨⟨⟨b1, b2⟩, b3⟩, b4⟩, b5⟩ := hb
        have dpOf : ∀ {s : Own}, s.isDp = true → s = .dp := fun {s} h => by cases s <;> first | rfl | cases h
        have b2 := dpOf b2
        have b4 := dpOf b4
        have hne : n ≠ A := fun e => by subst e; simp at b5
        have lkn := obj_look.1 hn
        have lkA := obj_look.1 ho
        obtain ⟨x, lo⟩ := hlg (n, A, i, j) (by simp)
        have hr := (ref_inv lo.ref).2 p lkn
        obtain ⟨tr, _⟩ := (hI.objs n p lkn).tree b1 hr (fun b off hl hh => (hI.root n p b off lkn hl (by rw [b2]; simp)).2.2.2 n hh)
        have tr := tr b2
        obtain ⟨I1, lN, lR⟩ := hI.kill lkn
        have st1 := kill_step hI lkn
        have lkA1 : look (σ.putO n none).objs A = some (some o) := by rw [look_putO, if_neg hne]; exact lkA
        have lo1 := lo.step st1 fun _ _ _ _ _ => rfl
        obtain ⟨q1, q2, q3, q4⟩ := lo1.row o lkA1
        obtain ⟨G2, Sold, I2, st2, _, _, ol2, _, _, _⟩ := I1.setCell lkA1 b3 b4 q2 q3 q4 (c := .sl p.sz p.fl none none p.n p.get) (S := fun b => (∃ off, G.loc n = some (b, off)) ∨ G.N n b) (tr.mono fun b hb => hb)
          (fun b hb => hb.elim (fun ⟨off, hl⟩ => lR b off hl (by rw [b2]; simp)) (lN b))
        have hA1 : ∀ b, A0 b → Loose w0 S0 G2 ((σ.putO n none).putO A (some (holeAt o i j (.sl p.sz p.fl none none p.n p.get) (o.ver + 1)))) w b := fun b hb => ol2 b ((hA b hb).kill n) fun hh => hh.elim (fun ⟨off, hl⟩ => (hA b hb).nR n p off lkn hl) fun hq => (hA b hb).nN n hq
        obtain ⟨σ', G', h, I', st', t', a'⟩ := pushL_sound lg _ G2 A0 h I2 (fun q hq => by
          obtain ⟨x', l'⟩ := hlg q (by simp [hq])
          exact ⟨x', (l'.step st1 fun _ _ _ _ _ => rfl).step st2 fun _ _ _ _ _ => rfl⟩) hA1
        exact ⟨σ', G', h, I', (st1.trans' st2).trans' st', t', a'⟩
end Go.Vk
end

section
namespace Go.Vk
open Go
set_option linter.unusedVariables false
set_option linter.unusedSimpArgs false
variable {w w' w0 : World} {S0 : SS} {F0 : Set'} {G G' : Gh} {ob ob' : Ob} {v : V} {x : Value} {σ σ' : St} {tm : Array Value} {id : Nat} {o o' : VO}
variable {R : Type} {r : R} {k : V → Option R} {kσ : St → Option R} {E : Env} {P : Program}

theorem slotEq_iff {s q : Slot} : slotEq s q = true ↔ s = q := by
  obtain ⟨p, i⟩ := s
  obtain ⟨p', i'⟩ := q
  cases i <;> cases i' <;> simp [slotEq]

theorem lkS_some : ∀ {ms : List Slot} {vs : List V} {q : Slot} {v : V}, lkS ms vs q = some v → ∃ i : Nat, ms[i]? = some q ∧ vs[i]? = some v
  | [], vs, q, v, h => by simp [lkS] at h
  | s :: ms, [], q, v, h => by simp [lkS] at h
  | s :: ms, u :: vs, q, v, h => by
    simp only [lkS] at h
    cases hs : slotEq s q with
    | true => rw [hs] at h; cases h; exact ⟨0, by simp [slotEq_iff.1 hs], rfl⟩
    | false =>
      rw [hs] at h
      obtain ⟨i, h1, h2⟩ := lkS_some h
      exact ⟨i + 1, by simpa using h1, by simpa using h2⟩

theorem lkS_none : ∀ {ms : List Slot} {vs : List V} {q : Slot}, ms.length = vs.length → lkS ms vs q = none → q ∉ ms
  | [], vs, q, _, h => by simp
  | s :: ms, [], q, hl, h => by simp at hl
  | s :: ms, u :: vs, q, hl, h => by
    simp only [lkS] at h
    cases hs : slotEq s q with
    | true => rw [hs] at h; cases h
    | false =>
      rw [hs] at h
      have := lkS_none (by simpa using hl) h
      have hne : q ≠ s := fun e => by subst e; rw [slotEq_iff.2 rfl] at hs; cases hs
      simp [this, hne]

theorem fillC_len (f : Nat → Option V) : ∀ (j : Nat) (cs : List V), (fillC f j cs).length = cs.length
  | _, [] => rfl
  | j, c :: cs => by simp [fillC, fillC_len f (j + 1) cs]

theorem fillC_at (f : Nat → Option V) : ∀ (j : Nat) (cs : List V) (i : Nat), i < cs.length → cellAt (fillC f j cs) i = match f (j + i) with | some v => v | none => cellAt cs i
  | j, c :: cs, 0, _ => by simp only [fillC, cellAt, List.getElem?_cons_zero, Nat.add_zero]; cases f j <;> rfl
  | j, c :: cs, i + 1, hi => by
    have := fillC_at f (j + 1) cs i (by simpa using hi)
    simp only [fillC, cellAt, List.getElem?_cons_succ] at this ⊢
    rw [this, show j + 1 + i = j + (i + 1) by omega]

def fill1 (f : Slot → Option V) (i : Nat) (a : V) : V := match f (i, none) with
  | some v => v
  | none => match a with
    | .agg cs => .agg (fillC (fun j => f (i, some j)) 0 cs)
    | a => a

theorem fillA_len (f : Slot → Option V) : ∀ (k : Nat) (as : List V), (fillA f k as).length = as.length
  | _, [] => rfl
  | k, a :: as => by simp [fillA, fillA_len f (k + 1) as]

theorem fillA_at (f : Slot → Option V) : ∀ (k : Nat) (as : List V) (i : Nat), i < as.length → cellAt (fillA f k as) i = fill1 f (k + i) (cellAt as i)
  | k, a :: as, 0, _ => by simp only [fillA, cellAt, List.getElem?_cons_zero, Nat.add_zero, fill1]; rfl
  | k, a :: as, i + 1, hi => by
    have := fillA_at f (k + 1) as i (by simpa using hi)
    simp only [fillA, cellAt, List.getElem?_cons_succ] at this ⊢
    rw [this, show k + 1 + i = k + (i + 1) by omega]

theorem fillC_none : ∀ (j : Nat) (cs : List V), fillC (fun _ => none) j cs = cs
  | _, [] => rfl
  | j, c :: cs => by simp [fillC, fillC_none (j + 1) cs]

theorem fillA_none : ∀ (k : Nat) (as : List V), fillA (fun _ => none) k as = as
  | _, [] => rfl
  | k, a :: as => by
    have ih := fillA_none (k + 1) as
    have e : fillA (fun _ => none) k (a :: as) = fill1 (fun _ => none) k a :: fillA (fun _ => none) (k + 1) as := rfl
    rw [e, ih]
    cases a with
    | agg cs => exact congrArg (· :: as) (congrArg V.agg (fillC_none 0 cs))
    | _ => rfl

theorem fillSlots_nil (args vs : List V) : fillSlots args [] vs = args := by
  have : lkS [] vs = fun _ => none := by funext q; cases vs <;> rfl
  rw [fillSlots, this, fillA_none]

/-- What lies in a written place. -/
def slotVal (vals : Array Value) : Slot → Value
  | (p, none) => vals.getD p default
  | (p, some j) => match vals.getD p default with | .agg xs => xs.getD j default | _ => default

/-- What is handed to a call: some of it to be written. -/
structure ArgsM (w : World) (F : Set') (ms : List Slot) (args : List V) (vals : Array Value) (Ss : Slot → Set') : Prop where
  len : args.length = vals.size
  rest : ∀ i, i < args.length → ArgOk w F (cellAt (blanks args ms) i) (vals.getD i default)
  slot : ∀ s ∈ ms, Rep w F true (slotV args s) (slotVal vals s) (Ss s)
  lt : ∀ s ∈ ms, ∀ b, Ss s b → b < w.heap.size ∧ ¬ F b
  dis : ∀ s ∈ ms, ∀ s' ∈ ms, ∀ b, Ss s b → Ss s' b → s = s'

theorem ArgsM.nil {F : Set'} {args : List V} {vals : Array Value} (h : args.length = vals.size) (ha : ∀ i, i < args.length → ArgOk w F (cellAt args i) (vals.getD i default)) : ArgsM w F [] args vals (fun _ => none') :=
  ⟨h, fun i hi => by rw [show blanks args [] = args from fillSlots_nil args _]; exact ha i hi, fun s hs => by simp at hs, fun s hs => by simp at hs, fun s hs => by simp at hs⟩

/-- How a call's results are handed back. -/
def packed (xs : List Value) : Value := match xs with | [x] => x | xs => .tuple xs.toArray

def Ret.all (r : Ret) : List (V × Own) := r.res ++ r.outs.map fun v => (v, Own.dp)

/-- What a call has given back. -/
structure Out (w : World) (S F : Set') (vs : List Value) (ret : Ret) (e : Ending) (w' : World) : Prop where
  base : Base w S w'
  main : ∃ (xs : List Value) (F' : Set') (Ss : Nat → Set'), e = .returned (packed xs) ∧ (∀ b, F b → F' b) ∧ (∀ b, F' b → F b ∨ w.heap.size ≤ b ∨ S b) ∧ (∀ b, F' b → b < w'.heap.size) ∧ ret.res.length = xs.length ∧ ret.outs.length = vs.length ∧
    (∀ (i : Nat) (p : V × Own) (x : Value), ret.all[i]? = some p → (xs ++ vs)[i]? = some x → ResRep w' F' p.1 p.2 x (Ss i)) ∧ (∀ i b, i < ret.all.length → Ss i b → (w.heap.size ≤ b ∨ S b) ∧ b < w'.heap.size ∧ ¬ F' b) ∧ (∀ i i' b, i < ret.all.length → i' < ret.all.length → Ss i b → Ss i' b → i = i')

def HasBody (P : Program) (f : FuncId) : Prop := ∃ fn c, P.funcs[f]? = some fn ∧ (fn.name == "runtime.NumGoroutine") = false ∧ fn.body = some c

/-- A table of calls that tells the truth. -/
def SoundCall (E : Env) (callF : FuncId → List V → Option Ret) : Prop := ∀ f args ret, callF f args = some ret → HasBody E.P f ∧
  ∀ (w : World) (F : Set') (vals : Array Value) (Ss : Slot → Set'), (∀ b, F b → b < w.heap.size) → (∀ g row, E.G g = some row → Rep w F false (.pv none row 0) (.pointer (some ⟨g, 0, none⟩)) none') →
    ArgsM w F (E.M f) args vals Ss → Calls E.P f vals w (Out w (fun b => ∃ s ∈ E.M f, Ss s b) F ((E.M f).map (slotVal vals)) ret)

theorem ResRep.dp_any {F F' : Set'} {u : V} {S : Set'} (h : ResRep w F u .dp x S) : ResRep w F' u .dp x S := by
  cases h with
  | dp _ _ _ h => exact .dp _ _ _ (h.zone rfl)
  | dpA cs xs _ Sr hl h hS hd => exact .dpA _ _ _ Sr hl (fun i hi => (h i hi).zone rfl) hS hd

end Go.Vk
end

section
namespace Go.Vk
open Go
set_option linter.unusedVariables false
set_option linter.unusedSimpArgs false
variable {w w' w0 : World} {S0 : SS} {F0 : Set'} {G G' : Gh} {ob ob' : Ob} {v : V} {x : Value} {σ σ' : St} {tm : Array Value} {id : Nat} {o o' : VO}
variable {R : Type} {r : R} {k : V → Option R} {kσ : St → Option R} {E : Env} {P : Program}

theorem promL_sound : ∀ (l : List (V × Own)) (b0 : Nat) (xs : List Value) (Ss : Nat → Set') (G : Gh) (A0 : Set'), Inv w0 S0 F0 G σ tm w → Given w w0 S0 G σ A0 l xs Ss → (∀ b, A0 b → Loose w0 S0 G σ w b) →
    (∀ q ∈ (promL b0 l).2, σ.free q.1 = true) → distinct ((promL b0 l).2.map (·.1)) = true →
    ∃ G', Inv w0 S0 F0 G' (σ.putL (promL b0 l).2) tm w ∧ Step w G (look σ.objs) w G' (look (σ.putL (promL b0 l).2).objs) ∧ (promL b0 l).1.length = l.length ∧
      (∀ i, i < l.length → RepT w G' (look (σ.putL (promL b0 l).2).objs) (cellAt (promL b0 l).1 i) (xs.getD i default)) ∧ (∀ b, A0 b → Loose w0 S0 G' (σ.putL (promL b0 l).2) w b)
  | [], b0, xs, Ss, G, A0, h, _, hA, _, _ => ⟨G, h, .same, rfl, fun i hi => absurd hi (by simp), hA⟩
  | (u, own) :: l, b0, xs, Ss, G, A0, h, hg, hA, hfr, hdi => by
    cases xs with
    | nil => have := hg.len; simp at this
    | cons x xs =>
      have e : (promL b0 ((u, own) :: l)).2 = (promV b0 u own).2 ++ (promL (b0 + 64) l).2 := rfl
      have e1 : (promL b0 ((u, own) :: l)).1 = (promV b0 u own).1 :: (promL (b0 + 64) l).1 := rfl
      rw [e] at hfr hdi ⊢
      rw [e1]
      rw [List.map_append] at hdi
      obtain ⟨d1, d2, d3⟩ := distinct_append hdi
      obtain ⟨G1, I1, st1, l1, r1, a1⟩ := promL_sound l (b0 + 64) xs (fun i => Ss (i + 1)) G (fun b => A0 b ∨ Ss 0 b) h
        ⟨by have := hg.len; simpa using this, fun i p y hp hy => hg.rep (i + 1) p y (by simpa using hp) (by simpa using hy), fun i b hi hb => ⟨(hg.loose (i + 1) b (by simpa using hi) hb).1, fun hh => hh.elim (hg.loose (i + 1) b (by simpa using hi) hb).2 fun h0 => by
          have := hg.dis 0 (i + 1) b (by simp) (by simpa using hi) h0 hb; omega⟩, fun i i' b hi hi' hb hb' => by have := hg.dis (i + 1) (i' + 1) b (by simpa using hi) (by simpa using hi') hb hb'; omega⟩
        (fun b hb => hb.elim (hA b) fun h0 => (hg.loose 0 b (by simp) h0).1) (fun q hq => hfr q (by simp [hq])) d2
      obtain ⟨G2, I2, st2, r2, a2⟩ := promV_sound I1 (b0 := b0) ((hg.rep 0 (u, own) x rfl rfl).mono st1.F) (fun b hb => ⟨a1 b (.inr hb), (hg.loose 0 b (by simp) hb).2⟩) (fun b hb => a1 b (.inl hb))
        (fun q hq => free_putL (hfr q (by simp [hq])) fun q' hq' => fun e => d3 q.1 (List.mem_map.2 ⟨q, hq, rfl⟩) q'.1 (List.mem_map.2 ⟨q', hq', rfl⟩) e.symm) d1
      rw [putL_append]
      refine ⟨G2, I2, st1.trans' st2, by simp [l1], fun i hi => ?_, a2⟩
      cases i with
      | zero => exact r2
      | succ i => exact (r1 i (by simpa using hi)).step st2


/-- The end of a call, from a state in which the results are good. -/
theorem call_finish {d : Nat} {dst : Option Nat} {ret : Ret} {ys : List Value} {Ss : Nat → Set'} (hd : dstIn tm.size dst = true) {next : Act → World → Prop} (cont : Cont w0 S0 F0 kσ r next tm.size) {σ1 : St} {G1 : Gh} (I1 : Inv w0 S0 F0 G1 σ1 tm w')
    (giv : Given w' w0 S0 G1 σ1 none' ret.res ys Ss) (fr : ∀ q ∈ (promL (d * 256) ret.res).2, σ1.free q.1 = true) (hdis : distinct ((promL (d * 256) ret.res).2.map (·.1)) = true) (h : kσ ((σ1.putL (promL (d * 256) ret.res).2).put dst (tupOf (promL (d * 256) ret.res).1)) = some r) :
    ∃ v, Ending.returned (packed ys) = .returned v ∧ next ⟨putT tm dst v, []⟩ w' := by
  obtain ⟨G2, I2, st2, l2, r2, _⟩ := promL_sound ret.res (d * 256) ys Ss G1 none' I1 giv (fun _ h => h.elim) fr hdis
  refine ⟨_, rfl, cont _ _ _ _ (I2.put (v := tupOf (promL (d * 256) ret.res).1) (x := packed ys) ?_ hd) (putT_size _ _) h⟩
  have lys : (promL (d * 256) ret.res).1.length = ys.length := by rw [l2, giv.len]
  generalize (promL (d * 256) ret.res).1 = vs at *
  have hall : ∀ i, i < vs.length → RepT w' G2 (look (σ1.putL (promL (d * 256) ret.res).2).objs) (cellAt vs i) (ys.getD i default) := fun i hi => r2 i (by omega)
  match vs, ys, lys with
  | [v], [y], _ => exact hall 0 (by simp)
  | [], [], _ => exact .tup _ _ rfl fun i hi => absurd hi (by simp)
  | v1 :: v2 :: vs, y1 :: y2 :: ys, hle =>
    refine .tup _ _ (by simpa using hle) fun i hi => ?_
    have := hall i hi
    simpa using this

theorem call0_sound {callF : FuncId → List V → Option Ret} (hE : EnvOk E) (hp : Pre E w0 S0 F0) (hI : Inv w0 S0 F0 G σ tm w) (hcall : SoundCall E callF) {d : Nat} {dst : Option Nat} {f : FuncId} {ts : List Nat} {args : List V} {xs : List Value} (hM : (E.M f).isEmpty = true) (h : callC E callF σ d dst f ts args kσ = some r)
    (hl : args.length = xs.length) (hc : ∀ i, i < args.length → RepT w G (look σ.objs) (cellAt args i) (xs.getD i default)) (hd : dstIn tm.size dst = true) {next : Act → World → Prop} (cont : Cont w0 S0 F0 kσ r next tm.size) :
    HasBody E.P f ∧ Calls E.P f xs.toArray w fun e w' => ∃ v, e = .returned v ∧ next ⟨putT tm dst v, []⟩ w' := by
  have hM' : E.M f = [] := by cases hm : E.M f with | nil => rfl | cons a l => rw [hm] at hM; cases hM
  unfold callC at h
  rw [hM] at h
  simp only [Bool.not_true, cond_false] at h
  obtain ⟨args', h, hl', hargs⟩ := argsC_sound hI (args.flatMap (idsIn σ)) ts args xs _ h hl hc (fun v hv id hid => List.mem_flatMap.2 ⟨v, hv, hid⟩)
  cases hcf : callF f args' with
  | none => rw [hcf] at h; cases h
  | some ret =>
    rw [hcf] at h
    simp only at h
    obtain ⟨hb, h⟩ := bif_some h
    simp only [Bool.and_eq_true] at hb
    obtain ⟨⟨hfree, hdis⟩, houts⟩ := hb
    have houts' : ret.outs = [] := by cases ho : ret.outs with | nil => rfl | cons a l => rw [ho] at houts; cases houts
    obtain ⟨hbody, hcalls⟩ := hcall f args' ret hcf
    refine ⟨hbody, ?_⟩
    have zlt : ∀ b, Zone G σ (args.flatMap (idsIn σ)) b → b < w.heap.size := by
      rintro b (hb | ⟨id, _, o, hlk, hb | ⟨off, hb⟩⟩)
      · exact hI.flt b hb
      · exact (hI.nest id b hb).1
      · exact (hI.root' hlk hb).1
    refine Calls.mono (hcalls w (Zone G σ (args.flatMap (idsIn σ))) xs.toArray (fun _ => none') zlt (fun g row hg => ?_) (by rw [hM']; exact .nil (by simp [hl', hl]) (fun i hi => by simpa using hargs i (by omega)))) fun e w' ho => ?_
    · have hr : Rep w0 F0 false (.pv none row 0) (.pointer (some ⟨g, 0, none⟩)) none' := hp.glob g row hg
      refine (hr.world fun b hb => ?_).mono fun b hb => .inl (hI.fsub b hb)
      have hF : F0 b := hb.elim (fun h => h.elim) (fun h => h)
      exact hI.base.block b (hp.F0lt b hF) (hp.dis b hF)
    · obtain ⟨base, ys, F', Ss, rfl, f1, f2, f3, lq, lo, rep0, own0, dis0⟩ := ho
      have eall : ret.all = ret.res := by simp [Ret.all, houts']
      have evs : (E.M f).map (slotVal xs.toArray) = [] := by rw [hM']; rfl
      rw [evs, List.append_nil] at rep0
      rw [eall] at rep0 own0 dis0
      have noS : ∀ b, ¬ ∃ s ∈ E.M f, (fun _ => none' : Slot → Set') s b := fun b ⟨s, hs, hh⟩ => hh
      have rep := rep0
      have own : ∀ i b, i < ret.res.length → Ss i b → w.heap.size ≤ b ∧ b < w'.heap.size ∧ ¬ F' b := fun i b hi hb => by
        obtain ⟨h1, h2, h3⟩ := own0 i b hi hb
        exact ⟨h1.elim (fun h => h) fun h => (noS b h).elim, h2, h3⟩
      have dis := dis0
      have f2 : ∀ b, F' b → Zone G σ (args.flatMap (idsIn σ)) b ∨ w.heap.size ≤ b := fun b hb => (f2 b hb).elim .inl fun h => h.elim .inr fun h => (noS b h).elim
      have blk : ∀ b, b < w.heap.size → w'.heap[b]? = w.heap[b]? := fun b hb => base.block b hb (noS b)
      obtain ⟨I1, lo1, new1, st1⟩ := hI.world base.szs base.size base.os base.tape base.output (fun b hlt _ => blk b hlt)
      cases hdp : ret.res.all (·.2.isDp) with
      | true =>
        rw [hdp] at h hfree
        simp only [cond_true] at h hfree
        refine call_finish hd cont I1 ⟨lq, fun i p y hp' hy => ?_, fun i b hi hb => ?_, dis⟩ (fun q hq => List.all_eq_true.1 hfree q hq) hdis h
        · have hpd : p.2.isDp = true := List.all_eq_true.1 hdp p (List.mem_of_getElem? hp')
          have := rep i p y hp' hy
          obtain ⟨u, ow⟩ := p
          cases ow with
          | dp => exact this.dp_any
          | sh => cases hpd
          | fz => cases hpd
        · obtain ⟨b1, b2, b3⟩ := own i b hi hb
          exact ⟨new1 b b1 b2, fun h => h⟩
      | false =>
        rw [hdp] at h hfree
        simp only [cond_false] at h hfree
        have hL : ∀ b, (w.heap.size ≤ b ∧ F' b) → Loose w0 S0 G σ w' b := fun b hb => new1 b hb.1 (f3 b hb.2)
        have I2 := I1.share (L := fun b => w.heap.size ≤ b ∧ F' b) hL
        obtain ⟨G3, I3, st3, _, fr3, lo3, free3⟩ := freezeL_sound (args.flatMap (idsIn σ)) σ _ I2
        have hFF : ∀ b, F' b → G3.F b := by
          intro b hb
          rcases f2 b hb with hz | hn
          · rcases hz with hz | ⟨id, hin, o, hlk, hz⟩
            · exact st3.F b (.inl hz)
            · exact fr3 id hin o hlk b hz
          · exact st3.F b (.inr ⟨hn, hb⟩)
        refine call_finish hd cont I3 ⟨lq, fun i p y hp' hy => (rep i p y hp' hy).mono hFF, fun i b hi hb => ?_, dis⟩ (fun q hq => List.all_eq_true.1 hfree q hq) hdis h
        obtain ⟨b1, b2, b3⟩ := own i b hi hb
        exact ⟨lo3 b ((new1 b b1 b2).more fun hh => b3 hh.2), fun h => h⟩
end Go.Vk
end
