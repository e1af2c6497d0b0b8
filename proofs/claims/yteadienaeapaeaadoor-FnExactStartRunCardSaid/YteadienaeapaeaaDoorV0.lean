/- The statement FnExactStartRun, as its card says, holds of the given program: no conditions. Part 0. -/
import Derived.RowKit3
import Derived.Calls
import Derived.Orders
import Derived.Laws.Cells
import Derived.Laws.IdiomCopy
import Derived.Laws.MakeOwn
import Derived.Laws.Cover3
import Derived.Below
set_option linter.unusedSectionVars false
set_option linter.unusedVariables false
set_option linter.unusedSimpArgs false
section
namespace Go.Vk
open Go
set_option linter.unusedVariables false

/-- A value as a tree. 'sl': a slice by value: cells of an element, whether they are all plain, the capacity where it is known, where it was read from (object, its age, row, cell), the length, the elements. 'ref', 'adr': a slice of, an address in an object of the call's own. -/
inductive V where
  | int (k : IntKind) (n : Int)
  | bool (b : Bool)
  | str (s : ByteArray)
  | nilp
  | nilf
  | nili
  | fn (f : FuncId) (caps : List V)
  | agg (cs : List V)
  | tup (vs : List V)
  | sl (sz : Nat) (fl : Bool) (cap : Option Nat) (src : Option (Nat × Nat × Nat × Nat)) (n : Nat) (get : Nat → List V)
  | pv (src : Option (Nat × Nat)) (row : List V) (j : Nat)
  | ref (id : Nat) (sub : Option (Nat × Nat))
  | adr (id i j : Nat)
  | hole
  | dead
  | ub

instance : Inhabited V := ⟨.dead⟩

/-- How an object is owned: not (it may be shared: read alone), its own row alone, with all that lies in it. -/
inductive Own where
  | fz | sh | dp

def Own.le : Own → Own → Own
  | .dp, x => x
  | .sh, .fz => .fz
  | .sh, _ => .sh
  | .fz, _ => .fz
def Own.isDp : Own → Bool
  | .dp => true
  | _ => false
def Own.isFz : Own → Bool
  | .fz => true
  | _ => false

structure VO where
  box : Bool
  st : Own
  sz : Nat
  fl : Bool
  n : Nat
  get : Nat → List V
  ver : Nat

def look {α : Type} : List (Nat × α) → Nat → Option α
  | [], _ => none
  | (a, x) :: r, k => bif Nat.beq a k then some x else look r k

/-- Kinds as numbers. -/
def kn : IntKind → Nat
  | .i8 => 0 | .i16 => 1 | .i32 => 2 | .i64 => 3 | .u8 => 4 | .u16 => 5 | .u32 => 6 | .u64 => 7

structure St where
  tmps : List (Nat × V)
  objs : List (Nat × Option VO)

def St.tmp (σ : St) (t : Nat) : V := match look σ.tmps t with | some v => v | none => .dead
def St.obj (σ : St) (id : Nat) : Option VO := match look σ.objs id with | some o => o | none => none
def St.put (σ : St) (d : Option Nat) (v : V) : St :=
  match d with
  | some t => ⟨(t, v) :: σ.tmps, σ.objs⟩
  | none => σ
def St.putO (σ : St) (id : Nat) (o : Option VO) : St := ⟨σ.tmps, (id, o) :: σ.objs⟩
/-- A number that no handle can bear. -/
def St.free (σ : St) (id : Nat) : Bool := match look σ.objs id with | some _ => false | none => true
def St.putL (σ : St) (l : List (Nat × Option VO)) : St := ⟨σ.tmps, l ++ σ.objs⟩

/-- What is known of a type. -/
structure TI where
  size : Nat := 0
  agg : Bool := false
  esz : Nat := 0
  efl : Bool := false
  ebytes : Nat := 0
  ezero : List V := []
  zero : List V := []
  kind : Option IntKind := none
  isStr : Bool := false
  isB : Bool := false
  eqf : Option (List Nat) := none
  offs : List (Nat × Nat × Bool) := []
  arr : Option (Nat × Nat) := none
  ok : Bool := false

/-- The row of a slice's type. -/
def TI.slok (ti : TI) : Bool := ti.ok && Nat.blt 0 ti.esz && Nat.blt 0 ti.ebytes && Nat.ble ti.ebytes 1048576

/-- A written place of a call: a parameter (a slice), or a cell of a struct that is one. -/
abbrev Slot := Nat × Option Nat

/-- What a call gives back: its results, and what has become of what it may write. -/
structure Ret where
  res : List (V × Own)
  outs : List V

structure Env where
  P : Program
  T : Nat → TI
  M : FuncId → List (Nat × Option Nat)
  L : FuncId → Nat → Option (List Nat)
  G : Nat → Option (List V)

inductive Ex where
  | normal
  | exit (id : Nat)
  | ret

def ofConst (ti : TI) : Value → V
  | .bool b => .bool b
  | .int k n => .int k n
  | .string s => .str s
  | .pointer none => .nilp
  | .nilFunc => .nilf
  | .nilIface => .nili
  | .slice none 0 0 => .sl ti.esz ti.efl (some 0) none 0 (fun _ => ti.ezero)
  | _ => .dead

def Env.ev (E : Env) (σ : St) (ty : Nat) : Operand → V
  | .tmp t => σ.tmp t
  | .const v => ofConst (E.T ty) v
  | .global g => match E.G g with | some row => .pv none row 0 | none => .dead
  | .func f => .fn f []

/-- A part of a view is no longer the whole cell. -/
def unex : Option (Nat × Nat × Nat × Nat) → Option (Nat × Nat × Nat × Nat)
  | some (A, ver, i, _) => some (A, ver, i, 256)
  | none => none

def cellAt (row : List V) (j : Nat) : V := match row[j]? with | some c => c | none => .dead

structure Rows where
  n : Nat
  get : Nat → List V

/-- 'if c then A else B', cell by cell where the cells are alike: so that the row's form is known before c is. -/
def mrgV (m : Bool → List V → List V → List V) (c : Bool) (a b : V) : V :=
  match a, b with
  | .int k x, .int k' y => bif Nat.beq (kn k) (kn k') then .int k (bif c then x else y) else bif c then a else b
  | .bool x, .bool y => .bool (bif c then x else y)
  | .str x, .str y => .str (bif c then x else y)
  | .sl sz fl none none n g, .sl sz' fl' none none n' g' => bif Nat.beq sz sz' && (fl == fl') then .sl sz fl none none (bif c then n else n') (fun i => m c (g i) (g' i)) else bif c then a else b
  | a, b => bif c then a else b
def mrgL (m : Bool → List V → List V → List V) (c : Bool) : List V → List V → List V
  | a :: as, b :: bs => mrgV m c a b :: mrgL m c as bs
  | _, _ => []
def mrg : Nat → Bool → List V → List V → List V
  | 0, c, A, B => bif c then A else B
  | d + 1, c, A, B => bif Nat.beq A.length B.length then mrgL (mrg d) c A B else bif c then A else B
def mrgE (c : Bool) (A B : List V) : List V := mrg 8 c A B

def Rows.set (r : Rows) (i : Nat) (row : List V) : Rows := ⟨r.n, fun k => mrgE (Nat.beq k i) row (r.get k)⟩
def Rows.app (r s : Rows) : Rows := ⟨r.n + s.n, fun k => mrgE (Nat.blt k r.n) (r.get k) (s.get (k - r.n))⟩
def Rows.sub (r : Rows) (o l : Nat) (z : List V) : Rows := ⟨l, fun k => mrgE (Nat.blt k l) (r.get (o + k)) z⟩
def VO.rows (o : VO) : Rows := ⟨o.n, o.get⟩

def V.cells : V → List V
  | .agg cs => cs
  | v => [v]

def V.leaf : V → Bool
  | .int .. | .bool _ | .str _ | .nilp | .nilf | .nili => true
  | _ => false

/-- What may be read out of what was itself read from an object. -/
def V.viewOk : V → Bool
  | .sl _ _ _ _ _ _ | .pv _ _ _ | .dead => true
  | c => c.leaf

/-- A value of one cell. -/
def V.one : V → Bool
  | .dead | .agg _ | .tup _ | .ub => false
  | _ => true

def mkVal (agg : Bool) (cs : List V) : V := bif agg then .agg cs else (match cs with | [c] => c | _ => .dead)

def subRows (sub : Option (Nat × Nat)) (rows : Rows) (z : List V) : Rows :=
  match sub with
  | none => rows
  | some (o, l) => rows.sub o l z

def offOf : Option (Nat × Nat) → Nat
  | none => 0
  | some (o, _) => o

/-- Is what was read from an object still there as it was? -/
def alive (σ : St) : Option (Nat × Nat) → Bool
  | none => true
  | some (id, ver) => match σ.obj id with
    | some o => Nat.beq o.ver ver
    | none => false
def src2 : Option (Nat × Nat × Nat × Nat) → Option (Nat × Nat)
  | none => none
  | some (id, ver, _) => some (id, ver)

/-- The cells of a read, marked with where they were read. -/
def tagCells (src : Nat → Option (Nat × Nat × Nat × Nat)) : Nat → List V → List V
  | _, [] => []
  | j, c :: cs => (match c with
      | .sl sz fl _ _ n g => .sl sz fl none (src j) n g
      | .pv _ row q => .pv (src2 (src j)) row q
      | c => c) :: tagCells src (j + 1) cs

section
variable {R : Type}

def asInt (v : V) (k : Int → Option R) : Option R := match v with | .int _ n => k n | _ => none

def binC (op : BinOp) (x y : V) (k : V → Option R) : Option R :=
  match x, y with
  | .int kk a, .int kb b =>
    match op with
    | .shl => if b < 0 then none else k (.int kk (kk.wrap (a * 2 ^ (min b.toNat kk.bits))))
    | .shr => if b < 0 then none else k (.int kk (a.fdiv (2 ^ (min b.toNat kk.bits))))
    | op =>
    bif !Nat.beq (kn kk) (kn kb) then none else
    match op with
    | .add => k (.int kk (kk.wrap (a + b)))
    | .sub => k (.int kk (kk.wrap (a - b)))
    | .mul => k (.int kk (kk.wrap (a * b)))
    | .quo => if b = 0 then none else k (.int kk (kk.wrap (a.tdiv b)))
    | .rem => if b = 0 then none else k (.int kk (a.tmod b))
    | .and => k (.int kk (kk.wrap ((BitVec.ofInt kk.bits a &&& BitVec.ofInt kk.bits b).toNat : Int)))
    | .or => k (.int kk (kk.wrap ((BitVec.ofInt kk.bits a ||| BitVec.ofInt kk.bits b).toNat : Int)))
    | .eql => k (.bool (a == b))
    | .neq => k (.bool (a != b))
    | .lss => k (.bool (decide (a < b)))
    | .leq => k (.bool (decide (a ≤ b)))
    | .gtr => k (.bool (decide (a > b)))
    | .geq => k (.bool (decide (a ≥ b)))
    | _ => none
  | _, _ => none

def boolC (op : BinOp) (a b : Bool) (k : V → Option R) : Option R :=
  match op with
  | .eql => k (.bool (a == b))
  | .neq => k (.bool (!(a == b)))
  | _ => none

def maxRow : Nat := 2 ^ 40

def strC (op : BinOp) (x y : ByteArray) (k : V → Option R) : Option R :=
  match op with
  | .add => if x.size + y.size ≤ maxRow then k (.str (x ++ y)) else none
  | .eql => k (.bool (x.toList == y.toList))
  | .neq => k (.bool !(x.toList == y.toList))
  | .lss => k (.bool (Op.bytesLess x.toList y.toList))
  | _ => none

def eqlCells : List V → List V → Option Bool
  | [], [] => some true
  | a :: as, b :: bs => match eqlCells as bs with
    | some r => match a, b with
      | .int _ x, .int _ y => some ((x == y) && r)
      | .bool x, .bool y => some ((x == y) && r)
      | .str x, .str y => some ((x == y) && r)
      | _, _ => none
    | none => none
  | _, _ => none

/-- A cell's kind, as a number. -/
def kcode : V → Nat
  | .int k _ => kn k
  | .bool _ => 8
  | .str _ => 9
  | _ => 10
def kindsOk : List Nat → List V → Bool
  | [], [] => true
  | k :: ks, c :: cs => Nat.beq k (kcode c) && Nat.blt k 10 && kindsOk ks cs
  | _, _ => false

def binX (ti : TI) (op : BinOp) (x y : V) (k : V → Option R) : Option R :=
  match x, y with
  | .str a, .str b => strC op a b k
  | .bool a, .bool b => bif !(ti.ok && ti.isB) then none else boolC op a b k
  | .agg a, .agg b => match ti.eqf with
    | none => none
    | some ks => bif !(ti.ok && kindsOk ks a && kindsOk ks b && Nat.beq ks.length ti.size) then none else match eqlCells a b with
      | some r => (match op with | .eql => k (.bool r) | .neq => k (.bool !r) | _ => none)
      | none => none
  | a, b => binC op a b k

def unC (op : UnOp) (x : V) (k : V → Option R) : Option R :=
  match op, x with
  | .not, .bool b => k (.bool !b)
  | .neg, .int kk n => k (.int kk (kk.wrap (0 - n)))
  | _, _ => none

def pvSrc : Option (Nat × Nat) → Option (Nat × Nat × Nat × Nat)
  | none => none
  | some (id, ver) => some (id, ver, 0, 256)
def objSrc (o : VO) (id i j : Nat) : Option (Nat × Nat × Nat × Nat) := match o.st with | .dp => some (id, o.ver, i, j) | _ => none

def loadC (E : Env) (σ : St) (t : Nat) (a : V) (k : V → Option R) : Option R :=
  match a with
  | .pv src row j => bif (E.T t).ok && Nat.ble (j + (E.T t).size) row.length && alive σ src && (src.isNone || ((row.drop j).take (E.T t).size).all V.viewOk) then
      k (mkVal (E.T t).agg (tagCells (fun _ => pvSrc src) j ((row.drop j).take (E.T t).size))) else none
  | .adr id i j =>
    match σ.obj id with
    | some o => if i < o.n then
        bif (E.T t).ok && Nat.ble (j + (E.T t).size) (o.get i).length then
          k (mkVal (E.T t).agg (bif o.box then ((o.get i).drop j).take (E.T t).size
            else tagCells (objSrc o id i) j (((o.get i).drop j).take (E.T t).size)))
        else none
      else none
    | none => none
  | _ => none

/-- What was read from an object and is to stay: the object's parts are shared from now on. -/
def downTo (σ : St) : Option (Nat × Nat) → (St → Option R) → Option R
  | none, k => k σ
  | some (id, ver), k => match σ.obj id with
    | some o => bif Nat.beq o.ver ver then k (σ.putO id (some ⟨o.box, o.st.le .sh, o.sz, o.fl, o.n, o.get, o.ver⟩)) else none
    | none => none

/-- A slice that is known to have no room. -/
def nil0 (cap : Option Nat) (src : Option (Nat × Nat × Nat × Nat)) (n : Nat) : Bool :=
  match cap, src with
  | some c, none => Nat.beq c 0 && Nat.beq n 0
  | _, _ => false

/-- Lets the cells of a value lie in a row of an object: handles are taken in. -/
def absorb : St → List V → Own → (St → List V → Own → Option R) → Option R
  | σ, [], w, k => k σ [] w
  | σ, c :: cs, w, k =>
    match c with
    | .ref id sub =>
      match sub, σ.obj id with
      | none, some o =>
        bif o.box then none else
        match o.st with
        | .fz => absorb σ cs (w.le .sh) fun σ' cs' w' => k σ' (.sl o.sz o.fl none none o.n o.get :: cs') w'
        | st => absorb (σ.putO id none) cs (w.le st) fun σ' cs' w' => k σ' (.sl o.sz o.fl none none o.n o.get :: cs') w'
      | _, _ => none
    | .sl sz fl cap src n g => bif nil0 cap src n then absorb σ cs w fun σ' cs' w' => k σ' (.sl sz fl none none n g :: cs') w' else
      downTo σ (src2 src) fun σ => absorb σ cs (w.le .sh) fun σ' cs' w' => k σ' (.sl sz fl none none n g :: cs') w'
    | c => bif c.leaf then absorb σ cs w fun σ' cs' w' => k σ' (c :: cs') w' else none

def storeC (E : Env) (σ : St) (t : Nat) (a v : V) (k : St → Option R) : Option R :=
  match a with
  | .adr id i j =>
    match σ.obj id with
    | some o => bif o.box then
        match i with
        | 0 =>
          bif (E.T t).ok && v.cells.all V.one && Nat.beq v.cells.length (E.T t).size && Nat.ble (j + (E.T t).size) (o.get 0).length && !o.st.isFz then
            k (σ.putO id (some ⟨true, o.st, o.sz, false, o.n, fun _ => (o.get 0).take j ++ v.cells ++ (o.get 0).drop (j + (E.T t).size), o.ver⟩))
          else none
        | _ => none
      else bif Nat.beq j 0 && Nat.beq (E.T t).size o.sz && o.fl && (E.T t).ok && !o.st.isFz && Nat.beq v.cells.length o.sz && v.cells.all V.leaf then
        (if i < o.n then k (σ.putO id (some ⟨false, o.st, o.sz, o.fl, o.n, (o.rows.set i v.cells).get, o.ver⟩)) else none)
      else
        bif !v.cells.all V.one then none else
        absorb σ v.cells .dp fun σ cs w =>
        match σ.obj id with
        | some o =>
          bif (E.T t).ok && !o.box && !o.st.isFz && Nat.beq cs.length (E.T t).size && (!o.fl || cs.all V.leaf) then
            if i < o.n then
              bif Nat.ble (j + (E.T t).size) (o.get i).length then
                k (σ.putO id (some ⟨false, o.st.le w, o.sz, o.fl, o.n, (o.rows.set i ((o.get i).take j ++ cs ++ (o.get i).drop (j + (E.T t).size))).get,
                  bif cs.all V.leaf && (((o.get i).drop j).take (E.T t).size).all V.leaf then o.ver else o.ver + 1⟩))
              else none
            else none
          else none
        | none => none
    | none => none
  | _ => none

def fieldC (E : Env) (s : Nat) (x : V) (f : Nat) (k : V → Option R) : Option R :=
  bif !(E.T s).ok then none else
  match (E.T s).offs[f]? with
  | some (off, _, _) => match x with
    | .pv src row j => k (.pv src row (j + off))
    | .adr id i j => k (.adr id i (j + off))
    | _ => none
  | none => none

/-- A slice's length. -/
def lenC (σ : St) (x : V) (k : Nat → Option R) : Option R :=
  match x with
  | .sl _ _ _ _ n _ => k n
  | .ref id sub => match σ.obj id with
    | some o => k (subRows sub o.rows []).n
    | none => none
  | _ => none

def allInt (k : IntKind) : List V → Option (List Int)
  | [] => some []
  | .int k' n :: l => bif Nat.beq (kn k) (kn k') then (match allInt k l with | some r => some (n :: r) | none => none) else none
  | _ => none
def allBool : List V → Option (List Bool)
  | [] => some []
  | .bool b :: l => (match allBool l with | some r => some (b :: r) | none => none)
  | _ => none
def allStr : List V → Option (List ByteArray)
  | [] => some []
  | .str b :: l => (match allStr l with | some r => some (b :: r) | none => none)
  | _ => none
def allSl (sz : Nat) (fl : Bool) : List V → Option (List (Nat × (Nat → List V)))
  | [] => some []
  | .sl sz' fl' none none n g :: l => bif Nat.beq sz sz' && (fl == fl') then (match allSl sz fl l with | some r => some ((n, g) :: r) | none => none) else none
  | _ => none
/-- The cell of a column at a place that is not known: told by what is known of the column. -/
def selCD (sel : List (List V) → Nat → List V) (col : List V) (i : Nat) : V :=
  match col with
  | .int k _ :: _ => match allInt k col with | some l => .int k (l.getD i 0) | none => cellAt col i
  | .bool _ :: _ => match allBool col with | some l => .bool (l.getD i false) | none => cellAt col i
  | .str _ :: _ => match allStr col with | some l => .str (l.getD i ByteArray.empty) | none => cellAt col i
  | .sl sz fl _ _ _ _ :: _ => match allSl sz fl col with | some l => .sl sz fl none none ((l.map (·.1)).getD i 0) (fun q => sel (l.map fun p => p.2 q) i) | none => cellAt col i
  | _ => cellAt col i
def selColsD (sel : List (List V) → Nat → List V) (ps : List (List V)) (i : Nat) : Nat → List V → List V
  | _, [] => []
  | q, _ :: r => selCD sel (ps.map fun c => cellAt c q) i :: selColsD sel ps i (q + 1) r
def selRowD : Nat → List (List V) → List V → Nat → List V
  | 0, ps, z, i => match ps[i]? with | some c => c | none => z
  | d + 1, ps, z, i => match ps with
    | [] => z
    | p :: _ => bif ps.all (fun c => Nat.beq c.length p.length) then selColsD (fun qs j => selRowD d qs [] j) ps i 0 p else (match ps[i]? with | some c => c | none => z)
def selRow (ps : List (List V)) (z : List V) (i : Nat) : List V := selRowD 6 ps z i
def chunks (sz : Nat) : Nat → List V → List (List V)
  | 0, _ => []
  | n + 1, l => l.take sz :: chunks sz n (l.drop sz)

def indexC (E : Env) (σ : St) (t : Nat) (x i : V) (k : V → Option R) : Option R :=
  asInt i fun a =>
  if 0 ≤ a then
    match x with
    | .sl sz _ _ src n g => bif (E.T t).slok && Nat.beq sz (E.T t).esz && alive σ (src2 src) then if a < (n : Int) then k (.pv (src2 src) (g a.toNat) 0) else none else none
    | .ref id sub => match σ.obj id with
      | some o => bif (E.T t).slok && !o.box && Nat.beq o.sz (E.T t).esz then
          if a < ((subRows sub o.rows []).n : Int) then k (.adr id (offOf sub + a.toNat) 0) else none
        else none
      | none => none
    | .pv none row j => match (E.T t).arr with
      | some (n, sz) => bif (E.T t).ok && Nat.ble (j + n * sz) row.length then
          (if a < (n : Int) then k (.pv none (selRow (chunks sz n (row.drop j)) [] a.toNat) 0) else none) else none
      | none => none
    | _ => none
  else none

/-- A part handed to a call, by value. -/
def resC (σ : St) : List V → (List V → Option R) → Option R
  | [], k => k []
  | c :: cs, k =>
    match c with
    | .ref id sub => match σ.obj id, sub with
        | some o, none => bif o.box then none else resC σ cs fun cs' => k (.sl o.sz o.fl none none o.n o.get :: cs')
        | _, _ => none
    | .sl z f _ src n g => bif alive σ (src2 src) then resC σ cs fun cs' => k (.sl z f none none n g :: cs') else none
    | .pv src row j => bif alive σ src then resC σ cs fun cs' => k (.pv none row j :: cs') else none
    | .adr id i j => match σ.obj id with
        | some o => bif o.box && (o.get 0).all V.leaf then match i with
            | 0 => resC σ cs fun cs' => k (.pv none (o.get 0) j :: cs')
            | _ => none
          else none
        | none => none
    | .hole => resC σ cs fun cs' => k (.hole :: cs')
    | c => bif c.leaf then resC σ cs fun cs' => k (c :: cs') else none

/-- A cell without its marks. -/
def strip1 : V → V
  | .sl z f _ _ n g => .sl z f none none n g
  | .pv _ row j => .pv none row j
  | c => c

def argC (E : Env) (t : Nat) (σ : St) (v : V) (k : V → Option R) : Option R :=
  match v with
  | .agg cs => resC σ cs fun cs' => k (.agg cs')
  | .fn f cs => resC σ cs fun cs' => k (.fn f cs')
  | .ref id sub => match σ.obj id with
      | some o => bif o.box then none else k (.sl o.sz o.fl none none (subRows sub o.rows (E.T t).ezero).n (subRows sub o.rows (E.T t).ezero).get)
      | none => none
  | .adr id i j => match σ.obj id with
      | some o => if i < o.n then (bif o.box then (match i with | 0 => resC σ (o.get 0) fun row' => k (.pv none row' j) | _ => none) else k (.pv none ((o.get i).map strip1) j)) else none
      | none => none
  | v => bif v.one then resC σ [v] fun vs => k (cellAt vs 0) else none

def argsC (E : Env) (σ : St) : List Nat → List V → (List V → Option R) → Option R
  | _, [], k => k []
  | [], v :: vs, k => argC E 0 σ v fun v' => argsC E σ [] vs fun vs' => k (v' :: vs')
  | t :: ts, v :: vs, k => argC E t σ v fun v' => argsC E σ ts vs fun vs' => k (v' :: vs')

/-- What came back is laid as objects. -/
def promCells (own : Own) (b : Nat) : Nat → List V → List V × List (Nat × Option VO)
  | _, [] => ([], [])
  | j, c :: cs =>
    let r := promCells own b (j + 1) cs
    match c with
    | .sl sz fl _ _ n g => (.ref (b + j) none :: r.1, (b + j, some ⟨false, own, sz, fl, n, g, 0⟩) :: r.2)
    | c => (c :: r.1, r.2)

def promV (b : Nat) (v : V) (w : Own) : V × List (Nat × Option VO) :=
  match w with
  | .fz => (v, [])
  | .sh => match v with
    | .sl sz fl _ _ n g => (.ref b none, [(b, some ⟨false, .sh, sz, fl, n, g, 0⟩)])
    | .agg cs => let r := promCells .sh (b + 1) 0 cs; (.agg r.1, r.2)
    | .pv _ row j => bif Nat.blt 0 row.length then (.adr b 0 j, [(b, some ⟨true, .dp, row.length, false, 1, fun _ => row, 0⟩)]) else (.dead, [])
    | v => (v, [])
  | .dp => match v with
    | .sl sz fl _ _ n g => (.ref b none, [(b, some ⟨false, .dp, sz, fl, n, g, 0⟩)])
    | .agg cs => let r := promCells .dp (b + 1) 0 cs; (.agg r.1, r.2)
    | .pv _ row j => bif Nat.blt 0 row.length then let r := promCells .dp (b + 1) 0 row; (.adr b 0 j, (b, some ⟨true, .dp, row.length, false, 1, fun _ => r.1, 0⟩) :: r.2) else (.dead, [])
    | v => (v, [])

def promL (b : Nat) : List (V × Own) → List V × List (Nat × Option VO)
  | [] => ([], [])
  | (v, w) :: r => let p := promV b v w; let q := promL (b + 64) r; (p.1 :: q.1, p.2 ++ q.2)

/-- The objects that a value's handles name. -/
def V.ids1 : V → List Nat
  | .ref id _ => [id]
  | .adr id _ _ => [id]
  | .sl _ _ _ (some (id, _)) _ _ => [id]
  | .pv (some (id, _)) _ _ => [id]
  | _ => []
def V.ids : V → List Nat
  | .agg cs => cs.flatMap V.ids1
  | .fn _ cs => cs.flatMap V.ids1
  | v => v.ids1
/-- .. and those that lie in a variable of the call's own. -/
def idsIn (σ : St) (v : V) : List Nat :=
  v.ids ++ v.ids.flatMap fun id => match σ.obj id with
    | some o => bif o.box then (o.get 0).flatMap V.ids1 else []
    | none => []

/-- They may be shared from now on. -/
def freezeL (σ : St) : List Nat → St
  | [] => σ
  | id :: r => match σ.obj id with
    | some o => freezeL (σ.putO id (some ⟨o.box, .fz, o.sz, o.fl, o.n, o.get, o.ver⟩)) r
    | none => freezeL σ r

def tupOf : List V → V
  | [v] => v
  | vs => .tup vs

def distinct : List Nat → Bool
  | [] => true
  | a :: r => r.all (fun b => !Nat.beq a b) && distinct r

def slotV (args : List V) : Slot → V
  | (p, none) => cellAt args p
  | (p, some j) => match cellAt args p with | .agg cs => cellAt cs j | _ => .dead
def setAt (v : V) : Nat → List V → List V
  | _, [] => []
  | 0, _ :: cs => v :: cs
  | j + 1, c :: cs => c :: setAt v j cs
def slotEq : Slot → Slot → Bool
  | (p, none), (q, none) => Nat.beq p q
  | (p, some i), (q, some j) => Nat.beq p q && Nat.beq i j
  | _, _ => false
def lkS : List Slot → List V → Slot → Option V
  | s :: ms, v :: vs, q => bif slotEq s q then some v else lkS ms vs q
  | _, _, _ => none
def fillC (f : Nat → Option V) : Nat → List V → List V
  | _, [] => []
  | j, c :: cs => (match f j with | some v => v | none => c) :: fillC f (j + 1) cs
def fillA (f : Slot → Option V) : Nat → List V → List V
  | _, [] => []
  | i, a :: as => (match f (i, none) with
    | some v => v
    | none => match a with
      | .agg cs => .agg (fillC (fun j => f (i, some j)) 0 cs)
      | a => a) :: fillA f (i + 1) as
def fillSlots (args : List V) (ms : List Slot) (vs : List V) : List V := fillA (lkS ms vs) 0 args
def blanks (args : List V) (ms : List Slot) : List V := fillSlots args ms (ms.map fun _ => .hole)
def holeAt (o : VO) (i j : Nat) (v : V) (ver : Nat) : VO := ⟨false, .dp, o.sz, false, o.n, (o.rows.set i (setAt v j (o.get i))).get, ver⟩
def memL (l : List Nat) (x : Nat) : Bool := l.any (Nat.beq x)

/-- A written place is made an object of its own: a slice that lies in another object's row leaves a hole there. σ0: the state before the first such place. -/
def pullV (σ0 σ : St) (n : Nat) (used : List (Nat × Nat)) (v : V) (k : St → Nat → List (Nat × Nat × Nat × Nat) → Option R) : Option R :=
  match v with
  | .ref id none => k σ id []
  | .sl sz fl (some c) none m g => bif Nat.beq c 0 && Nat.beq m 0 && σ.free n then k (σ.putO n (some ⟨false, .dp, sz, fl, m, g, 0⟩)) n [] else none
  | .sl _ _ _ (some (A, ver, i, j)) _ _ => match σ0.obj A, σ.obj A with
    | some o, some o' => bif Nat.beq o.ver ver && Nat.blt j 256 && o.st.isDp && o'.st.isDp && σ.free n && !used.any (fun q => Nat.beq q.1 A && Nat.beq q.2 j) then
        match cellAt (o.get i) j with
        | .sl sz fl _ _ m g => k ((σ.putO A (some (holeAt o' i j .hole (o'.ver + 1)))).putO n (some ⟨false, .dp, sz, fl, m, g, 0⟩)) n [(n, A, i, j)]
        | _ => none
      else none
    | _, _ => none
  | _ => none

def logUsed (lg : List (Nat × Nat × Nat × Nat)) : List (Nat × Nat) := lg.map fun q => (q.2.1, q.2.2.2)

def pullG (σ0 σ : St) (n : Nat) (used : List (Nat × Nat)) (args : List V) : List Slot → (St → List Nat → List (Nat × Nat × Nat × Nat) → Option R) → Option R
  | [], k => k σ [] []
  | s :: ms, k => pullV σ0 σ n used (slotV args s) fun σ1 id lg => pullG σ0 σ1 (n + 1) (logUsed lg ++ used) args ms fun σ2 ids lg' => k σ2 (id :: ids) (lg ++ lg')

def pullL (σ : St) (n : Nat) (args : List V) (ms : List Slot) (k : St → List Nat → List (Nat × Nat × Nat × Nat) → Option R) : Option R := pullG σ σ n [] args ms k

/-- .. and goes back there. -/
def pushL (σ : St) : List (Nat × Nat × Nat × Nat) → (St → Option R) → Option R
  | [], k => k σ
  | (n, A, i, j) :: l, k => match σ.obj n, σ.obj A with
    | some p, some o => bif !p.box && p.st.isDp && !o.box && o.st.isDp && !Nat.beq n A then
        pushL ((σ.putO n none).putO A (some (holeAt o i j (.sl p.sz p.fl none none p.n p.get) (o.ver + 1)))) l k
      else none
    | _, _ => none

def treesL (σ : St) : List Nat → (List V → Option R) → Option R
  | [], k => k []
  | id :: ids, k => match σ.obj id with
    | some o => bif !o.box && o.st.isDp then treesL σ ids fun l => k (.sl o.sz o.fl none none o.n o.get :: l) else none
    | none => none

/-- What a call has made of what it may write. -/
def backL (σ : St) : List Nat → List V → (St → Option R) → Option R
  | [], [], k => k σ
  | id :: ids, .sl sz fl _ _ n g :: vs, k => match σ.obj id with
    | some o => bif Nat.beq sz o.sz then backL (σ.putO id (some ⟨false, .dp, o.sz, fl, n, g, o.ver + 1⟩)) ids vs k else none
    | none => none
  | _, _, _ => none

/-- A call that writes what it is handed. -/
def callW (E : Env) (callF : FuncId → List V → Option Ret) (σ : St) (d : Nat) (dst : Option Nat) (f : FuncId) (ts : List Nat) (args : List V) (k : St → Option R) : Option R :=
  pullL σ (d * 256 + 128) args (E.M f) fun σ1 ids lg =>
  bif distinct ids && (((blanks args (E.M f)).flatMap (idsIn σ1)).all fun a => !memL ids a) && (lg.all fun q => !memL ids q.2.1) then
    argsC E σ1 ts (blanks args (E.M f)) fun args' =>
    treesL σ1 ids fun trees =>
    match callF f (fillSlots args' (E.M f) trees) with
    | some ret =>
      bif ret.res.all (·.2.isDp) then
        backL σ1 ids ret.outs fun σ2 =>
        pushL σ2 lg fun σ3 =>
        let p := promL (d * 256) ret.res
        bif p.2.all (fun q => σ3.free q.1) && distinct (p.2.map (·.1)) then k ((σ3.putL p.2).put dst (tupOf p.1)) else none
      else none
    | none => none
  else none

def callC (E : Env) (callF : FuncId → List V → Option Ret) (σ : St) (d : Nat) (dst : Option Nat) (f : FuncId) (ts : List Nat) (args : List V) (k : St → Option R) : Option R :=
  bif !(E.M f).isEmpty then callW E callF σ d dst f ts args k else
  argsC E σ ts args fun args' =>
  match callF f args' with
  | some ret =>
    let p := promL (d * 256) ret.res
    let σ := bif ret.res.all (·.2.isDp) then σ else freezeL σ (args.flatMap (idsIn σ))
    bif p.2.all (fun q => σ.free q.1) && distinct (p.2.map (·.1)) && ret.outs.isEmpty then k ((σ.putL p.2).put dst (tupOf p.1)) else none
  | none => none

/-- What a call gives back of a value. -/
def retV (E : Env) (t : Nat) (σ : St) (v : V) (k : St → V → Own → Option R) : Option R :=
  match v with
  | .ref id sub => match σ.obj id with
      | some o => bif o.box then none else
        match o.st with
        | .fz => k σ (.sl o.sz o.fl none none (subRows sub o.rows (E.T t).ezero).n (subRows sub o.rows (E.T t).ezero).get) .fz
        | st => k (σ.putO id none) (.sl o.sz o.fl none none (subRows sub o.rows (E.T t).ezero).n (subRows sub o.rows (E.T t).ezero).get) st
      | none => none
  | .sl z f cap src n g => bif nil0 cap src n then k σ (.sl z f none none n g) .dp else downTo σ (src2 src) fun σ => k σ (.sl z f none none n g) .fz
  | .pv src row j => downTo σ src fun σ => k σ (.pv none row j) .fz
  | .agg cs => bif !cs.all V.one then none else absorb σ cs .dp fun σ cs' w => k σ (.agg cs') (match w with | .dp => .dp | _ => .fz)
  | .adr id i j => match σ.obj id with
      | some o => bif o.box && Nat.beq i 0 && (o.get 0).all V.one && !o.st.isFz then
          absorb (σ.putO id none) (o.get 0) .dp fun σ cs' w => k σ (.pv none cs' j) (match w with | .dp => .dp | _ => .sh)
        else none
      | none => none
  | v => bif v.leaf then k σ v .dp else none

def retL (E : Env) : List (Nat × ResultVar) → St → (St → List (V × Own) → Option R) → Option R
  | [], σ, k => k σ []
  | (t, .tmp x) :: r, σ, k => retV E t σ (σ.tmp x) fun σ v w => retL E r σ fun σ' l => k σ' ((v, w) :: l)
  | (t, .cell a t') :: r, σ, k => loadC E σ t' (σ.tmp a) fun v => retV E t σ v fun σ v w => retL E r σ fun σ' l => k σ' ((v, w) :: l)

def fillCells (offs : List (Nat × Nat × Bool)) : List V → List (Nat × V) → Option (List V)
  | cells, [] => some cells
  | cells, (i, v) :: r => match offs[i]? with
    | some (off, sz, _) => bif v.cells.all V.one && Nat.beq v.cells.length sz && Nat.ble (off + sz) cells.length then fillCells offs (cells.take off ++ v.cells ++ cells.drop (off + sz)) r else none
    | none => none

/-- Are the parts of a literal told one after the other? -/
def idxOk : Nat → List (Nat × Operand) → Bool
  | _, [] => true
  | k, (i, _) :: r => Nat.beq i k && idxOk (k + 1) r

def rowsOf (ps : List (List V)) (z : List V) : Rows := ⟨ps.length, fun i => selRow ps z i⟩

def absorbParts (sz : Nat) : St → List V → Own → (St → List (List V) → Own → Option R) → Option R
  | σ, [], w, k => k σ [] w
  | σ, v :: r, w, k => bif !(v.cells.all V.one && Nat.beq v.cells.length sz) then none else absorb σ v.cells w fun σ' cs w' => absorbParts sz σ' r w' fun σ'' cs' w'' => k σ'' (cs :: cs') w''

def strAt (s : ByteArray) (i : Nat) : Int := ((s.data.toList.getD i 0).toNat : Int)

/-- The second operand of an append: its rows, and how they are owned. -/
def appSrc (E : Env) (t t2 : Nat) (σ : St) (y : V) (k : St → Rows → Bool → Own → Option R) : Option R :=
  match y with
  | .str s => bif Nat.beq (E.T t).esz 1 && (E.T t2).ok && (E.T t2).isStr then k σ ⟨s.size, fun i => [.int .u8 (strAt s i)]⟩ true .dp else none
  | .sl sz fl _ src n g => bif Nat.beq sz (E.T t).esz && alive σ (src2 src) && (E.T t2).slok then
      (bif fl then k σ ⟨n, g⟩ true .dp else downTo σ (src2 src) fun σ => k σ ⟨n, g⟩ false .sh) else none
  | .ref id sub => match σ.obj id with
    | some o => bif !o.box && Nat.beq o.sz (E.T t).esz && (E.T t2).slok then
        (bif o.fl then k σ (subRows sub o.rows (E.T t).ezero) true .dp
        else match o.st with
          | .dp => k (σ.putO id none) (subRows sub o.rows (E.T t).ezero) false .dp
          | _ => k σ (subRows sub o.rows (E.T t).ezero) false .sh)
      else none
    | none => none
  | _ => none

/-- A slice by value is appended to where it is known to be empty and without room. -/
def nilLike (σ : St) : V → Bool
  | .sl _ _ cap src n _ => cap.isSome && Nat.beq (cap.getD 0) 0 && Nat.beq n 0 && alive σ (src2 src)
  | _ => true

def appendC (E : Env) (σ : St) (d : Nat) (t t2 : Nat) (x y : V) (k : St → Option R) : Option R :=
  bif !((E.T t).slok && nilLike σ x) then none else
  appSrc E t t2 σ y fun σ ys yfl w =>
  match x with
  | .sl sz fl cap src n g =>
    bif !σ.free (d * 256) then none else
    if ys.n * (E.T t).ebytes ≤ maxRow then
      k ((σ.putO (d * 256) (some ⟨false, w, (E.T t).esz, yfl, ys.n, ys.get, 0⟩)).put (some d) (.ref (d * 256) none))
    else none
  | .ref id sub => match σ.obj id with
    | some o =>
      bif !o.st.isFz && !o.box && Nat.beq o.sz (E.T t).esz && σ.free (d * 256) then
        if ((subRows sub o.rows []).n + ys.n) * (E.T t).ebytes ≤ maxRow then
          k (((σ.putO id none).putO (d * 256) (some ⟨false, o.st.le w, (E.T t).esz, o.fl && yfl, ((subRows sub o.rows (E.T t).ezero).app ys).n, ((subRows sub o.rows (E.T t).ezero).app ys).get, 0⟩)).put (some d) (.ref (d * 256) none))
        else none
      else none
    | none => none
  | _ => none

def evs (E : Env) (σ : St) : List Operand → List Nat → List V
  | [], _ => []
  | x :: xs, t :: ts => E.ev σ t x :: evs E σ xs ts
  | x :: xs, [] => E.ev σ 0 x :: evs E σ xs []

def boundOf (E : Env) (σ : St) : Option Operand → Int → (Int → Option R) → Option R
  | none, d, k => k d
  | some x, _, k => asInt (E.ev σ 3 x) k

def sliceC (E : Env) (σ : St) (t : Nat) (x : V) (lo hi mx : Option Operand) (k : V → Option R) : Option R :=
  match x with
  | .str s =>
    bif !((E.T t).ok && (E.T t).isStr && mx.isNone) then none else
    boundOf E σ lo 0 fun l => boundOf E σ hi s.size fun h =>
    if 0 ≤ l then if l ≤ h then if h ≤ s.size then k (.str (s.extract l.toNat h.toNat)) else none else none else none
  | .sl sz fl cap src n g =>
    bif !(E.T t).slok || !Nat.beq sz (E.T t).esz then none else
    boundOf E σ lo 0 fun l => boundOf E σ hi n fun h =>
    if 0 ≤ l then if l ≤ h then if h ≤ n then
      match mx with
      | none => k (.sl sz fl none (unex src) (Rows.sub ⟨n, g⟩ l.toNat (h - l).toNat (E.T t).ezero).n (Rows.sub ⟨n, g⟩ l.toNat (h - l).toNat (E.T t).ezero).get)
      | some m => bif hi.isNone then none else asInt (E.ev σ 3 m) fun m => if h ≤ m then if m ≤ n then k (.sl sz fl (some (m - l).toNat) (unex src) (Rows.sub ⟨n, g⟩ l.toNat (h - l).toNat (E.T t).ezero).n (Rows.sub ⟨n, g⟩ l.toNat (h - l).toNat (E.T t).ezero).get) else none else none
    else none else none else none
  | .ref id sub =>
    match σ.obj id with
    | some o =>
      boundOf E σ lo 0 fun l => boundOf E σ hi (subRows sub o.rows []).n fun h =>
      bif o.box || !(E.T t).slok || !Nat.beq o.sz (E.T t).esz then none else
      if 0 ≤ l then if l ≤ h then if h ≤ (subRows sub o.rows []).n then
        match mx with
        | none => k (.ref id (some (offOf sub + l.toNat, (h - l).toNat)))
        | some m => none
      else none else none else none
    | none => none
  | _ => none

def pickC (c a b : V) (k : V → Option R) : Option R :=
  match c with
  | .bool t => match a, b with
    | .bool x, .bool y => k (.bool (bif t then x else y))
    | a, b => bif t then k a else k b
  | _ => none

def extractC (v : V) (i : Nat) (k : V → Option R) : Option R :=
  match v with
  | .tup vs => bif Nat.blt i vs.length then k (cellAt vs i) else none
  | _ => none

def convC (ts ti : TI) (v : V) (k : V → Option R) : Option R :=
  bif !(ts.ok && ti.ok) then none else
  match ti.kind, v with
  | some kk, .int _ n => k (.int kk (kk.wrap n))
  | none, .str s => bif ti.isStr then k (.str s) else none
  | _, _ => none

def callX (E : Env) (callF : FuncId → List V → Option Ret) (σ : St) (dst : Option Nat) (c : Call) (k : St → Option R) : Option R :=
  match c.callee with
  | .builtin .len => match c.argTypes.toList, evs E σ c.args.toList c.argTypes.toList with
    | [t], [.str s] => bif (E.T t).ok && (E.T t).isStr then k (σ.put dst (.int .i64 s.size)) else none
    | [t], [x] => bif (E.T t).slok then lenC σ x fun n => k (σ.put dst (.int .i64 n)) else none
    | _, _ => none
  | .builtin .append => match dst, c.argTypes.toList, evs E σ c.args.toList c.argTypes.toList with
    | some d, [t, t2], [x, y] => appendC E σ d t t2 x y k
    | _, _, _ => none
  | .builtin .max => match evs E σ c.args.toList c.argTypes.toList with
    | [.int kk a, .int _ b] => k (σ.put dst (.int kk (if b > a then b else a)))
    | _ => none
  | .builtin .min => match evs E σ c.args.toList c.argTypes.toList with
    | [.int kk a, .int _ b] => k (σ.put dst (.int kk (if b < a then b else a)))
    | _ => none
  | .value g => match E.ev σ 0 g with
    | .fn f caps => callC E callF σ (match dst with | some d => d | none => 0) dst f c.argTypes.toList (evs E σ c.args.toList c.argTypes.toList ++ caps) k
    | _ => none
  | _ => none

def strIdx (ti : TI) (x i : V) (k : V → Option R) : Option R :=
  bif !(ti.ok && ti.isStr) then none else
  match x, i with
  | .str s, .int _ n => if 0 ≤ n then if n < (s.size : Int) then k (.int .u8 (strAt s n.toNat)) else none else none
  | _, _ => none

def fieldV (ti : TI) (f : Nat) (x : V) (k : V → Option R) : Option R :=
  bif !ti.ok then none else
  match ti.offs[f]?, x with
  | some (off, sz, a), .agg cs => bif Nat.ble (off + sz) cs.length then k (mkVal a ((cs.drop off).take sz)) else none
  | _, _ => none

def boxC (σ : St) (dst : Option Nat) (sz : Nat) (cs : List V) (k : St → Option R) : Option R :=
  match dst with
  | some d => bif cs.all V.one && Nat.beq cs.length sz && σ.free (d * 256) then k ((σ.putO (d * 256) (some ⟨true, .dp, sz, false, 1, fun _ => cs, 0⟩)).put dst (.adr (d * 256) 0 0)) else none
  | none => none

def newC (σ : St) (dst : Option Nat) (st : Own) (ti : TI) (fl : Bool) (r : Rows) (k : St → Option R) : Option R :=
  match dst with
  | some d => bif ti.slok && σ.free (d * 256) then k ((σ.putO (d * 256) (some ⟨false, st, ti.esz, fl, r.n, r.get, 0⟩)).put dst (.ref (d * 256) none)) else none
  | none => none

def nilC (x : V) (k : V → Option R) : Option R :=
  match x with
  | .pv src r j => k (.pv src r j)
  | .adr id i j => k (.adr id i j)
  | .fn f cs => k (.fn f cs)
  | _ => none

def isNilOp : Operand → Bool
  | .const (.slice none 0 0) => true
  | _ => false
/-- Is a slice nil? Not, if it has elements; else it is not known ('ub': one of the two Bools). -/
def nilEqC (ti : TI) (op : BinOp) (v : V) (k : V → Option R) : Option R :=
  bif !ti.slok then none else
  match v with
  | .sl _ _ _ none n _ => match op with
    | .eql => if 0 < n then k (.bool false) else k .ub
    | .neq => if 0 < n then k (.bool true) else k .ub
    | _ => none
  | _ => none

/-- One operation. -/
def opC (E : Env) (callF : FuncId → List V → Option Ret) (o : Oper) (σ : St) (k : St → Option R) : Option R :=
  match o.op with
  | .move x => k (σ.put o.dst (E.ev σ o.type x))
  | .assign x => k (σ.put o.dst (E.ev σ o.type x))
  | .pick c a b => pickC (E.ev σ 4 c) (E.ev σ o.type a) (E.ev σ o.type b) fun v => k (σ.put o.dst v)
  | .binOp op xt x y yt => bif isNilOp y then nilEqC (E.T xt) op (E.ev σ xt x) fun v => k (σ.put o.dst v) else binX (E.T xt) op (E.ev σ xt x) (E.ev σ yt y) fun v => k (σ.put o.dst v)
  | .unOp op xt x => unC op (E.ev σ xt x) fun v => k (σ.put o.dst v)
  | .convert s t x => convC (E.T s) (E.T t) (E.ev σ s x) fun v => k (σ.put o.dst v)
  | .extract t i => extractC (E.ev σ 0 t) i fun v => k (σ.put o.dst v)
  | .field t x f => fieldV (E.T t) f (E.ev σ t x) fun v => k (σ.put o.dst v)
  | .index t x i => strIdx (E.T t) (E.ev σ t x) (E.ev σ 3 i) fun v => k (σ.put o.dst v)
  | .build t parts =>
    bif !(E.T t).ok || (E.T t).offs.isEmpty then none else
    match fillCells (E.T t).offs (E.T t).zero (parts.toList.map fun p => (p.1, E.ev σ 0 p.2)) with
    | some cs => k (σ.put o.dst (.agg cs))
    | none => none
  | .alloc t => bif !(E.T t).ok then none else boxC σ o.dst (E.T t).size (E.T t).zero k
  | .box t x => bif !(E.T t).ok then none else boxC σ o.dst (E.T t).size (E.ev σ t x).cells k
  | .buildSlice t n parts =>
    bif !((E.T t).slok && idxOk 0 parts.toList && Nat.beq parts.toList.length n && Nat.ble (n * (E.T t).esz) 16777216) then none else
    absorbParts (E.T t).esz σ (parts.toList.map fun p => E.ev σ 0 p.2) .dp fun σ ps w =>
      newC σ o.dst w (E.T t) ((E.T t).efl && ps.all (·.all V.leaf)) (rowsOf ps (E.T t).ezero) k
  | .makeSlice t l c => asInt (E.ev σ 3 l) fun n => asInt (E.ev σ 3 c) fun m =>
      if 0 ≤ n then if n ≤ m then if m.toNat * (E.T t).ebytes ≤ maxRow then
        newC σ o.dst .dp (E.T t) ((E.T t).ezero.all V.leaf) ⟨n.toNat, fun _ => (E.T t).ezero⟩ k
      else none else none else none
  | .load t a => loadC E σ t (E.ev σ 0 a) fun v => k (σ.put o.dst v)
  | .store t a v => storeC E σ t (E.ev σ 0 a) (E.ev σ t v) fun σ' => k (σ'.put o.dst .dead)
  | .fieldAddr s x f => fieldC E s (E.ev σ 0 x) f fun v => k (σ.put o.dst v)
  | .indexAddr t x i => indexC E σ t (E.ev σ t x) (E.ev σ 3 i) fun v => k (σ.put o.dst v)
  | .slice t x lo hi mx => sliceC E σ t (E.ev σ t x) lo hi mx fun v => k (σ.put o.dst v)
  | .nilCheck x => nilC (E.ev σ 0 x) fun v => k (σ.put o.dst v)
  | .makeFunc (.func f) first caps => bif first.isEmpty then k (σ.put o.dst (.fn f (evs E σ caps.toList []))) else none
  | .call c => callX E callF σ o.dst c k
  | _ => none

def dstIn (nt : Nat) : Option Nat → Bool
  | some d => Nat.blt d nt
  | none => true

/-- The operations of a region, one after the other. -/
def opsC (E : Env) (callF : FuncId → List V → Option Ret) (nt : Nat) (all : Array Oper) : List Oper → St → (St → Option R) → Option R
  | [], σ, k => k σ
  | o :: os, σ, k =>
    bif !dstIn nt o.dst then none else
    match o.guard with
    | none => opC E callF o σ fun σ' => opsC E callF nt all os σ' k
    | some (j, want) =>
      match (all[j]?).bind (·.dst) with
      | some g => match σ.tmp g with
        | .bool b => bif b then
            (bif want then opC E callF o (σ.put (some g) (.bool true)) fun σ' => opsC E callF nt all os σ' k
             else opsC E callF nt all os ((σ.put (some g) (.bool true)).put o.dst (.tup [])) k)
          else
            (bif want then opsC E callF nt all os ((σ.put (some g) (.bool false)).put o.dst (.tup [])) k
             else opC E callF o (σ.put (some g) (.bool false)) fun σ' => opsC E callF nt all os σ' k)
        | .tup [] => opsC E callF nt all os (σ.put o.dst (.tup [])) k
        | _ => none
      | none => none

/-- The first region's number: a name for a piece of code. -/
def keyOf : Code → Nat
  | .region id _ _ => id
  | .seq a b => keyOf a
  | .cond _ a _ => keyOf a
  | .block _ c => keyOf c
  | .loop c => keyOf c
  | .scope c => keyOf c
  | _ => 0
end
end Go.Vk
end

section
namespace Go.Vk
open Go
set_option linter.unusedVariables false

theorem kn_injB {k k' : IntKind} (h : Nat.beq (kn k) (kn k') = true) : k = k' := by
  cases k <;> cases k' <;> first | rfl | cases h
theorem mrgV_eq {m : Bool → List V → List V → List V} (hm : ∀ c A B, m c A B = bif c then A else B) (c : Bool) (a b : V) : mrgV m c a b = bif c then a else b := by
  unfold mrgV
  split
  · cases h : Nat.beq _ _ with
    | false => rfl
    | true => have := kn_injB h; subst this; cases c <;> rfl
  · cases c <;> rfl
  · cases c <;> rfl
  · rename_i sz fl n g sz' fl' n' g'
    cases h : (Nat.beq sz sz' && (fl == fl')) with
    | false => rfl
    | true =>
      simp only [Bool.and_eq_true] at h
      have e1 := Nat.eq_of_beq_eq_true h.1
      have e2 : fl = fl' := by simpa using h.2
      subst e1 e2
      have : (fun i => m c (g i) (g' i)) = fun i => bif c then g i else g' i := funext fun i => hm _ _ _
      rw [this]
      cases c <;> rfl
  · rfl
theorem mrgL_eq {m : Bool → List V → List V → List V} (hm : ∀ c A B, m c A B = bif c then A else B) (c : Bool) : ∀ (A B : List V), A.length = B.length → mrgL m c A B = bif c then A else B
  | a :: as, b :: bs, h => by
    show mrgV m c a b :: mrgL m c as bs = _
    rw [mrgV_eq hm, mrgL_eq hm c as bs (by simpa using h)]
    cases c <;> rfl
  | [], [], _ => by cases c <;> rfl
  | [], _ :: _, h => by cases h
  | _ :: _, [], h => by cases h
theorem mrg_eq : ∀ (d : Nat) (c : Bool) (A B : List V), mrg d c A B = bif c then A else B
  | 0, c, A, B => rfl
  | d + 1, c, A, B => by
    unfold mrg
    cases h : Nat.beq A.length B.length with
    | false => rfl
    | true => exact mrgL_eq (mrg_eq d) c A B (Nat.eq_of_beq_eq_true h)
theorem mrgE_eq (c : Bool) (A B : List V) : mrgE c A B = bif c then A else B := mrg_eq 8 c A B

abbrev Set' := Nat → Prop
def none' : Set' := fun _ => False

/-- What a call may write of its callers', and what must stay true of some handles. -/
structure SS where
  s : Set'
  keep : List (V × Value)
instance : CoeFun SS (fun _ => Nat → Prop) := ⟨SS.s⟩
instance : Coe SS Set' := ⟨SS.s⟩
def noS : SS := ⟨none', []⟩

/-- No cell of a row is shared with a string. -/
def Plain (fr : Nat × Nat) (k : Nat) : Prop := ∀ i, i < k → ¬ (fr.1 ≤ i ∧ i < fr.2)

/-- A tree by value against a value in the world. 'm': what lies below is the tree's own (the blocks S), else it lies in blocks of F that nobody writes. -/
inductive Rep (w : World) (F : Set') : Bool → V → Value → Set' → Prop
  | int (m : Bool) (k : IntKind) (n : Int) (S : Set') : Rep w F m (.int k n) (.int k n) S
  | bool (m : Bool) (b : Bool) (S : Set') : Rep w F m (.bool b) (.bool b) S
  | str (m : Bool) (s : ByteArray) (S : Set') : Rep w F m (.str s) (.string s) S
  | nilp (m : Bool) (S : Set') : Rep w F m .nilp (.pointer none) S
  | nilf (m : Bool) (S : Set') : Rep w F m .nilf .nilFunc S
  | nili (m : Bool) (S : Set') : Rep w F m .nili .nilIface S
  | hole (m : Bool) (x : Value) (S : Set') (h : x.oneCell' = true) : Rep w F m .hole x S
  | fn (f : FuncId) (caps : List V) (cs : Array Value) (S : Set') (hl : caps.length = cs.size)
      (hc : ∀ i, i < caps.length → Rep w F false (cellAt caps i) (cs.getD i default) none') : Rep w F false (.fn f caps) (.func (.func f) #[] cs) S
  | nul (m : Bool) (sz : Nat) (fl : Bool) (cap : Option Nat) (src : Option (Nat × Nat × Nat × Nat)) (g : Nat → List V) (a : Option Addr) (S : Set') (hcap : cap = none ∨ cap = some 0) (hs : src = none := by rfl) :
      Rep w F m (.sl sz fl cap src 0 g) (.slice a 0 0) S
  | slF (sz : Nat) (fl : Bool) (cap : Option Nat) (src : Option (Nat × Nat × Nat × Nat)) (n : Nat) (g : Nat → List V) (b off c : Nat) (cs : Array Value) (e : TypeId) (fr : Nat × Nat) (xs : Nat → Nat → Value) (S : Set')
      (hb : w.heap[b]? = some (.cells cs e fr)) (hF : F b) (hcap : cap = none ∨ cap = some c) (hn : n ≤ c) (hsz : off + c * sz ≤ cs.size)
      (hlen : ∀ i, i < n → (g i).length = sz) (hxs : ∀ i j, i < n → j < sz → cs[off + i * sz + j]? = some (xs i j))
      (hc : ∀ i j, i < n → j < sz → Rep w F false (cellAt (g i) j) (xs i j) none')
      (hfl : fl = true → ∀ i j, i < n → j < sz → (cellAt (g i) j).leaf = true) (hs : src = none := by rfl) :
      Rep w F false (.sl sz fl cap src n g) (.slice (some ⟨b, off, none⟩) n c) S
  | slO (sz : Nat) (fl : Bool) (cap : Option Nat) (src : Option (Nat × Nat × Nat × Nat)) (n : Nat) (g : Nat → List V) (b off c : Nat) (cs : Array Value) (e : TypeId) (fr : Nat × Nat) (xs : Nat → Nat → Value) (S : Set') (Sr : Nat → Nat → Set')
      (hb : w.heap[b]? = some (.cells cs e fr)) (hS : S b) (hp : Plain fr cs.size) (hcap : cap = none ∨ cap = some c) (hn : n ≤ c) (hsz : off + c * sz ≤ cs.size)
      (hlen : ∀ i, i < n → (g i).length = sz) (hxs : ∀ i j, i < n → j < sz → cs[off + i * sz + j]? = some (xs i j))
      (hc : ∀ i j, i < n → j < sz → Rep w F true (cellAt (g i) j) (xs i j) (Sr i j))
      (hfl : fl = true → ∀ i j, i < n → j < sz → (cellAt (g i) j).leaf = true)
      (hsub : ∀ i j x, i < n → j < sz → Sr i j x → S x ∧ x ≠ b)
      (hdis : ∀ i j i' j' x, i < n → j < sz → i' < n → j' < sz → Sr i j x → Sr i' j' x → i = i' ∧ j = j') (hs : src = none := by rfl) :
      Rep w F true (.sl sz fl cap src n g) (.slice (some ⟨b, off, none⟩) n c) S
  | pvF (src : Option (Nat × Nat)) (row : List V) (j b off : Nat) (cs : Array Value) (e : TypeId) (fr : Nat × Nat) (xs : Nat → Value) (S : Set')
      (hb : w.heap[b]? = some (.cells cs e fr)) (hF : F b) (hxs : ∀ i, i < row.length → cs[off + i]? = some (xs i))
      (hc : ∀ i, i < row.length → Rep w F false (cellAt row i) (xs i) none') : Rep w F false (.pv src row j) (.pointer (some ⟨b, off + j, none⟩)) S
  | pvO (src : Option (Nat × Nat)) (row : List V) (j b off : Nat) (cs : Array Value) (e : TypeId) (fr : Nat × Nat) (xs : Nat → Value) (S : Set') (Sr : Nat → Set')
      (hb : w.heap[b]? = some (.cells cs e fr)) (hS : S b) (hp : Plain fr cs.size) (hxs : ∀ i, i < row.length → cs[off + i]? = some (xs i))
      (hc : ∀ i, i < row.length → Rep w F true (cellAt row i) (xs i) (Sr i))
      (hsub : ∀ i x, i < row.length → Sr i x → S x ∧ x ≠ b) (hdis : ∀ i i' x, i < row.length → i' < row.length → Sr i x → Sr i' x → i = i') :
      Rep w F true (.pv src row j) (.pointer (some ⟨b, off + j, none⟩)) S

variable {w w' : World} {F F' : Set'} {m : Bool} {v : V} {x : Value} {S S' : Set'}

theorem Rep.world (h : Rep w F m v x S) : (∀ b, S b ∨ F b → w'.heap[b]? = w.heap[b]?) → Rep w' F m v x S := by
  induction h with
  | int => intro _; constructor
  | bool => intro _; constructor
  | str => intro _; constructor
  | nilp => intro _; constructor
  | nilf => intro _; constructor
  | nili => intro _; constructor
  | hole _ _ _ h => intro _; exact .hole _ _ _ h
  | fn f caps cs S hl hc ih => intro hw; exact .fn _ _ _ _ hl fun i hi => ih i hi fun b hb => hw b (hb.elim (fun h => h.elim) .inr)
  | nul _ _ _ _ _ _ _ _ hcap hs => intro _; exact .nul _ _ _ _ _ _ _ _ hcap hs
  | slF sz fl cap src n g b off c cs e fr xs S hb hF hcap hn hsz hlen hxs hc hfl hs ih =>
    intro hw
    exact .slF sz fl cap src n g b off c cs e fr xs S ((hw b (.inr hF)).trans hb) hF hcap hn hsz hlen hxs (fun i j hi hj => ih i j hi hj fun b' hb' => hw b' (hb'.elim (fun h => h.elim) .inr)) hfl hs
  | slO sz fl cap src n g b off c cs e fr xs S Sr hb hS hp hcap hn hsz hlen hxs hc hfl hsub hdis hs ih =>
    intro hw
    exact .slO sz fl cap src n g b off c cs e fr xs S Sr ((hw b (.inl hS)).trans hb) hS hp hcap hn hsz hlen hxs (fun i j hi hj => ih i j hi hj fun b' hb' => hw b' (hb'.elim (fun h => .inl (hsub i j b' hi hj h).1) .inr)) hfl hsub hdis hs
  | pvF src row j b off cs e fr xs S hb hF hxs hc ih =>
    intro hw
    exact .pvF src row j b off cs e fr xs S ((hw b (.inr hF)).trans hb) hF hxs (fun i hi => ih i hi fun b' hb' => hw b' (hb'.elim (fun h => h.elim) .inr))
  | pvO src row j b off cs e fr xs S Sr hb hS hp hxs hc hsub hdis ih =>
    intro hw
    exact .pvO src row j b off cs e fr xs S Sr ((hw b (.inl hS)).trans hb) hS hp hxs (fun i hi => ih i hi fun b' hb' => hw b' (hb'.elim (fun h => .inl (hsub i b' hi h).1) .inr)) hsub hdis

theorem Rep.mono (h : Rep w F m v x S) : (∀ b, F b → F' b) → Rep w F' m v x S := by
  induction h with
  | int => intro _; constructor
  | bool => intro _; constructor
  | str => intro _; constructor
  | nilp => intro _; constructor
  | nilf => intro _; constructor
  | nili => intro _; constructor
  | hole _ _ _ h => intro _; exact .hole _ _ _ h
  | fn f caps cs S hl hc ih => intro hw; exact .fn _ _ _ _ hl fun i hi => ih i hi hw
  | nul _ _ _ _ _ _ _ _ hcap hs => intro _; exact .nul _ _ _ _ _ _ _ _ hcap hs
  | slF sz fl cap src n g b off c cs e fr xs S hb hF hcap hn hsz hlen hxs hc hfl hs ih =>
    intro hw; exact .slF sz fl cap src n g b off c cs e fr xs S hb (hw _ hF) hcap hn hsz hlen hxs (fun i j hi hj => ih i j hi hj hw) hfl hs
  | slO sz fl cap src n g b off c cs e fr xs S Sr hb hS hp hcap hn hsz hlen hxs hc hfl hsub hdis hs ih =>
    intro hw; exact .slO sz fl cap src n g b off c cs e fr xs S Sr hb hS hp hcap hn hsz hlen hxs (fun i j hi hj => ih i j hi hj hw) hfl hsub hdis hs
  | pvF src row j b off cs e fr xs S hb hF hxs hc ih =>
    intro hw; exact .pvF src row j b off cs e fr xs S hb (hw _ hF) hxs (fun i hi => ih i hi hw)
  | pvO src row j b off cs e fr xs S Sr hb hS hp hxs hc hsub hdis ih =>
    intro hw; exact .pvO src row j b off cs e fr xs S Sr hb hS hp hxs (fun i hi => ih i hi hw) hsub hdis

theorem Rep.wider (h : Rep w F m v x S) (hw : ∀ b, S b → S' b) : Rep w F m v x S' := by
  cases h with
  | int => constructor
  | bool => constructor
  | str => constructor
  | nilp => constructor
  | nilf => constructor
  | nili => constructor
  | hole _ _ _ h => exact .hole _ _ _ h
  | fn f caps cs S hl hc => exact .fn _ _ _ _ hl hc
  | nul _ _ _ _ _ _ _ _ hcap hs => exact .nul _ _ _ _ _ _ _ _ hcap hs
  | slF sz fl cap src n g b off c cs e fr xs _ hb hF hcap hn hsz hlen hxs hc hfl hs => exact .slF sz fl cap src n g b off c cs e fr xs S' hb hF hcap hn hsz hlen hxs hc hfl hs
  | slO sz fl cap src n g b off c cs e fr xs _ Sr hb hS hp hcap hn hsz hlen hxs hc hfl hsub hdis hs =>
    exact .slO sz fl cap src n g b off c cs e fr xs S' Sr hb (hw _ hS) hp hcap hn hsz hlen hxs hc hfl (fun i j x hi hj hx => ⟨hw _ (hsub i j x hi hj hx).1, (hsub i j x hi hj hx).2⟩) hdis hs
  | pvF src row j b off cs e fr xs _ hb hF hxs hc => exact .pvF src row j b off cs e fr xs S' hb hF hxs hc
  | pvO src row j b off cs e fr xs _ Sr hb hS hp hxs hc hsub hdis =>
    exact .pvO src row j b off cs e fr xs S' Sr hb (hw _ hS) hp hxs hc (fun i x hi hx => ⟨hw _ (hsub i x hi hx).1, (hsub i x hi hx).2⟩) hdis

/-- What is not the tree's own has no blocks of its own. -/
theorem Rep.any (h : Rep w F false v x S) : Rep w F false v x S' := by
  cases h with
  | int => constructor
  | bool => constructor
  | str => constructor
  | nilp => constructor
  | nilf => constructor
  | nili => constructor
  | hole _ _ _ h => exact .hole _ _ _ h
  | fn f caps cs S hl hc => exact .fn _ _ _ _ hl hc
  | nul _ _ _ _ _ _ _ _ hcap hs => exact .nul _ _ _ _ _ _ _ _ hcap hs
  | slF sz fl cap src n g b off c cs e fr xs _ hb hF hcap hn hsz hlen hxs hc hfl hs => exact .slF sz fl cap src n g b off c cs e fr xs S' hb hF hcap hn hsz hlen hxs hc hfl hs
  | pvF src row j b off cs e fr xs _ hb hF hxs hc => exact .pvF src row j b off cs e fr xs S' hb hF hxs hc

/-- Shared from now on. -/
theorem Rep.frozen (h : Rep w F m v x S) : (∀ b, F b → F' b) → (∀ b, S b → F' b) → Rep w F' false v x S' := by
  intro h1 h2
  induction h generalizing S' with
  | int => constructor
  | bool => constructor
  | str => constructor
  | nilp => constructor
  | nilf => constructor
  | nili => constructor
  | hole _ _ _ h => exact .hole _ _ _ h
  | fn f caps cs S hl hc ih => exact .fn _ _ _ _ hl fun i hi => (hc i hi).mono h1
  | nul _ _ _ _ _ _ _ _ hcap hs => exact .nul _ _ _ _ _ _ _ _ hcap hs
  | slF sz fl cap src n g b off c cs e fr xs S hb hF hcap hn hsz hlen hxs hc hfl hs ih =>
    exact .slF sz fl cap src n g b off c cs e fr xs _ hb (h1 _ hF) hcap hn hsz hlen hxs (fun i j hi hj => (hc i j hi hj).mono h1) hfl hs
  | slO sz fl cap src n g b off c cs e fr xs S Sr hb hS hp hcap hn hsz hlen hxs hc hfl hsub hdis hs ih =>
    exact .slF sz fl cap src n g b off c cs e fr xs _ hb (h2 _ hS) hcap hn hsz hlen hxs (fun i j hi hj => ih i j hi hj fun b' hb' => h2 _ (hsub i j b' hi hj hb').1) hfl hs
  | pvF src row j b off cs e fr xs S hb hF hxs hc ih =>
    exact .pvF src row j b off cs e fr xs _ hb (h1 _ hF) hxs (fun i hi => (hc i hi).mono h1)
  | pvO src row j b off cs e fr xs S Sr hb hS hp hxs hc hsub hdis ih =>
    exact .pvF src row j b off cs e fr xs _ hb (h2 _ hS) hxs (fun i hi => ih i hi fun b' hb' => h2 _ (hsub i b' hi hb').1)

theorem Rep.leaf {m' : Bool} (h : Rep w F m v x S) (hl : v.leaf = true) : Rep w' F' m' v x S' := by
  cases h <;> first | (exfalso; simp [V.leaf] at hl; done) | constructor

/-- Marks of a tree that say where it was read, and what is known of its capacity, may be dropped. -/
theorem Rep.retag {sz : Nat} {fl : Bool} {cap : Option Nat} {src : Option (Nat × Nat × Nat × Nat)} {n : Nat} {g : Nat → List V} (h : Rep w F m (.sl sz fl cap src n g) x S) : Rep w F m (.sl sz fl none none n g) x S := by
  cases h with
  | nul _ _ _ _ _ _ a _ hcap hs => exact .nul _ _ _ _ _ _ _ _ (.inl rfl)
  | slF _ _ _ _ _ _ b off c cs e fr xs _ hb hF hcap hn hsz hlen hxs hc hfl hs => exact .slF _ _ _ _ _ _ b off c cs e fr xs S hb hF (.inl rfl) hn hsz hlen hxs hc hfl
  | slO _ _ _ _ _ _ b off c cs e fr xs _ Sr hb hS hp hcap hn hsz hlen hxs hc hfl hsub hdis hs => exact .slO _ _ _ _ _ _ b off c cs e fr xs S Sr hb hS hp (.inl rfl) hn hsz hlen hxs hc hfl hsub hdis

theorem Rep.retagp {src src' : Option (Nat × Nat)} {row : List V} {j : Nat} (h : Rep w F m (.pv src row j) x S) : Rep w F m (.pv src' row j) x S := by
  cases h with
  | pvF _ _ _ b off cs e fr xs _ hb hF hxs hc => exact .pvF _ _ _ b off cs e fr xs _ hb hF hxs hc
  | pvO _ _ _ b off cs e fr xs _ Sr hb hS hp hxs hc hsub hdis => exact .pvO _ _ _ b off cs e fr xs S Sr hb hS hp hxs hc hsub hdis

/-- The blocks that it lies in are there. -/
theorem Rep.slice_len {sz : Nat} {fl : Bool} {cap : Option Nat} {src : Option (Nat × Nat × Nat × Nat)} {n : Nat} {g : Nat → List V} (h : Rep w F m (.sl sz fl cap src n g) x S) : ∃ a c, x = .slice a n c ∧ n ≤ c := by
  cases h with
  | nul _ _ _ _ _ _ a _ hcap hs => exact ⟨_, _, rfl, Nat.le_refl _⟩
  | slF _ _ _ _ _ _ _ _ _ _ _ _ _ _ _ _ _ hn => exact ⟨_, _, rfl, hn⟩
  | slO _ _ _ _ _ _ _ _ _ _ _ _ _ _ _ _ _ _ _ hn => exact ⟨_, _, rfl, hn⟩

theorem Rep.leaf_slice {a : Option Addr} {n c : Nat} (h : Rep w F m v (.slice a n c) S) (hl : v.leaf = true) : False := by
  cases h <;> simp [V.leaf] at hl

theorem Rep.nosrc {sz : Nat} {fl : Bool} {cap : Option Nat} {src : Option (Nat × Nat × Nat × Nat)} {n : Nat} {g : Nat → List V} (h : Rep w F m (.sl sz fl cap src n g) x S) : src = none := by
  cases h <;> assumption

/-- One cell each. -/
theorem Rep.one (h : Rep w F m v x S) : v.one = true ∧ x.oneCell' = true := by
  cases h <;> first | exact ⟨rfl, rfl⟩ | (rename_i h; exact ⟨rfl, h⟩)

/-- A tree that is its own asks nothing of what is shared. -/
theorem Rep.zone (h : Rep w F m v x S) (hm : m = true) : Rep w F' true v x S := by
  induction h with
  | int => constructor
  | bool => constructor
  | str => constructor
  | nilp => constructor
  | nilf => constructor
  | nili => constructor
  | hole _ _ _ h => exact .hole _ _ _ h
  | fn => cases hm
  | nul _ _ _ _ _ _ _ _ hcap hs => exact .nul _ _ _ _ _ _ _ _ hcap hs
  | slF => cases hm
  | slO sz fl cap src n g b off c cs e fr xs S Sr hb hS hp hcap hn hsz hlen hxs hc hfl hsub hdis hs ih =>
    exact .slO sz fl cap src n g b off c cs e fr xs S Sr hb hS hp hcap hn hsz hlen hxs (fun i j hi hj => ih i j hi hj rfl) hfl hsub hdis hs
  | pvF => cases hm
  | pvO src row j b off cs e fr xs S Sr hb hS hp hxs hc hsub hdis ih =>
    exact .pvO src row j b off cs e fr xs S Sr hb hS hp hxs (fun i hi => ih i hi rfl) hsub hdis
end Go.Vk
end

section
namespace Go.Vk
open Go
set_option linter.unusedVariables false

/-- Where the objects of a call lie, what is shared and never written, and what lies below an object alone. -/
structure Gh where
  F : Set'
  loc : Nat → Option (Nat × Nat)
  N : Nat → Set'

/-- A handle to a slice of an object. -/
def RefOk (w : World) (loc : Option (Nat × Nat)) (o : VO) (sub : Option (Nat × Nat)) (x : Value) : Prop :=
  o.box = false ∧ ∃ a c, x = .slice a (subRows sub o.rows []).n c ∧ (subRows sub o.rows []).n ≤ c ∧ offOf sub + (subRows sub o.rows []).n ≤ o.n ∧
    (c = 0 ∨ ∃ b off cs e fr, loc = some (b, off) ∧ a = some ⟨b, off + offOf sub * o.sz, none⟩ ∧ w.heap[b]? = some (.cells cs e fr) ∧ off + (offOf sub + c) * o.sz ≤ cs.size)

def AdrOk (loc : Option (Nat × Nat)) (o : VO) (i j : Nat) (x : Value) : Prop :=
  ∃ b off, loc = some (b, off) ∧ x = .pointer (some ⟨b, off + i * o.sz + j, none⟩)

abbrev Ob := Nat → Option (Option VO)

/-- A cell of an object's row holds this. -/
def Exact (w : World) (l : Option (Nat × Nat)) (sz i j : Nat) (x : Value) : Prop := ∃ b off cs e fr, l = some (b, off) ∧ w.heap[b]? = some (.cells cs e fr) ∧ cs[off + i * sz + j]? = some x

/-- The slices that lie in a row stay. -/
def Keeps (w w' : World) (l : Option (Nat × Nat)) : Prop := ∀ (b off : Nat) (cs : Array Value) (e : TypeId) (fr : Nat × Nat) (p : Nat) (a : Option Addr) (n c : Nat), l = some (b, off) → w.heap[b]? = some (.cells cs e fr) → cs[p]? = some (Value.slice a n c) → ∃ cs' : Array Value, w'.heap[b]? = some (.cells cs' e fr) ∧ cs'[p]? = some (Value.slice a n c)

theorem Keeps.same {w w' : World} {l : Option (Nat × Nat)} (h : ∀ b off, l = some (b, off) → w'.heap[b]? = w.heap[b]?) : Keeps w w' l := fun b off cs e fr p a n c hl hb hp => ⟨cs, (h b off hl).trans hb, hp⟩
theorem Keeps.refl {w : World} {l : Option (Nat × Nat)} : Keeps w w l := .same fun _ _ _ => rfl

/-- Sizes of rows do not shrink. -/
def Szs (w w' : World) : Prop := ∀ (b : Nat) (cs : Array Value) (e : TypeId) (fr : Nat × Nat), w.heap[b]? = some (.cells cs e fr) → ∃ (cs' : Array Value), w'.heap[b]? = some (.cells cs' e fr) ∧ cs.size = cs'.size

theorem Szs.refl (w : World) : Szs w w := fun b cs e fr h => ⟨cs, h, rfl⟩
theorem Szs.trans {w w' w2 : World} (h : Szs w w') (h' : Szs w' w2) : Szs w w2 := fun b cs e fr hb => by
  obtain ⟨cs', k1, k2⟩ := h b cs e fr hb
  obtain ⟨cs2, k3, k4⟩ := h' b cs' e fr k1
  exact ⟨cs2, k3, k2.trans k4⟩

/-- A slot's value. -/
inductive RepT (w : World) (G : Gh) (ob : Ob) : V → Value → Prop
  | val (v : V) (x : Value) (h : Rep w G.F false v x none') : RepT w G ob v x
  | view (sz : Nat) (fl : Bool) (cap : Option Nat) (A ver i j n : Nat) (g : Nat → List V) (x : Value) (hx : ∃ a c, x = .slice a n c ∧ n ≤ c) (hA : ob A ≠ none)
      (hle : ∀ o, ob A = some (some o) → ver ≤ o.ver) (h : ∀ o, ob A = some (some o) → o.ver = ver → Rep w (fun b => G.F b ∨ G.N A b) false (.sl sz fl cap none n g) x none')
      (hq : ∀ o, ob A = some (some o) → o.ver = ver → j < 256 → o.box = false ∧ i < o.n ∧ j < o.sz ∧ Exact w (G.loc A) o.sz i j x) : RepT w G ob (.sl sz fl cap (some (A, ver, i, j)) n g) x
  | vpv (A ver : Nat) (row : List V) (j : Nat) (x : Value) (hx : ∃ b q, x = .pointer (some ⟨b, q, none⟩)) (hA : ob A ≠ none)
      (hle : ∀ o, ob A = some (some o) → ver ≤ o.ver) (h : ∀ o, ob A = some (some o) → o.ver = ver → Rep w (fun b => G.F b ∨ G.N A b) false (.pv none row j) x none') : RepT w G ob (.pv (some (A, ver)) row j) x
  | ref (id : Nat) (sub : Option (Nat × Nat)) (x : Value) (hx : ∃ a l c, x = .slice a l c) (hA : ob id ≠ none) (h : ∀ o, ob id = some (some o) → RefOk w (G.loc id) o sub x) : RepT w G ob (.ref id sub) x
  | adr (id i j : Nat) (x : Value) (hx : ∃ b q, x = .pointer (some ⟨b, q, none⟩)) (hA : ob id ≠ none) (h : ∀ o, ob id = some (some o) → AdrOk (G.loc id) o i j x) : RepT w G ob (.adr id i j) x
  | dead (x : Value) : RepT w G ob .dead x
  | ub (b : Bool) : RepT w G ob .ub (.bool b)
  | agg (cs : List V) (xs : Array Value) (hl : cs.length = xs.size) (hc : ∀ i, i < cs.length → RepT w G ob (cellAt cs i) (xs.getD i default)) : RepT w G ob (.agg cs) (.agg xs)
  | tup (cs : List V) (xs : Array Value) (hl : cs.length = xs.size) (hc : ∀ i, i < cs.length → RepT w G ob (cellAt cs i) (xs.getD i default)) : RepT w G ob (.tup cs) (.tuple xs)
  | fn (f : FuncId) (cs : List V) (xs : Array Value) (hl : cs.length = xs.size) (hc : ∀ i, i < cs.length → RepT w G ob (cellAt cs i) (xs.getD i default)) : RepT w G ob (.fn f cs) (.func (.func f) #[] xs)

/-- What the cells of an object's rows are. -/
def CellsOk (w : World) (G : Gh) (ob : Ob) (id : Nat) (o : VO) (xs : Nat → Nat → Value) : Prop :=
  match o.box, o.st with
  | true, _ => o.n = 1 ∧ ∀ j, j < o.sz → RepT w G ob (cellAt (o.get 0) j) (xs 0 j)
  | false, .dp => ∃ Sr : Nat → Nat → Set', (∀ i j, i < o.n → j < o.sz → Rep w G.F true (cellAt (o.get i) j) (xs i j) (Sr i j)) ∧ (∀ i j x, i < o.n → j < o.sz → Sr i j x → G.N id x) ∧
      (∀ i j i' j' x, i < o.n → j < o.sz → i' < o.n → j' < o.sz → Sr i j x → Sr i' j' x → i = i' ∧ j = j')
  | false, _ => ∀ i j, i < o.n → j < o.sz → Rep w G.F false (cellAt (o.get i) j) (xs i j) none'

/-- An object against its row in the world. -/
inductive ObjOk (w : World) (G : Gh) (ob : Ob) (id : Nat) (o : VO) : Prop
  | null (hl : G.loc id = none) (hb : o.box = false) (hn : o.n = 0)
  | row (b off : Nat) (cs : Array Value) (e : TypeId) (fr : Nat × Nat) (xs : Nat → Nat → Value) (hl : G.loc id = some (b, off)) (hb : w.heap[b]? = some (.cells cs e fr))
      (hsz : off + o.n * o.sz ≤ cs.size) (hlen : ∀ i, i < o.n → (o.get i).length = o.sz) (hxs : ∀ i j, i < o.n → j < o.sz → cs[off + i * o.sz + j]? = some (xs i j))
      (hfl : o.fl = true → ∀ i j, i < o.n → j < o.sz → (cellAt (o.get i) j).leaf = true) (hp : o.st ≠ .fz → Plain fr cs.size) (hF : o.st = .fz → G.F b) (hc : CellsOk w G ob id o xs)

structure Base (w0 : World) (S0 : Set') (w : World) : Prop where
  os : w.os = w0.os
  tape : w.tape = w0.tape
  output : w.output = w0.output
  size : w0.heap.size ≤ w.heap.size
  block : ∀ b, b < w0.heap.size → ¬ S0 b → w.heap[b]? = w0.heap[b]?
  szs : Szs w0 w

def Mine (w0 : World) (S0 : Set') (b : Nat) : Prop := w0.heap.size ≤ b ∨ S0 b

structure Inv (w0 : World) (S0 : SS) (F0 : Set') (G : Gh) (σ : St) (tm : Array Value) (w : World) : Prop where
  base : Base w0 S0 w
  fsub : ∀ b, F0 b → G.F b
  fmine : ∀ b, G.F b → F0 b ∨ Mine w0 S0 b
  flt : ∀ b, G.F b → b < w.heap.size
  tmps : ∀ t, RepT w G (look σ.objs) (σ.tmp t) (tm.getD t undef)
  keep : ∀ p ∈ S0.keep, RepT w G (look σ.objs) p.1 p.2
  objs : ∀ id o, look σ.objs id = some (some o) → ObjOk w G (look σ.objs) id o
  root : ∀ id o b off, look σ.objs id = some (some o) → G.loc id = some (b, off) → o.st ≠ .fz → b < w.heap.size ∧ Mine w0 S0 b ∧ ¬ G.F b ∧ ∀ id', ¬ G.N id' b
  rdis : ∀ id o id' o' b off off', look σ.objs id = some (some o) → look σ.objs id' = some (some o') → G.loc id = some (b, off) → G.loc id' = some (b, off') → o.st ≠ .fz → id = id'
  nest : ∀ id b, G.N id b → b < w.heap.size ∧ Mine w0 S0 b ∧ ¬ G.F b
  ndis : ∀ id id' b, G.N id b → G.N id' b → id = id'

variable {w w' w0 : World} {S0 : SS} {F0 : Set'} {G G' : Gh} {ob ob' : Ob} {v : V} {x : Value} {σ : St} {tm : Array Value}

theorem look_cons {α : Type} (a : Nat) (x : α) (r : List (Nat × α)) (k : Nat) : look ((a, x) :: r) k = if a = k then some x else look r k := by
  simp only [look]
  by_cases h : a = k
  · subst h; simp
  · have : Nat.beq a k = false := by cases hb : Nat.beq a k with | false => rfl | true => exact absurd (Nat.eq_of_beq_eq_true hb) h
    simp [this, h]

theorem tmp_put (σ : St) (d : Nat) (v : V) (t : Nat) : (σ.put (some d) v).tmp t = if d = t then v else σ.tmp t := by
  simp only [St.put, St.tmp, look_cons]
  by_cases h : d = t <;> simp [h]

theorem put_objs (σ : St) (d : Option Nat) (v : V) : (σ.put d v).objs = σ.objs := by cases d <;> rfl
theorem putO_tmp (σ : St) (id : Nat) (o : Option VO) (t : Nat) : (σ.putO id o).tmp t = σ.tmp t := rfl
theorem obj_look {id : Nat} {o : VO} : σ.obj id = some o ↔ look σ.objs id = some (some o) := by
  simp only [St.obj]
  cases h : look σ.objs id with
  | none => simp
  | some y => simp


theorem RefOk.world {loc : Option (Nat × Nat)} {o o' : VO} {sub : Option (Nat × Nat)} (h : RefOk w loc o sub x) (hs : Szs w w') (hn : o'.n = o.n) (hz : o'.sz = o.sz) (hb : o'.box = o.box) : RefOk w' loc o' sub x := by
  obtain ⟨h1, a, c, h2, h3, h4, h5⟩ := h
  have hr : (subRows sub o'.rows []).n = (subRows sub o.rows []).n := by
    cases sub with
    | none => simp [subRows, VO.rows, hn]
    | some p => simp [subRows, Rows.sub]
  refine ⟨hb.trans h1, a, c, by rw [hr]; exact h2, by rw [hr]; exact h3, by rw [hr, hn]; exact h4, ?_⟩
  rcases h5 with h5 | ⟨b, off, cs, e, fr, k1, k2, k3, k4⟩
  · exact .inl h5
  · obtain ⟨cs', l1, l2⟩ := hs b cs e fr k3
    exact .inr ⟨b, off, cs', e, fr, k1, by rw [hz]; exact k2, l1, by rw [hz, ← l2]; exact k4⟩

/-- From one state to the next: what is named stays named, and lies where it lay; what nobody writes is as it was. -/
structure Step (w : World) (G : Gh) (ob : Ob) (w' : World) (G' : Gh) (ob' : Ob) : Prop where
  szs : Szs w w'
  F : ∀ b, G.F b → G'.F b
  dom : ∀ id, ob id ≠ none → ob' id ≠ none
  wF : ∀ b, G.F b → w'.heap[b]? = w.heap[b]?
  wN : ∀ id b o o', G.N id b → ob id = some (some o) → ob' id = some (some o') → o'.ver = o.ver → w'.heap[b]? = w.heap[b]?
  obj : ∀ id o', ob' id = some (some o') → ob id ≠ none → ∃ o, ob id = some (some o) ∧ o'.n = o.n ∧ o'.sz = o.sz ∧ o'.box = o.box ∧ G'.loc id = G.loc id ∧ o.ver ≤ o'.ver ∧
      (o'.ver = o.ver → (∀ b, G.N id b → G'.F b ∨ G'.N id b) ∧ (o.box = false → Keeps w w' (G.loc id)))

theorem RepT.step (h : RepT w G ob v x) (hs : Step w G ob w' G' ob') : RepT w' G' ob' v x := by
  induction h with
  | val v x h => exact .val _ _ ((h.world fun b hb => hs.wF b (hb.elim (fun h => h.elim) id)).mono hs.F)
  | view sz fl cap A ver i j n g x hx hA hle h hq =>
    refine .view _ _ _ _ _ _ _ _ _ _ hx (hs.dom _ hA) (fun o' hob => ?_) (fun o' hob hv => ?_) fun o' hob hv hj => ?_
    · obtain ⟨o, h1, _, _, _, _, h6, _⟩ := hs.obj A o' hob hA
      exact Nat.le_trans (hle o h1) h6
    · obtain ⟨o, h1, _, _, _, _, h6, h7⟩ := hs.obj A o' hob hA
      have hv' : o'.ver = o.ver := by have := hle o h1; omega
      exact ((h o h1 (hv'.symm.trans hv)).world fun b hb => hb.elim (fun h => h.elim) fun hb => hb.elim (hs.wF b) fun hb => hs.wN A b o o' hb h1 hob hv').mono fun b hb => hb.elim (fun hb => .inl (hs.F b hb)) ((h7 hv').1 b)
    · obtain ⟨o, h1, h2, h3, h4, h5, h6, h7⟩ := hs.obj A o' hob hA
      have hv' : o'.ver = o.ver := by have := hle o h1; omega
      obtain ⟨q1, q2, q3, b, off, cs, e, fr, q4, q5, q6⟩ := hq o h1 (hv'.symm.trans hv) hj
      obtain ⟨a, c, e2, _⟩ := hx
      subst e2
      obtain ⟨cs', r1, r2⟩ := (h7 hv').2 q1 b off cs e fr _ a n c q4 q5 q6
      exact ⟨h4.trans q1, by omega, by omega, b, off, cs', e, fr, h5.trans q4, r1, by rw [h3]; exact r2⟩
  | vpv A ver row j x hx hA hle h =>
    refine .vpv _ _ _ _ _ hx (hs.dom _ hA) (fun o' hob => ?_) fun o' hob hv => ?_
    · obtain ⟨o, h1, _, _, _, _, h6, _⟩ := hs.obj A o' hob hA
      exact Nat.le_trans (hle o h1) h6
    · obtain ⟨o, h1, _, _, _, _, h6, h7⟩ := hs.obj A o' hob hA
      have hv' : o'.ver = o.ver := by have := hle o h1; omega
      exact ((h o h1 (hv'.symm.trans hv)).world fun b hb => hb.elim (fun h => h.elim) fun hb => hb.elim (hs.wF b) fun hb => hs.wN A b o o' hb h1 hob hv').mono fun b hb => hb.elim (fun hb => .inl (hs.F b hb)) ((h7 hv').1 b)
  | ref id sub x hx hA h =>
    refine .ref _ _ _ hx (hs.dom _ hA) fun o' hob => ?_
    obtain ⟨o, h1, h2, h3, h4, h5, _⟩ := hs.obj id o' hob hA
    rw [h5]; exact (h o h1).world hs.szs h2 h3 h4
  | adr id i j x hx hA h =>
    refine .adr _ _ _ _ hx (hs.dom _ hA) fun o' hob => ?_
    obtain ⟨o, h1, h2, h3, h4, h5, _⟩ := hs.obj id o' hob hA
    obtain ⟨b, off, k1, k2⟩ := h o h1
    exact ⟨b, off, by rw [h5]; exact k1, by rw [h3]; exact k2⟩
  | dead => exact .dead _
  | ub b => exact .ub b
  | agg cs xs hl hc ih => exact .agg _ _ hl ih
  | tup cs xs hl hc ih => exact .tup _ _ hl ih
  | fn f cs xs hl hc ih => exact .fn _ _ _ hl ih

def putT (tm : Array Value) (d : Option Nat) (x : Value) : Array Value := match d with | some t => tm.setIfInBounds t x | none => tm
theorem putT_size (d : Option Nat) (x : Value) : (putT tm d x).size = tm.size := by cases d <;> simp [putT]

theorem nil0_rep {sz : Nat} {fl : Bool} {cap : Option Nat} {src : Option (Nat × Nat × Nat × Nat)} {n : Nat} {g : Nat → List V} {m : Bool} {F S : Set'} (h : nil0 cap src n = true) (hr : RepT w G ob (.sl sz fl cap src n g) x) : Rep w F m (.sl sz fl none none n g) x S := by
  unfold nil0 at h
  split at h
  · rename_i c
    simp only [Bool.and_eq_true] at h
    obtain ⟨h1, h2⟩ := h
    have h1 := Nat.eq_of_beq_eq_true h1
    have h2 := Nat.eq_of_beq_eq_true h2
    subst h1 h2
    have hx : ∃ a, x = .slice a 0 0 := by
      cases hr with
      | val _ _ hr =>
        cases hr with
        | nul => exact ⟨_, rfl⟩
        | slF _ _ _ _ _ _ b off c cs e fr xs _ hb hF hcap =>
          rcases hcap with hcap | hcap
          · cases hcap
          · cases hcap; exact ⟨_, rfl⟩
    obtain ⟨a, rfl⟩ := hx
    exact .nul _ _ _ _ _ _ _ _ (.inl rfl)
  · cases h

/-- The same state with one slot more. -/
theorem Inv.put (h : Inv w0 S0 F0 G σ tm w) {d : Option Nat} (hv : RepT w G (look σ.objs) v x) (hd : dstIn tm.size d = true) :
    Inv w0 S0 F0 G (σ.put d v) (putT tm d x) w := by
  cases d with
  | none => exact h
  | some t =>
    have ht : t < tm.size := by simpa [dstIn] using hd
    refine { h with tmps := fun t' => ?_ }
    show RepT w G (look σ.objs) _ _
    rw [tmp_put]
    by_cases e : t = t'
    · subst e; simp only [if_pos]; simpa [putT, Array.getD, ht] using hv
    · simp only [if_neg e]
      have := h.tmps t'
      have e' : (tm.setIfInBounds t x).getD t' undef = tm.getD t' undef := by
        simp only [Array.getD_eq_getD_getElem?, Array.getElem?_setIfInBounds, if_neg e]
      show RepT w G _ _ ((tm.setIfInBounds t x).getD t' undef); rw [e']; exact this
end Go.Vk
end

section
namespace Go.Vk
open Go
set_option linter.unusedVariables false
variable {w w' w0 : World} {S0 : SS} {F0 : Set'} {G G' : Gh} {ob ob' : Ob} {v : V} {x : Value} {σ σ' : St} {tm : Array Value} {id : Nat} {o o' : VO}

/-- A block of the call's own that no object lies in. -/
structure Loose (w0 : World) (S0 : SS) (G : Gh) (σ : St) (w : World) (b : Nat) : Prop where
  lt : b < w.heap.size
  mine : Mine w0 S0 b
  nF : ¬ G.F b
  nN : ∀ id, ¬ G.N id b
  nR : ∀ id o off, look σ.objs id = some (some o) → G.loc id = some (b, off) → False

theorem ObjOk.step (h : ObjOk w G ob id o) (hs : Step w G ob w' G' ob') (hl : G'.loc id = G.loc id) (hw : ∀ b off, G.loc id = some (b, off) → w'.heap[b]? = w.heap[b]?) (hN : ∀ b, G.N id b → G'.N id b) (hwN : ∀ b, G.N id b → w'.heap[b]? = w.heap[b]?) :
    ObjOk w' G' ob' id o := by
  cases h with
  | null h1 h2 h3 => exact .null (hl.trans h1) h2 h3
  | row b off cs e fr xs h1 hb hsz hlen hxs hfl hp hF hc =>
    refine .row b off cs e fr xs (hl.trans h1) ((hw b off h1).trans hb) hsz hlen hxs hfl hp (fun e => hs.F b (hF e)) ?_
    unfold CellsOk at hc ⊢
    cases hbx : o.box with
    | true => rw [hbx] at hc; exact ⟨hc.1, fun j hj => (hc.2 j hj).step hs⟩
    | false =>
      rw [hbx] at hc
      cases hst : o.st with
      | dp =>
        rw [hst] at hc
        obtain ⟨Sr, k1, k2, k3⟩ := hc
        exact ⟨Sr, fun i j hi hj => ((k1 i j hi hj).world fun b hb => hb.elim (fun hb => hwN b (k2 i j b hi hj hb)) (hs.wF b)).mono hs.F, fun i j x hi hj hx => hN _ (k2 i j x hi hj hx), k3⟩
      | sh =>
        rw [hst] at hc
        exact fun i j hi hj => ((hc i j hi hj).world fun b hb => hb.elim (fun h => h.elim) (hs.wF b)).mono hs.F
      | fz =>
        rw [hst] at hc
        exact fun i j hi hj => ((hc i j hi hj).world fun b hb => hb.elim (fun h => h.elim) (hs.wF b)).mono hs.F

theorem look_putO (σ : St) (id : Nat) (o : Option VO) (k : Nat) : look (σ.putO id o).objs k = if id = k then some o else look σ.objs k := look_cons _ _ _ _

/-- N without one object's. -/
def Gh.drop (G : Gh) (id : Nat) : Gh := { G with N := fun k => if k = id then none' else G.N k }

/-- An object is given up: its blocks are loose. -/
theorem Inv.kill (h : Inv w0 S0 F0 G σ tm w) (hid : look σ.objs id = some (some o)) : Inv w0 S0 F0 (G.drop id) (σ.putO id none) tm w ∧
    (∀ b, G.N id b → Loose w0 S0 (G.drop id) (σ.putO id none) w b) ∧ (∀ b off, G.loc id = some (b, off) → o.st ≠ .fz → Loose w0 S0 (G.drop id) (σ.putO id none) w b) := by
  have hN : ∀ k b, (G.drop id).N k b → k ≠ id ∧ G.N k b := fun k b hb => by
    by_cases e : k = id
    · simp [Gh.drop, e, none'] at hb
    · simp [Gh.drop, e] at hb; exact ⟨e, hb⟩
  have hlk : ∀ k o', look (σ.putO id none).objs k = some (some o') → k ≠ id ∧ look σ.objs k = some (some o') := fun k o' hk => by
    rw [look_putO] at hk
    by_cases e : id = k
    · simp [e] at hk
    · simp [e] at hk; exact ⟨fun h => e h.symm, hk⟩
  have hs : Step w G (look σ.objs) w (G.drop id) (look (σ.putO id none).objs) :=
    ⟨.refl w, fun _ h => h, fun k hk => by rw [look_putO]; split <;> simp [hk], fun _ _ => rfl, fun _ _ _ _ _ _ _ _ => rfl, fun k o' hk hd => by
      obtain ⟨e, hk'⟩ := hlk k o' hk
      exact ⟨o', hk', rfl, rfl, rfl, rfl, Nat.le_refl _, fun _ => ⟨fun b hb => .inr (by simp [Gh.drop, e, hb]), fun _ => .refl⟩⟩⟩
  refine ⟨?_, ?_, ?_⟩
  · exact {
      base := h.base, fsub := h.fsub, fmine := h.fmine, flt := h.flt
      tmps := fun t => (h.tmps t).step hs
      keep := fun p hp => (h.keep p hp).step hs
      objs := fun k o' hk => by
        obtain ⟨e, hk'⟩ := hlk k o' hk
        exact (h.objs k o' hk').step hs rfl (fun _ _ _ => rfl) (fun b hb => by simp [Gh.drop, e, hb]) (fun _ _ => rfl)
      root := fun k o' b off hk hl hf => by
        obtain ⟨e, hk'⟩ := hlk k o' hk
        obtain ⟨r1, r2, r3, r4⟩ := h.root k o' b off hk' hl hf
        exact ⟨r1, r2, r3, fun id' hb => r4 id' (hN id' b hb).2⟩
      rdis := fun k o' k' o'' b off off' hk hk' hl hl' hf => h.rdis k o' k' o'' b off off' (hlk k o' hk).2 (hlk k' o'' hk').2 hl hl' hf
      nest := fun k b hb => h.nest k b (hN k b hb).2
      ndis := fun k k' b hb hb' => h.ndis k k' b (hN k b hb).2 (hN k' b hb').2 }
  · intro b hb
    obtain ⟨n1, n2, n3⟩ := h.nest id b hb
    refine ⟨n1, n2, n3, fun k hk => (hN k b hk).1 (h.ndis k id b (hN k b hk).2 hb), fun k o' off hk hl => ?_⟩
    obtain ⟨e, hk'⟩ := hlk k o' hk
    by_cases hf : o'.st = .fz
    · cases h.objs k o' hk' with
      | null h1 => rw [show G.loc k = _ from hl] at h1; cases h1
      | row b' off' cs ee fr xs h1 _ _ _ _ _ _ hF =>
        rw [show G.loc k = _ from hl] at h1; cases h1; exact n3 (hF hf)
    · exact (h.root k o' b off hk' hl hf).2.2.2 id hb
  · intro b off hl hf
    obtain ⟨r1, r2, r3, r4⟩ := h.root id o b off hid hl hf
    refine ⟨r1, r2, r3, fun k hk => r4 k (hN k b hk).2, fun k o' off' hk hl' => ?_⟩
    obtain ⟨e, hk'⟩ := hlk k o' hk
    exact e (h.rdis id o k o' b off off' hid hk' hl hl' hf).symm

def Gh.more (G : Gh) (L : Set') : Gh := { G with F := fun b => G.F b ∨ L b }

/-- Loose blocks are shared from now on. -/
theorem Inv.share (h : Inv w0 S0 F0 G σ tm w) {L : Set'} (hL : ∀ b, L b → Loose w0 S0 G σ w b) : Inv w0 S0 F0 (G.more L) σ tm w := by
  have hs : Step w G (look σ.objs) w (G.more L) (look σ.objs) :=
    ⟨.refl w, fun _ h => .inl h, fun _ hk => hk, fun _ _ => rfl, fun _ _ _ _ _ _ _ _ => rfl, fun k o' hk hd => ⟨o', hk, rfl, rfl, rfl, rfl, Nat.le_refl _, fun _ => ⟨fun b hb => .inr hb, fun _ => .refl⟩⟩⟩
  exact {
    base := h.base, fsub := fun b hb => .inl (h.fsub b hb), fmine := fun b hb => hb.elim (h.fmine b) fun hb => .inr (hL b hb).mine
    flt := fun b hb => hb.elim (h.flt b) fun hb => (hL b hb).lt
    tmps := fun t => (h.tmps t).step hs
    keep := fun p hp => (h.keep p hp).step hs
    objs := fun k o' hk => (h.objs k o' hk).step hs rfl (fun _ _ _ => rfl) (fun b hb => hb) (fun _ _ => rfl)
    root := fun k o' b off hk hl hf => by
      obtain ⟨r1, r2, r3, r4⟩ := h.root k o' b off hk hl hf
      exact ⟨r1, r2, fun hb => hb.elim r3 fun hb => (hL b hb).nR k o' off hk hl, r4⟩
    rdis := h.rdis
    nest := fun k b hb => ⟨(h.nest k b hb).1, (h.nest k b hb).2.1, fun hf => hf.elim (h.nest k b hb).2.2 fun hf => (hL b hf).nN k hb⟩
    ndis := h.ndis }

/-- What holds of a loose block still holds when others are shared. -/
theorem Loose.more {b : Nat} (h : Loose w0 S0 G σ w b) {L : Set'} (hb : ¬ L b) : Loose w0 S0 (G.more L) σ w b :=
  ⟨h.lt, h.mine, fun hf => hf.elim h.nF hb, h.nN, h.nR⟩

theorem Loose.put {b : Nat} (h : Loose w0 S0 G σ w b) (d : Option Nat) (v : V) : Loose w0 S0 G (σ.put d v) w b := by
  cases d <;> exact ⟨h.lt, h.mine, h.nF, h.nN, h.nR⟩

theorem Loose.kill {b : Nat} (h : Loose w0 S0 G σ w b) (id : Nat) : Loose w0 S0 (G.drop id) (σ.putO id none) w b := by
  refine ⟨h.lt, h.mine, h.nF, fun k hk => ?_, fun k o' off hk hl => ?_⟩
  · by_cases e : k = id
    · simp [Gh.drop, e, none'] at hk
    · simp [Gh.drop, e] at hk; exact h.nN k hk
  · rw [look_putO] at hk
    by_cases e : id = k
    · simp [e] at hk
    · simp [e] at hk; exact h.nR k o' off hk hl

/-- The world changes in loose blocks and beyond. -/
theorem Inv.world (h : Inv w0 S0 F0 G σ tm w) (hsz : Szs w w') (hle : w.heap.size ≤ w'.heap.size) (hos : w'.os = w.os) (htp : w'.tape = w.tape) (hout : w'.output = w.output)
    (hb : ∀ b, b < w.heap.size → ¬ Loose w0 S0 G σ w b → w'.heap[b]? = w.heap[b]?) : Inv w0 S0 F0 G σ tm w' ∧ (∀ b, Loose w0 S0 G σ w b → Loose w0 S0 G σ w' b) ∧
    (∀ b, w.heap.size ≤ b → b < w'.heap.size → Loose w0 S0 G σ w' b) ∧ Step w G (look σ.objs) w' G (look σ.objs) := by
  have hroot : ∀ k o' b off, look σ.objs k = some (some o') → G.loc k = some (b, off) → w'.heap[b]? = w.heap[b]? := fun k o' b off hk hl => by
    by_cases hf : o'.st = .fz
    · cases h.objs k o' hk with
      | null h1 => rw [hl] at h1; cases h1
      | row b' off' cs ee fr xs h1 _ _ _ _ _ _ hF =>
        rw [hl] at h1; cases h1
        exact hb b (h.flt b (hF hf)) fun hL => hL.nF (hF hf)
    · exact hb b (h.root k o' b off hk hl hf).1 fun hL => hL.nR k o' off hk hl
  have hs : Step w G (look σ.objs) w' G (look σ.objs) :=
    ⟨hsz, fun _ h => h, fun _ hk => hk, fun b hf => hb b (h.flt b hf) fun hl => hl.nF hf, fun k b _ _ hn _ _ _ => hb b (h.nest k b hn).1 fun hl => hl.nN k hn,
      fun k o' hk hd => ⟨o', hk, rfl, rfl, rfl, rfl, Nat.le_refl _, fun _ => ⟨fun b hb => .inr hb, fun _ => .same fun b off hl => hroot k o' b off hk hl⟩⟩⟩
  refine ⟨?_, fun b hl => ⟨Nat.lt_of_lt_of_le hl.lt hle, hl.mine, hl.nF, hl.nN, hl.nR⟩, fun b h1 h2 => ?_, hs⟩
  · exact {
      base := ⟨hos.trans h.base.os, htp.trans h.base.tape, hout.trans h.base.output, Nat.le_trans h.base.size hle, fun b hlt hS => by
        rw [← h.base.block b hlt hS]
        exact hb b (Nat.lt_of_lt_of_le hlt h.base.size) fun hL => hL.mine.elim (fun h => absurd hlt (by omega)) hS, h.base.szs.trans hsz⟩
      fsub := h.fsub, fmine := h.fmine, flt := fun b hf => Nat.lt_of_lt_of_le (h.flt b hf) hle
      tmps := fun t => (h.tmps t).step hs
      keep := fun p hp => (h.keep p hp).step hs
      objs := fun k o' hk => (h.objs k o' hk).step hs rfl (fun b off hl => hroot k o' b off hk hl) (fun b hb => hb) (fun b hn => hb b (h.nest k b hn).1 fun hl => hl.nN k hn)
      root := fun k o' b off hk hl hf => by
        obtain ⟨r1, r2, r3, r4⟩ := h.root k o' b off hk hl hf
        exact ⟨Nat.lt_of_lt_of_le r1 hle, r2, r3, r4⟩
      rdis := h.rdis
      nest := fun k b hb => ⟨Nat.lt_of_lt_of_le (h.nest k b hb).1 hle, (h.nest k b hb).2⟩
      ndis := h.ndis }
  · refine ⟨h2, .inl (Nat.le_trans h.base.size h1), fun hf => absurd (h.flt b hf) (by omega), fun k hk => absurd (h.nest k b hk).1 (by omega), fun k o' off hk hl => ?_⟩
    by_cases hf : o'.st = .fz
    · cases h.objs k o' hk with
      | null h1 => rw [hl] at h1; cases h1
      | row b' off' cs ee fr xs h1' _ _ _ _ _ _ hF =>
        rw [hl] at h1'; cases h1'
        exact absurd (h.flt b (hF hf)) (by omega)
    · exact absurd (h.root k o' b off hk hl hf).1 (by omega)

/-- With one object more, at a place of its own. -/
def Gh.at (G : Gh) (id : Nat) (l : Option (Nat × Nat)) (L : Set') : Gh := { G with loc := fun k => if k = id then l else G.loc k, N := fun k => if k = id then L else G.N k }

theorem free_look (h : σ.free id = true) : look σ.objs id = none := by
  simp only [St.free] at h
  cases hk : look σ.objs id with
  | none => rfl
  | some y => simp [hk] at h

/-- A new object. -/
theorem Inv.make (h : Inv w0 S0 F0 G σ tm w) (hfree : σ.free id = true) {l : Option (Nat × Nat)} {L : Set'} (hL : ∀ b, L b → Loose w0 S0 G σ w b)
    (hl : ∀ b off, l = some (b, off) → o.st ≠ .fz → Loose w0 S0 G σ w b ∧ ¬ L b)
    (ho : Step w G (look σ.objs) w (G.at id l L) (look (σ.putO id (some o)).objs) → ObjOk w (G.at id l L) (look (σ.putO id (some o)).objs) id o) :
    Inv w0 S0 F0 (G.at id l L) (σ.putO id (some o)) tm w := by
  have hfr := free_look hfree
  have hlk : ∀ k o', look (σ.putO id (some o)).objs k = some (some o') → (k = id ∧ o' = o) ∨ (k ≠ id ∧ look σ.objs k = some (some o')) := fun k o' hk => by
    rw [look_putO] at hk
    by_cases e : id = k
    · simp [e] at hk; exact .inl ⟨e.symm, hk.symm⟩
    · simp [e] at hk; exact .inr ⟨fun h => e h.symm, hk⟩
  have hN : ∀ k b, k ≠ id → (G.at id l L).N k b = G.N k b := fun k b e => by simp [Gh.at, e]
  have hNi : ∀ b, (G.at id l L).N id b = L b := fun b => by simp [Gh.at]
  have hl1 : ∀ k, k ≠ id → (G.at id l L).loc k = G.loc k := fun k e => by simp [Gh.at, e]
  have hli : (G.at id l L).loc id = l := by simp [Gh.at]
  have hs : Step w G (look σ.objs) w (G.at id l L) (look (σ.putO id (some o)).objs) :=
    ⟨.refl w, fun _ h => h, fun k hk => by rw [look_putO]; split <;> simp [hk], fun _ _ => rfl, fun _ _ _ _ _ _ _ _ => rfl, fun k o' hk hd => by
      rcases hlk k o' hk with ⟨e, _⟩ | ⟨e, hk'⟩
      · rw [e] at hd; exact absurd hfr hd
      · exact ⟨o', hk', rfl, rfl, rfl, hl1 k e, Nat.le_refl _, fun _ => ⟨fun b hb => .inr (by rw [hN k b e]; exact hb), fun _ => .refl⟩⟩⟩
  exact {
    base := h.base, fsub := h.fsub, fmine := h.fmine, flt := h.flt
    tmps := fun t => (h.tmps t).step hs
    keep := fun p hp => (h.keep p hp).step hs
    objs := fun k o' hk => by
      rcases hlk k o' hk with ⟨rfl, rfl⟩ | ⟨e, hk'⟩
      · exact ho hs
      · exact (h.objs k o' hk').step hs (hl1 k e) (fun _ _ _ => rfl) (fun b hb => by rw [hN k b e]; exact hb) (fun _ _ => rfl)
    root := fun k o' b off hk hl' hf => by
      rcases hlk k o' hk with ⟨rfl, rfl⟩ | ⟨e, hk'⟩
      · rw [hli] at hl'
        obtain ⟨hL1, hL2⟩ := hl b off hl' hf
        refine ⟨hL1.lt, hL1.mine, hL1.nF, fun k' => ?_⟩
        by_cases e' : k' = k
        · rw [e', hNi]; exact hL2
        · rw [hN k' b e']; exact hL1.nN k'
      · rw [hl1 k e] at hl'
        obtain ⟨r1, r2, r3, r4⟩ := h.root k o' b off hk' hl' hf
        refine ⟨r1, r2, r3, fun k' => ?_⟩
        by_cases e' : k' = id
        · rw [e', hNi]; exact fun hb => (hL b hb).nR k o' off hk' hl'
        · rw [hN k' b e']; exact r4 k'
    rdis := fun k o' k' o'' b off off' hk hk' hl' hl'' hf => by
      rcases hlk k o' hk with ⟨rfl, rfl⟩ | ⟨e, hk1⟩
      · rcases hlk k' o'' hk' with ⟨rfl, rfl⟩ | ⟨e', hk1'⟩
        · rfl
        · rw [hli] at hl'; rw [hl1 k' e'] at hl''
          exact ((hl b off hl' hf).1.nR k' o'' off' hk1' hl'').elim
      · rw [hl1 k e] at hl'
        rcases hlk k' o'' hk' with ⟨rfl, rfl⟩ | ⟨e', hk1'⟩
        · rw [hli] at hl''
          by_cases hf' : o''.st = .fz
          · have := ho hs
            cases this with
            | null h1 => rw [hli, hl''] at h1; cases h1
            | row b' off2 cs ee fr xs h1 _ _ _ _ _ _ hF =>
              rw [hli, hl''] at h1; cases h1
              exact ((h.root k o' b off hk1 hl' hf).2.2.1 (hF hf')).elim
          · exact ((hl b off' hl'' hf').1.nR k o' off hk1 hl').elim
        · rw [hl1 k' e'] at hl''
          exact h.rdis k o' k' o'' b off off' hk1 hk1' hl' hl'' hf
    nest := fun k b hb => by
      by_cases e : k = id
      · rw [e, hNi] at hb; exact ⟨(hL b hb).lt, (hL b hb).mine, (hL b hb).nF⟩
      · rw [hN k b e] at hb; exact h.nest k b hb
    ndis := fun k k' b hb hb' => by
      by_cases e : k = id
      · by_cases e' : k' = id
        · rw [e, e']
        · rw [e, hNi] at hb; rw [hN k' b e'] at hb'
          exact ((hL b hb).nN k' hb').elim
      · rw [hN k b e] at hb
        by_cases e' : k' = id
        · rw [e', hNi] at hb'; exact ((hL b hb').nN k hb).elim
        · rw [hN k' b e'] at hb'; exact h.ndis k k' b hb hb' }
end Go.Vk
end

section
namespace Go.Vk
open Go
set_option linter.unusedVariables false
variable {w w' w0 : World} {S0 : SS} {F0 : Set'} {G G' : Gh} {ob ob' : Ob} {v : V} {x : Value} {σ σ' : St} {tm : Array Value} {id : Nat} {o o' : VO}

theorem Inv.root' (h : Inv w0 S0 F0 G σ tm w) {k : Nat} {o' : VO} {b off : Nat} (hk : look σ.objs k = some (some o')) (hl : G.loc k = some (b, off)) : b < w.heap.size ∧ (o'.st = .fz → G.F b) := by
  by_cases hf : o'.st = .fz
  · cases h.objs k o' hk with
    | null h1 => rw [hl] at h1; cases h1
    | row b' off' cs ee fr xs h1 _ _ _ _ _ _ hF =>
      rw [hl] at h1; cases h1
      exact ⟨h.flt b (hF hf), hF⟩
  · exact ⟨(h.root k o' b off hk hl hf).1, fun e => absurd e hf⟩

/-- An object is changed where it lies. -/
theorem Inv.upd (h : Inv w0 S0 F0 G σ tm w) (hid : look σ.objs id = some (some o)) (hbase : Base w0 S0 w') (hle : w.heap.size ≤ w'.heap.size)
    (hw : ∀ b, b < w.heap.size → (∀ off, G.loc id = some (b, off) → o.st = .fz) → w'.heap[b]? = w.heap[b]?)
    (hs : Step w G (look σ.objs) w' G' (look (σ.putO id (some o')).objs)) (hloc : ∀ k, G'.loc k = G.loc k) (hN : ∀ k b, k ≠ id → (G'.N k b ↔ G.N k b))
    (hNi : ∀ b, G'.N id b → G.N id b ∨ Loose w0 S0 G σ w b)
    (hF : ∀ b, G'.F b → G.F b ∨ ((G.N id b ∨ ∃ off, G.loc id = some (b, off) ∧ o.st ≠ .fz ∧ o'.st = .fz) ∧ ¬ G'.N id b))
    (hst : o.st = .fz → o'.st = .fz)
    (ho : ObjOk w' G' (look (σ.putO id (some o')).objs) id o') :
    Inv w0 S0 F0 G' (σ.putO id (some o')) tm w' := by
  have hlk : ∀ k o2, look (σ.putO id (some o')).objs k = some (some o2) → (k = id ∧ o2 = o') ∨ (k ≠ id ∧ look σ.objs k = some (some o2)) := fun k o2 hk => by
    rw [look_putO] at hk
    by_cases e : id = k
    · simp [e] at hk; exact .inl ⟨e.symm, hk.symm⟩
    · simp [e] at hk; exact .inr ⟨fun h => e h.symm, hk⟩
  have hnew : ∀ b, G'.F b → ¬ G.F b → b < w.heap.size ∧ Mine w0 S0 b ∧ (∀ k, k ≠ id → ¬ G.N k b) ∧ (∀ k o2 off, k ≠ id → look σ.objs k = some (some o2) → G.loc k = some (b, off) → o2.st ≠ .fz → False) := fun b hb hn => by
    rcases hF b hb with h1 | ⟨h1 | ⟨off, h1, h2, h3⟩, h4⟩
    · exact absurd h1 hn
    · exact ⟨(h.nest id b h1).1, (h.nest id b h1).2.1, fun k e hk => e (h.ndis k id b hk h1), fun k o2 off e hk hl hf => (h.root k o2 b off hk hl hf).2.2.2 id h1⟩
    · obtain ⟨r1, r2, r3, r4⟩ := h.root id o b off hid h1 h2
      exact ⟨r1, r2, fun k e => r4 k, fun k o2 off' e hk hl hf => e (h.rdis k o2 id o b off' off hk hid hl h1 hf)⟩
  exact {
    base := hbase, fsub := fun b hb => hs.F b (h.fsub b hb)
    fmine := fun b hb => by
      by_cases hf : G.F b
      · exact h.fmine b hf
      · exact .inr (hnew b hb hf).2.1
    flt := fun b hb => by
      by_cases hf : G.F b
      · exact Nat.lt_of_lt_of_le (h.flt b hf) hle
      · exact Nat.lt_of_lt_of_le (hnew b hb hf).1 hle
    tmps := fun t => (h.tmps t).step hs
    keep := fun p hp => (h.keep p hp).step hs
    objs := fun k o2 hk => by
      rcases hlk k o2 hk with ⟨rfl, rfl⟩ | ⟨e, hk'⟩
      · exact ho
      · refine (h.objs k o2 hk').step hs (hloc k) (fun b off hl => hw b (h.root' hk' hl).1 fun off' hl' => ?_) (fun b hb => (hN k b e).2 hb) (fun b hb => hs.wN k b o2 o2 hb hk' hk rfl)
        by_cases hf : o.st = .fz
        · exact hf
        · exact absurd (h.rdis id o k o2 b off' off hid hk' hl' hl hf) (fun h => e h.symm)
    root := fun k o2 b off hk hl hf => by
      rw [hloc] at hl
      rcases hlk k o2 hk with ⟨rfl, rfl⟩ | ⟨e, hk'⟩
      · have hf' : o.st ≠ .fz := fun e => hf (hst e)
        obtain ⟨r1, r2, r3, r4⟩ := h.root k o b off hid hl hf'
        refine ⟨Nat.lt_of_lt_of_le r1 hle, r2, fun hb => ?_, fun k' hk' => ?_⟩
        · rcases hF b hb with h1 | ⟨h1 | ⟨off', h1, h2, h3⟩, h4⟩
          · exact r3 h1
          · exact r4 k h1
          · exact hf h3
        · by_cases e : k' = k
          · subst e
            rcases hNi b hk' with h1 | h1
            · exact r4 k' h1
            · exact h1.nR k' o off hid hl
          · exact r4 k' ((hN k' b e).1 hk')
      · obtain ⟨r1, r2, r3, r4⟩ := h.root k o2 b off hk' hl hf
        refine ⟨Nat.lt_of_lt_of_le r1 hle, r2, fun hb => ?_, fun k' hk2 => ?_⟩
        · exact (hnew b hb r3).2.2.2 k o2 off e hk' hl hf
        · by_cases e' : k' = id
          · subst e'
            rcases hNi b hk2 with h1 | h1
            · exact r4 k' h1
            · exact h1.nR k o2 off hk' hl
          · exact r4 k' ((hN k' b e').1 hk2)
    rdis := fun k o2 k' o3 b off off' hk hk' hl hl' hf => by
      rw [hloc] at hl hl'
      rcases hlk k o2 hk with ⟨rfl, rfl⟩ | ⟨e, hk1⟩
      · have hf' : o.st ≠ .fz := fun e => hf (hst e)
        rcases hlk k' o3 hk' with ⟨rfl, rfl⟩ | ⟨e', hk1'⟩
        · rfl
        · exact h.rdis k o k' o3 b off off' hid hk1' hl hl' hf'
      · rcases hlk k' o3 hk' with ⟨rfl, rfl⟩ | ⟨e', hk1'⟩
        · exact h.rdis k o2 k' o b off off' hk1 hid hl hl' hf
        · exact h.rdis k o2 k' o3 b off off' hk1 hk1' hl hl' hf
    nest := fun k b hb => by
      by_cases e : k = id
      · subst e
        rcases hNi b hb with h1 | h1
        · obtain ⟨n1, n2, n3⟩ := h.nest k b h1
          refine ⟨Nat.lt_of_lt_of_le n1 hle, n2, fun hf => ?_⟩
          rcases hF b hf with h2 | ⟨_, h4⟩
          · exact n3 h2
          · exact h4 hb
        · refine ⟨Nat.lt_of_lt_of_le h1.lt hle, h1.mine, fun hf => ?_⟩
          rcases hF b hf with h2 | ⟨_, h4⟩
          · exact h1.nF h2
          · exact h4 hb
      · have hb' := (hN k b e).1 hb
        obtain ⟨n1, n2, n3⟩ := h.nest k b hb'
        exact ⟨Nat.lt_of_lt_of_le n1 hle, n2, fun hf => (hnew b hf n3).2.2.1 k e hb'⟩
    ndis := fun k k' b hb hb' => by
      by_cases e : k = id
      · by_cases e' : k' = id
        · rw [e, e']
        · subst e
          have h2 := (hN k' b e').1 hb'
          rcases hNi b hb with h1 | h1
          · exact h.ndis k k' b h1 h2
          · exact (h1.nN k' h2).elim
      · have h1 := (hN k b e).1 hb
        by_cases e' : k' = id
        · subst e'
          rcases hNi b hb' with h2 | h2
          · exact h.ndis k k' b h1 h2
          · exact (h2.nN k h1).elim
        · exact h.ndis k k' b h1 ((hN k' b e').1 hb') }

/-- An object's parts are shared from now on ('sh'), or the object itself ('fz'). -/
def Gh.down (G : Gh) (id : Nat) (fz : Bool) : Gh :=
  { F := fun b => G.F b ∨ G.N id b ∨ (fz = true ∧ ∃ off, G.loc id = some (b, off)), loc := G.loc, N := fun k => if k = id then none' else G.N k }

theorem Own.le_sh_ne {s : Own} : s ≠ .dp → s.le .sh = s := by cases s <;> simp [Own.le]

/-- The object with its ownership lessened. -/
def VO.low (o : VO) (fz : Bool) : VO := ⟨o.box, bif fz then .fz else o.st.le .sh, o.sz, o.fl, o.n, o.get, o.ver⟩

theorem Inv.down (h : Inv w0 S0 F0 G σ tm w) (hid : look σ.objs id = some (some o)) (fz : Bool) : Inv w0 S0 F0 (G.down id fz) (σ.putO id (some (o.low fz))) tm w := by
  have hs : Step w G (look σ.objs) w (G.down id fz) (look (σ.putO id (some (o.low fz))).objs) :=
    ⟨.refl w, fun _ h => .inl h, fun k hk => by rw [look_putO]; split <;> simp [hk], fun _ _ => rfl, fun _ _ _ _ _ _ _ _ => rfl, fun k o' hk hd => by
      rw [look_putO] at hk
      by_cases e : id = k
      · subst e; simp at hk; subst hk
        exact ⟨o, hid, rfl, rfl, rfl, rfl, Nat.le_refl _, fun _ => ⟨fun b hb => .inl (.inr (.inl hb)), fun _ => .refl⟩⟩
      · simp [e] at hk
        exact ⟨o', hk, rfl, rfl, rfl, rfl, Nat.le_refl _, fun _ => ⟨fun b hb => .inr (by have e' : k ≠ id := fun h => e h.symm; simp only [Gh.down, if_neg e']; exact hb), fun _ => .refl⟩⟩⟩
  have hne : ∀ b, ¬ (G.down id fz).N id b := fun b hb => by simp [Gh.down, none'] at hb
  refine h.upd (o := o) hid h.base (Nat.le_refl _) (fun _ _ _ => rfl) hs (fun _ => rfl) (fun k b e => by simp [Gh.down, e]) (fun b hb => (hne b hb).elim) (fun b hb => ?_) (fun e => by cases fz <;> simp [VO.low, e, Own.le]) ?_
  · rcases hb with hb | hb | ⟨rfl, off, hb⟩
    · exact .inl hb
    · exact .inr ⟨.inl hb, hne b⟩
    · by_cases hf : o.st = .fz
      · exact .inl ((h.root' hid hb).2 hf)
      · exact .inr ⟨.inr ⟨off, hb, hf, by simp [VO.low]⟩, hne b⟩
  · cases h.objs id o hid with
    | null h1 h2 h3 => exact .null h1 h2 h3
    | row b off cs e fr xs h1 hb hsz hlen hxs hfl hp hF hc =>
      refine .row b off cs e fr xs h1 hb hsz hlen hxs hfl (fun hf => hp fun e => hf (by cases fz <;> simp [VO.low, e, Own.le])) (fun hf => ?_) ?_
      · cases fz with
        | true => exact .inr (.inr ⟨rfl, off, h1⟩)
        | false =>
          refine .inl (hF ?_)
          cases hst : o.st <;> simp [VO.low, hst, Own.le] at hf ⊢
      · unfold CellsOk at hc ⊢
        cases hbx : o.box with
        | true => rw [hbx] at hc; have hbl : (o.low fz).box = true := hbx; rw [hbl]; exact ⟨hc.1, fun j hj => (hc.2 j hj).step hs⟩
        | false =>
          rw [hbx] at hc
          have key : ∀ i j, i < o.n → j < o.sz → Rep w (G.down id fz).F false (cellAt (o.get i) j) (xs i j) none' := by
            cases hst : o.st with
            | dp =>
              rw [hst] at hc
              obtain ⟨Sr, k1, k2, k3⟩ := hc
              exact fun i j hi hj => (k1 i j hi hj).frozen (fun b hb => .inl hb) (fun b hb => .inr (.inl (k2 i j b hi hj hb)))
            | sh => rw [hst] at hc; exact fun i j hi hj => (hc i j hi hj).mono fun b hb => .inl hb
            | fz => rw [hst] at hc; exact fun i j hi hj => (hc i j hi hj).mono fun b hb => .inl hb
          have hst : (o.low fz).st = .sh ∨ (o.low fz).st = .fz := by
            cases fz
            · cases hst : o.st <;> simp [VO.low, hst, Own.le]
            · right; rfl
          have hbl : (o.low fz).box = false := hbx
          rw [hbl]
          rcases hst with hst | hst <;> (rw [hst]; exact key)
end Go.Vk
end

section
namespace Go.Vk
open Go
set_option linter.unusedVariables false
set_option linter.unusedSimpArgs false
variable {w w' w0 : World} {S0 : SS} {F0 : Set'} {G G' : Gh} {ob ob' : Ob} {v : V} {x : Value} {σ σ' : St} {tm : Array Value} {id : Nat} {o o' : VO}

def aggB : TypeDesc → Bool
  | .struct _ | .array _ _ => true
  | _ => false

def zeroOk1 : V → Value → Bool
  | .int k n, .int k' n' => decide (k = k') && decide (n = n')
  | .bool b, .bool b' => b == b'
  | .str s, .string s' => decide (s = s')
  | .nilp, .pointer none => true
  | .nilf, .nilFunc => true
  | .nili, .nilIface => true
  | .sl _ _ (some 0) none 0 _, .slice none 0 0 => true
  | .sl _ _ none none 0 _, .slice none 0 0 => true
  | _, _ => false

def zeroOk : List V → List Value → Bool
  | [], [] => true
  | z :: zs, c :: cs => zeroOk1 z c && zeroOk zs cs
  | _, _ => false

theorem zeroOk1_rep {z : V} {c : Value} (h : zeroOk1 z c = true) (m : Bool) (w : World) (F S : Set') : Rep w F m z c S := by
  unfold zeroOk1 at h
  split at h
  · simp at h; obtain ⟨rfl, rfl⟩ := h; constructor
  · simp at h; subst h; constructor
  · simp at h; subst h; constructor
  · constructor
  · constructor
  · constructor
  · exact .nul _ _ _ _ _ _ _ _ (.inr rfl)
  · exact .nul _ _ _ _ _ _ _ _ (.inl rfl)
  · cases h

theorem zeroOk_len : ∀ {zs : List V} {cs : List Value}, zeroOk zs cs = true → zs.length = cs.length
  | [], [], _ => rfl
  | _ :: _, _ :: _, h => by simp [zeroOk] at h; simp [zeroOk_len h.2]

theorem zeroOk_at : ∀ {zs : List V} {cs : List Value}, zeroOk zs cs = true → ∀ i, i < zs.length → ∃ c, cs[i]? = some c ∧ zeroOk1 (cellAt zs i) c = true
  | z :: zs, c :: cs, h, 0, _ => by simp [zeroOk] at h; exact ⟨c, by simp, by simpa [cellAt] using h.1⟩
  | z :: zs, c :: cs, h, i + 1, hi => by
    simp [zeroOk] at h
    obtain ⟨c', h1, h2⟩ := zeroOk_at h.2 i (by simpa using hi)
    exact ⟨c', by simpa using h1, by simpa [cellAt] using h2⟩

/-- What a type's row tells is so. -/
structure TOk (P : Program) (t : Nat) (ti : TI) (i : TypeInfo) (d : TypeDesc) : Prop where
  info : P.info? t = some i
  und : P.underlying t = some d
  size : i.size = ti.size
  pos : 0 < ti.size
  agg : ti.agg = aggB d
  zero : ∃ z, i.zero = some z ∧ zeroOk ti.zero z.cells.toList = true ∧ ti.zero.length = ti.size
  elem : 0 < ti.esz → ∃ (e : Nat) (ie : TypeInfo) (ze : Value), d = .slice e ∧ P.info? e = some ie ∧ ie.size = ti.esz ∧ ie.bytes = ti.ebytes ∧ ie.zero = some ze ∧ zeroOk ti.ezero ze.cells.toList = true ∧ ti.ezero.length = ti.esz
  slice : ∀ e, d = TypeDesc.slice e → 0 < ti.esz
  arr : ∀ n sz, ti.arr = some (n, sz) → ∃ (e : Nat) (ie : TypeInfo), d = .array n e ∧ P.info? e = some ie ∧ ie.size = sz ∧ 0 < sz
  field : ∀ (f off sz : Nat) (a : Bool), ti.offs[f]? = some (off, sz, a) → ∃ (fs : Array Field) (fl : Field) (fi : TypeInfo) (fd : TypeDesc), d = .struct fs ∧ fs[f]? = some fl ∧ fl.offset = off ∧ P.info? fl.type = some fi ∧ fi.size = sz ∧ 0 < sz ∧ P.underlying fl.type = some fd ∧ a = aggB fd
  fields : ∀ fs : Array Field, d = .struct fs → fs.size = ti.offs.length
  kind : ∀ kk, ti.kind = some kk → d = .int kk
  str : ti.isStr = true → d = .string
  bool : ti.isB = true → d = .bool
  eqf : ∀ ks, ti.eqf = some ks → ∀ (cs ds : List V) (xs ys : Array Value) (r : Bool), kindsOk ks cs = true → kindsOk ks ds = true → xs.size = cs.length → ys.size = ds.length → eqlCells cs ds = some r →
    (∀ j, j < cs.length → ∃ (W : World) (F : Set'), Rep W F false (cellAt cs j) (xs.getD j default) none') → (∀ j, j < ds.length → ∃ (W : World) (F : Set'), Rep W F false (cellAt ds j) (ys.getD j default) none') →
    ∀ w : World, P.eqGuardType P.depth t = false ∧ (Op.equal t (.agg xs) (.agg ys)).run P w = .ok r w

structure EnvOk (E : Env) : Prop where
  T : ∀ t, (E.T t).ok = true → ∃ i d, TOk E.P t (E.T t) i d
  mixed : E.P.follows .mixedOrders = true

/-- What holds when a call begins. -/
structure Pre (E : Env) (w0 : World) (S0 : SS) (F0 : Set') : Prop where
  F0lt : ∀ b, F0 b → b < w0.heap.size
  dis : ∀ b, F0 b → ¬ S0 b
  S0lt : ∀ b, S0 b → b < w0.heap.size
  glob : ∀ g row, E.G g = some row → Rep w0 F0 false (.pv none row 0) (.pointer (some ⟨g, 0, none⟩)) none'

theorem ofConst_rep (ti : TI) (c : Value) (w : World) (G : Gh) (ob : Ob) : RepT w G ob (ofConst ti c) c := by
  unfold ofConst
  split <;> first | exact .dead _ | exact .val _ _ (.nul _ _ _ _ _ _ _ _ (.inr rfl)) | exact .val _ _ (by constructor)

theorem ev_ok {E : Env} (hp : Pre E w0 S0 F0) (h : Inv w0 S0 F0 G σ tm w) (ty : Nat) (x : Operand) : RepT w G (look σ.objs) (E.ev σ ty x) (Act.eval ⟨tm, []⟩ x) := by
  cases x with
  | tmp t => exact h.tmps t
  | const c => exact ofConst_rep _ _ _ _ _
  | global g =>
    show RepT w G _ (match E.G g with | some row => V.pv none row 0 | none => V.dead) _
    cases hg : E.G g with
    | none => exact .dead _
    | some row =>
      refine .val _ _ (((hp.glob g row hg).world fun b hb => ?_).mono h.fsub)
      have hF : F0 b := hb.elim (fun h => h.elim) (fun h => h)
      exact h.base.block b (hp.F0lt b hF) (hp.dis b hF)
  | func f => exact .val _ _ (.fn _ _ _ _ rfl fun i hi => absurd hi (by simp))

/-- How an operation that yields a value ends. -/
theorem wp_val {P : Program} {op : Oper} {next : Act → World → Prop} {Q : Exit → Act → World → Prop}
    (hrun : (execOp (Act.eval ⟨tm, []⟩) op).run P w = .ok (.value x) w') (h : next ⟨putT tm op.dst x, []⟩ w') : op.wp P ⟨tm, []⟩ w next Q := by
  unfold Oper.wp
  rw [hrun]
  show next (Act.put ⟨tm, []⟩ op.dst x) w'
  unfold Act.put putT at *
  revert h
  cases op.dst <;> exact fun h => h

theorem wp_skip' {P : Program} {op : Oper} {next : Act → World → Prop} {Q : Exit → Act → World → Prop}
    (hrun : (execOp (Act.eval ⟨tm, []⟩) op).run P w = .ok .skip w') (h : next ⟨putT tm op.dst undef, []⟩ w') : op.wp P ⟨tm, []⟩ w next Q := by
  unfold Oper.wp
  rw [hrun]
  show next (Act.put ⟨tm, []⟩ op.dst undef) w'
  unfold Act.put putT at *
  revert h
  cases op.dst <;> exact fun h => h

section
variable {R : Type} {r : R} {k : V → Option R}

theorem RepT.int_inv {kk : IntKind} {n : Int} (h : RepT w G ob (.int kk n) x) : x = .int kk n := by cases h with | val _ _ h => cases h; rfl
theorem RepT.bool_inv {b : Bool} (h : RepT w G ob (.bool b) x) : x = .bool b := by cases h with | val _ _ h => cases h; rfl
theorem RepT.str_inv {s : ByteArray} (h : RepT w G ob (.str s) x) : x = .string s := by cases h with | val _ _ h => cases h; rfl
theorem RepT.agg_inv {cs : List V} (h : RepT w G ob (.agg cs) x) : ∃ xs, x = .agg xs ∧ cs.length = xs.size ∧ ∀ i, i < cs.length → RepT w G ob (cellAt cs i) (xs.getD i default) := by
  cases h with
  | val _ _ h => cases h
  | agg _ xs hl hc => exact ⟨xs, rfl, hl, hc⟩
theorem RepT.tup_inv {cs : List V} (h : RepT w G ob (.tup cs) x) : ∃ xs, x = .tuple xs ∧ cs.length = xs.size ∧ ∀ i, i < cs.length → RepT w G ob (cellAt cs i) (xs.getD i default) := by
  cases h with
  | val _ _ h => cases h
  | tup _ xs hl hc => exact ⟨xs, rfl, hl, hc⟩
theorem RepT.fn_inv {f : FuncId} {cs : List V} (h : RepT w G ob (.fn f cs) x) : ∃ xs, x = .func (.func f) #[] xs ∧ cs.length = xs.size ∧ ∀ i, i < cs.length → RepT w G ob (cellAt cs i) (xs.getD i default) := by
  cases h with
  | val _ _ h => cases h with | fn _ _ xs _ hl hc => exact ⟨xs, rfl, hl, fun i hi => .val _ _ (hc i hi)⟩
  | fn _ _ xs hl hc => exact ⟨xs, rfl, hl, hc⟩

theorem RepT.leaf {m : Bool} {F S : Set'} (h : RepT w G ob v x) (hl : v.leaf = true) : Rep w' F m v x S := by
  cases h with
  | val _ _ h => exact h.leaf hl
  | _ => simp [V.leaf] at hl

theorem eqlCells_leaf : ∀ {as bs : List V} {r : Bool}, eqlCells as bs = some r → (∀ i, i < as.length → (cellAt as i).leaf = true) ∧ (∀ i, i < bs.length → (cellAt bs i).leaf = true)
  | [], [], _, _ => ⟨fun i hi => absurd hi (by simp), fun i hi => absurd hi (by simp)⟩
  | a :: as, b :: bs, r, h => by
    simp only [eqlCells] at h
    cases hr : eqlCells as bs with
    | none => rw [hr] at h; simp at h
    | some q =>
      rw [hr] at h
      obtain ⟨i1, i2⟩ := eqlCells_leaf hr
      have hab : a.leaf = true ∧ b.leaf = true := by
        simp only at h
        split at h <;> first | exact ⟨rfl, rfl⟩ | cases h
      exact ⟨fun i hi => match i with | 0 => hab.1 | i + 1 => i1 i (by simpa using hi), fun i hi => match i with | 0 => hab.2 | i + 1 => i2 i (by simpa using hi)⟩
  | [], _ :: _, _, h => by simp [eqlCells] at h
  | _ :: _, [], _, h => by simp [eqlCells] at h

theorem kn_inj {a b : IntKind} (h : Nat.beq (kn a) (kn b) = true) : a = b := by
  cases a <;> cases b <;> first | rfl | (simp [kn] at h)

theorem intC_sound {op : BinOp} {a b : V} {xa xb : Value} {P : Program} {t : Nat} {xo yo : Operand} (h : binC op a b k = some r) (ha : RepT w G ob a xa) (hb : RepT w G ob b xb) :
    ∃ v xv, k v = some r ∧ RepT w G ob v xv ∧ (do eqGuard op t xo yo xa xb; binOp op t xa xb : Sem Value).run P w = .ok xv w := by
  unfold binC at h
  split at h
  · rename_i kk a kb b
    have e1 := ha.int_inv; have e2 := hb.int_inv
    subst e1 e2
    split at h
    · split at h
      · cases h
      · rename_i hn
        exact ⟨_, _, h, .val _ _ (.int _ _ _ _), by simp [eqGuard, binOp, Op.shift, hn]⟩
    · split at h
      · cases h
      · rename_i hn
        exact ⟨_, _, h, .val _ _ (.int _ _ _ _), by simp [eqGuard, binOp, Op.shift, hn]⟩
    · rename_i hs1 hs2
      cases hk : Nat.beq (kn kk) (kn kb) with
      | false => rw [hk] at h; simp at h
      | true =>
        rw [hk] at h
        have := kn_inj hk
        subst this
        simp only [Bool.not_true, cond_false] at h
        split at h <;> first
          | (exact ⟨_, _, h, .val _ _ (.int _ _ _ _), by simp [eqGuard, binOp, Op.intArith, Op.intBits]⟩)
          | (exact ⟨_, _, h, .val _ _ (.bool _ _ _), by simp [eqGuard, binOp, Op.intCmp]⟩)
          | (split at h
             · cases h
             · rename_i hz; exact ⟨_, _, h, .val _ _ (.int _ _ _ _), by simp [eqGuard, binOp, Op.intDiv, hz]⟩)
          | cases h
  · cases h

theorem run_und {P : Program} {t : Nat} {d : TypeDesc} (h : P.underlying t = some d) (w : World) : (underlying t).run P w = .ok d w := Go.run_underlying h w

theorem eq_bool {P : Program} {t : Nat} (hu : P.underlying t = some .bool) (a b : Bool) (w : World) : (Op.equal t (.bool a) (.bool b)).run P w = .ok (a == b) w := by
  unfold Op.equal
  show (Op.equalIn (9999 + 1) t (.bool a) (.bool b)).run P w = _
  rw [Op.equalIn]
  simp [run_und hu]
theorem eqG_bool (t : Nat) (xo yo : Operand) (a b : Bool) (P : Program) (w : World) : (eqGuard .eql t xo yo (.bool a) (.bool b)).run P w = .ok () w := rfl
theorem eqG_bool' (t : Nat) (xo yo : Operand) (a b : Bool) (P : Program) (w : World) : (eqGuard .neq t xo yo (.bool a) (.bool b)).run P w = .ok () w := rfl
theorem bin_eq_bool (t : Nat) (a b : Bool) : binOp .eql t (.bool a) (.bool b) = (do pure (.bool (← Op.equal t (.bool a) (.bool b)))) := rfl
theorem bin_ne_bool (t : Nat) (a b : Bool) : binOp .neq t (.bool a) (.bool b) = (do pure (.bool (!(← Op.equal t (.bool a) (.bool b))))) := rfl
theorem bin_eq_agg (t : Nat) (a b : Array Value) : binOp .eql t (.agg a) (.agg b) = (do pure (.bool (← Op.equal t (.agg a) (.agg b)))) := rfl
theorem bin_ne_agg (t : Nat) (a b : Array Value) : binOp .neq t (.agg a) (.agg b) = (do pure (.bool (!(← Op.equal t (.agg a) (.agg b))))) := rfl
theorem eqG_agg {P : Program} {t : Nat} (h : P.eqGuardType P.depth t = false) (op : BinOp) (hop : op = .eql ∨ op = .neq) (xo yo : Operand) (a b : Array Value) (w : World) : (eqGuard op t xo yo (.agg a) (.agg b)).run P w = .ok () w := by
  rcases hop with rfl | rfl <;> simp [eqGuard, h]

theorem binX_sound {E : Env} (hE : EnvOk E) {op : BinOp} {a b : V} {xa xb : Value} {t : Nat} {xo yo : Operand} (h : binX (E.T t) op a b k = some r) (ha : RepT w G ob a xa) (hb : RepT w G ob b xb) :
    ∃ v xv, k v = some r ∧ RepT w G ob v xv ∧ (do eqGuard op t xo yo xa xb; binOp op t xa xb : Sem Value).run E.P w = .ok xv w := by
  unfold binX at h
  split at h
  · rename_i a b
    have e1 := ha.str_inv; have e2 := hb.str_inv
    subst e1 e2
    unfold strC at h
    split at h
    · split at h
      · rename_i hle
        refine ⟨_, _, h, .val _ _ (.str _ _ _), ?_⟩
        have : ¬ ((a.size + b.size : Nat) : Int) > IntKind.i64.max := by
          have e : IntKind.i64.max = 9223372036854775807 := by decide
          rw [e]; simp [maxRow] at hle; omega
        simp only [eqGuard, binOp, Op.stringOp, if_neg this]; simp
      · cases h
    · exact ⟨_, _, h, .val _ _ (.bool _ _ _), by simp [eqGuard, binOp, Op.stringOp]⟩
    · exact ⟨_, _, h, .val _ _ (.bool _ _ _), by simp [eqGuard, binOp, Op.stringOp]⟩
    · exact ⟨_, _, h, .val _ _ (.bool _ _ _), by simp [eqGuard, binOp, Op.stringOp]⟩
    · cases h
  · rename_i a b
    have e1 := ha.bool_inv; have e2 := hb.bool_inv
    subst e1 e2
    cases hti : (E.T t).ok && (E.T t).isB with
    | false => rw [hti] at h; simp at h
    | true =>
      rw [hti] at h
      simp only [Bool.not_true, cond_false] at h
      simp only [Bool.and_eq_true] at hti
      obtain ⟨i, d, hT⟩ := hE.T t hti.1
      have hu := hT.und
      rw [hT.bool hti.2] at hu
      unfold boolC at h
      split at h
      · exact ⟨_, _, h, .val _ _ (.bool _ _ _), by rw [bin_eq_bool]; simp only [Sem.run_bind, eqG_bool, eq_bool hu, Result.andThen_ok, Sem.run_pure]⟩
      · exact ⟨_, _, h, .val _ _ (.bool _ _ _), by rw [bin_ne_bool]; simp only [Sem.run_bind, eqG_bool', eq_bool hu, Result.andThen_ok, Sem.run_pure]⟩
      · cases h
  · rename_i a b
    obtain ⟨xs, rfl, hl1, hc1⟩ := ha.agg_inv
    obtain ⟨ys, rfl, hl2, hc2⟩ := hb.agg_inv
    cases hef : (E.T t).eqf with
    | none => rw [hef] at h; simp at h
    | some ks =>
    rw [hef] at h
    simp only at h
    cases hti : (E.T t).ok && kindsOk ks a && kindsOk ks b && Nat.beq ks.length (E.T t).size with
    | false => rw [hti] at h; simp at h
    | true =>
      rw [hti] at h
      simp only [Bool.not_true, cond_false] at h
      simp only [Bool.and_eq_true] at hti
      obtain ⟨⟨⟨h1, h2⟩, h3⟩, h4⟩ := hti
      obtain ⟨i, d, hT⟩ := hE.T t h1
      cases he : eqlCells a b with
      | none => rw [he] at h; simp at h
      | some q =>
        rw [he] at h
        have key := hT.eqf ks hef a b xs ys q h2 h3 (by omega) (by omega) he
          (fun j hj => ⟨w, none', (hc1 j hj).leaf ((eqlCells_leaf he).1 j hj)⟩)
          (fun j hj => ⟨w, none', (hc2 j hj).leaf ((eqlCells_leaf he).2 j hj)⟩)
        simp only at h
        split at h
        · exact ⟨_, _, h, .val _ _ (.bool _ _ _), by rw [bin_eq_agg]; simp only [Sem.run_bind, eqG_agg (key w).1 _ (.inl rfl), (key w).2, Result.andThen_ok, Sem.run_pure]⟩
        · exact ⟨_, _, h, .val _ _ (.bool _ _ _), by rw [bin_ne_agg]; simp only [Sem.run_bind, eqG_agg (key w).1 _ (.inr rfl), (key w).2, Result.andThen_ok, Sem.run_pure]⟩
        · cases h
  · exact intC_sound h ha hb
end
end Go.Vk
end

section
namespace Go.Vk
open Go
set_option linter.unusedVariables false
set_option linter.unusedSimpArgs false
variable {w w' w0 : World} {S0 : SS} {F0 : Set'} {G G' : Gh} {ob ob' : Ob} {v : V} {x : Value} {σ σ' : St} {tm : Array Value} {id : Nat} {o o' : VO}

/-- What is to be shown of what comes after. -/
def Cont {R : Type} (w0 : World) (S0 : SS) (F0 : Set') (k : St → Option R) (r : R) (next : Act → World → Prop) (n : Nat) : Prop :=
  ∀ σ' G' tm' w', Inv w0 S0 F0 G' σ' tm' w' → tm'.size = n → k σ' = some r → next ⟨tm', []⟩ w'

section
variable {R : Type} {r : R} {k : V → Option R} {kσ : St → Option R} {P : Program} {op : Oper} {next : Act → World → Prop} {Q : Exit → Act → World → Prop}


theorem fin (hI : Inv w0 S0 F0 G σ tm w) (hv : RepT w G (look σ.objs) v x) (hd : dstIn tm.size op.dst = true) (hrun : (execOp (Act.eval ⟨tm, []⟩) op).run P w = .ok (.value x) w)
    (hk : kσ (σ.put op.dst v) = some r) (cont : Cont w0 S0 F0 kσ r next tm.size) : op.wp P ⟨tm, []⟩ w next Q :=
  wp_val hrun (cont _ _ _ _ (hI.put hv hd) (putT_size _ _) hk)

theorem unC_sound {u : UnOp} {a : V} {xa : Value} (h : unC u a k = some r) (ha : RepT w G ob a xa) : ∃ v xv, k v = some r ∧ RepT w G ob v xv ∧ (Op.unary u xa).run P w = .ok xv w := by
  unfold unC at h
  split at h
  · have := ha.bool_inv; subst this; exact ⟨_, _, h, .val _ _ (.bool _ _ _), rfl⟩
  · have := ha.int_inv; subst this; exact ⟨_, _, h, .val _ _ (.int _ _ _ _), rfl⟩
  · cases h

theorem pickC_sound {c a b : V} {xc xa xb : Value} (h : pickC c a b k = some r) (hc : RepT w G ob c xc) (ha : RepT w G ob a xa) (hb : RepT w G ob b xb) :
    ∃ v t, xc = .bool t ∧ k v = some r ∧ RepT w G ob v (if t then xa else xb) := by
  unfold pickC at h
  split at h
  · rename_i t
    have := hc.bool_inv; subst this
    split at h
    · have h1 := ha.bool_inv; have h2 := hb.bool_inv; subst h1 h2
      exact ⟨_, t, rfl, h, by cases t <;> exact .val _ _ (.bool _ _ _)⟩
    · cases t
      · exact ⟨_, false, rfl, h, by simpa using hb⟩
      · exact ⟨_, true, rfl, h, by simpa using ha⟩
  · cases h

theorem extractC_sound {i : Nat} {a : V} {xa : Value} (h : extractC a i k = some r) (ha : RepT w G ob a xa) : ∃ v xv, k v = some r ∧ RepT w G ob v xv ∧ (Instr.extract xa i).run P w = .ok xv w := by
  unfold extractC at h
  split at h
  · rename_i vs
    obtain ⟨xs, rfl, hl, hc⟩ := ha.tup_inv
    cases hb : Nat.blt i vs.length with
    | false => rw [hb] at h; simp at h
    | true =>
    rw [hb] at h
    simp only [cond_true] at h
    have hi : i < xs.size := by rw [← hl]; simpa using hb
    refine ⟨_, xs[i], h, ?_, by simp [Instr.extract, hi]⟩
    have := hc i (by omega)
    simpa [Array.getD, hi] using this
  · cases h

theorem RepT.one_cell (h : RepT w G ob v x) (h1 : v.one = true) : x.oneCell' = true ∧ x.cells = #[x] := by
  cases h with
  | val _ _ h => cases h <;> first | exact ⟨rfl, rfl⟩ | (rename_i hx; cases x <;> first | exact ⟨rfl, rfl⟩ | cases hx) | (simp [V.one] at h1)
  | view _ _ _ _ _ _ _ _ _ _ hx => obtain ⟨a, c, rfl, _⟩ := hx; exact ⟨rfl, rfl⟩
  | vpv A ver row j x hx => obtain ⟨b, q, rfl⟩ := hx; exact ⟨rfl, rfl⟩
  | ref id sub x hx => obtain ⟨a, l, c, rfl⟩ := hx; exact ⟨rfl, rfl⟩
  | adr id i j x hx => obtain ⟨b, q, rfl⟩ := hx; exact ⟨rfl, rfl⟩
  | dead => simp [V.one] at h1
  | ub => simp [V.one] at h1
  | agg => simp [V.one] at h1
  | tup => simp [V.one] at h1
  | fn => exact ⟨rfl, rfl⟩

/-- The cells of a value, one by one. -/
theorem RepT.cells (h : RepT w G ob v x) (h1 : v.cells.all V.one = true) : x.cells.size = v.cells.length ∧ ∀ i, i < v.cells.length → RepT w G ob (cellAt v.cells i) (x.cells.getD i default) ∧ (x.cells.getD i default).oneCell' = true := by
  have hall : ∀ i, i < v.cells.length → (cellAt v.cells i).one = true := fun i hi => by
    have := List.all_eq_true.1 h1 (v.cells[i]) (List.getElem_mem hi)
    simpa [cellAt, hi] using this
  by_cases hv : ∃ cs, v = .agg cs
  · obtain ⟨cs, rfl⟩ := hv
    obtain ⟨xs, rfl, hl, hc⟩ := h.agg_inv
    exact ⟨hl.symm, fun i hi => ⟨hc i hi, ((hc i hi).one_cell (hall i hi)).1⟩⟩
  · have hcs : v.cells = [v] := by cases v <;> first | rfl | exact absurd ⟨_, rfl⟩ hv
    rw [hcs] at hall ⊢
    have h0 := hall 0 (by simp)
    have hv1 : v.one = true := by simpa [cellAt] using h0
    obtain ⟨k1, k2⟩ := h.one_cell hv1
    rw [k2]
    exact ⟨rfl, fun i hi => by have : i = 0 := by simpa using hi
                               subst this; exact ⟨by simpa [cellAt, Array.getD] using h, by simpa [Array.getD] using k1⟩⟩

theorem addr_add (b off n : Nat) : (⟨b, off, none⟩ : Addr).add n = ⟨b, off + n, none⟩ := by
  unfold Addr.add; split <;> simp_all

theorem cell_at {b off : Nat} {cs : Array Value} {e : TypeId} {fr : Nat × Nat} (hb : w.heap[b]? = some (.cells cs e fr)) : w.cell? ⟨b, off, none⟩ = cs[off]? := by
  simp [World.cell?, hb]

theorem isAgg_run {t : Nat} {ti : TI} {i : TypeInfo} {d : TypeDesc} (hT : TOk P t ti i d) (w : World) : (isAgg t).run P w = .ok (aggB d) w := by
  unfold isAgg aggB
  simp only [Sem.run_bind, run_und hT.und, Result.andThen_ok]
  cases d <;> rfl

theorem sizeOf_run {t : Nat} {ti : TI} {i : TypeInfo} {d : TypeDesc} (hT : TOk P t ti i d) (w : World) : (sizeOf t).run P w = .ok ti.size w := by
  simp [Go.sizeOf, typeInfo, hT.info, hT.size]

theorem loadVar_run {t : Nat} {ti : TI} {i : TypeInfo} {d : TypeDesc} (hT : TOk P t ti i d) {b off : Nat} {xs : Nat → Value} (h : ∀ j, j < ti.size → w.cell? ⟨b, off + j, none⟩ = some (xs j)) :
    (loadVar t ⟨b, off, none⟩).run P w = .ok (if aggB d = true then .agg ((List.range ti.size).map xs).toArray else xs 0) w := by
  unfold loadVar
  simp only [Sem.run_bind, isAgg_run hT, Result.andThen_ok]
  by_cases ha : aggB d = true
  · simp only [ha, if_true, Sem.run_bind, sizeOf_run hT, Result.andThen_ok, run_loadCells w ⟨b, off, none⟩ ti.size xs (fun j hj => by rw [addr_add]; exact h j hj), Sem.run_pure]
  · have h0 := h 0 hT.pos
    simp only [Nat.add_zero] at h0
    simp [ha, h0]

/-- What a load yields, from the cells' values. -/
theorem mkVal_ok {t : Nat} {ti : TI} {i : TypeInfo} {d : TypeDesc} (hT : TOk P t ti i d) {cs : List V} {xs : Nat → Value} (hl : cs.length = ti.size) (hc : ∀ j, j < ti.size → RepT w G ob (cellAt cs j) (xs j)) :
    RepT w G ob (mkVal ti.agg cs) (if aggB d = true then .agg ((List.range ti.size).map xs).toArray else xs 0) := by
  rw [hT.agg]
  unfold mkVal
  cases ha : aggB d with
  | true =>
    simp only [cond_true, if_true]
    refine .agg _ _ (by simp [hl]) fun j hj => ?_
    have hj' : j < ti.size := by omega
    have := hc j hj'
    simpa [Array.getD, hj'] using this
  | false =>
    simp only [cond_false, Bool.false_eq_true, if_false]
    split
    · rename_i c
      have := hc 0 hT.pos
      simpa [cellAt] using this
    · exact .dead _

theorem cellAt_drop (cs : List V) (j n i : Nat) (hi : i < n) : cellAt ((cs.drop j).take n) i = cellAt cs (j + i) := by
  simp [cellAt, List.getElem?_take, hi, List.getElem?_drop]

theorem tagCells_len (f : Nat → Option (Nat × Nat × Nat × Nat)) : ∀ (j : Nat) (cs : List V), (tagCells f j cs).length = cs.length
  | _, [] => rfl
  | j, c :: cs => by simp [tagCells, tagCells_len f (j + 1) cs]

/-- One cell marked. -/
def tag1 (s : Option (Nat × Nat × Nat × Nat)) : V → V
  | .sl sz fl _ _ n g => .sl sz fl none s n g
  | .pv _ row q => .pv (src2 s) row q
  | c => c

theorem tagCells_at (f : Nat → Option (Nat × Nat × Nat × Nat)) : ∀ (j : Nat) (cs : List V) (i : Nat), i < cs.length → cellAt (tagCells f j cs) i = tag1 (f (j + i)) (cellAt cs i)
  | j, c :: cs, 0, _ => by simp only [tagCells, cellAt, List.getElem?_cons_zero, Nat.add_zero]; cases c <;> rfl
  | j, c :: cs, i + 1, hi => by
    have := tagCells_at f (j + 1) cs i (by simpa using hi)
    simp only [tagCells, cellAt, List.getElem?_cons_succ] at this ⊢
    rw [this]
    congr 2; omega

/-- A cell read from what is shared. -/
theorem tag_none {c : V} (h : Rep w G.F false c x none') : RepT w G ob (tag1 none c) x := by
  cases c with
  | sl sz fl cap src n g => exact .val _ _ h.retag
  | pv src row q => exact .val _ _ h.retagp
  | _ => exact .val _ _ h

theorem Rep.pointer {m : Bool} {F S : Set'} {src : Option (Nat × Nat)} {row : List V} {q : Nat} (h : Rep w F m (.pv src row q) x S) : ∃ b p, x = .pointer (some ⟨b, p, none⟩) := by
  cases h <;> exact ⟨_, _, rfl⟩

/-- A cell read from what lies below an object. -/
theorem tag_view {c : V} {A i j : Nat} {oA : VO} {S : Set'} (h : Rep w G.F true c x S) (hS : ∀ b, S b → G.N A b) (hl : ob A = some (some oA)) (hx : oA.box = false ∧ i < oA.n ∧ j < oA.sz ∧ Exact w (G.loc A) oA.sz i j x) : RepT w G ob (tag1 (some (A, oA.ver, i, j)) c) x := by
  have hN : ∀ c, Rep w G.F true c x S → Rep w (fun b => G.F b ∨ G.N A b) false c x none' := fun c h => h.frozen (fun b hb => .inl hb) (fun b hb => .inr (hS b hb))
  cases c with
  | sl sz fl cap src n g =>
    exact .view _ _ _ _ _ _ _ _ _ _ h.slice_len (by rw [hl]; simp) (fun o ho => by rw [hl] at ho; cases ho; exact Nat.le_refl _) (fun o ho hv => (hN _ h).retag) (fun o ho _ _ => by rw [hl] at ho; cases ho; exact hx)
  | pv src row q =>
    exact .vpv _ _ _ _ _ h.pointer (by rw [hl]; simp) (fun o ho => by rw [hl] at ho; cases ho; exact Nat.le_refl _) (fun o ho hv => (hN _ h).retagp)
  | fn f cs => cases h
  | agg cs => cases h
  | tup cs => cases h
  | ref id sub => cases h
  | adr id i j => cases h
  | dead => cases h
  | ub => cases h
  | hole => cases h; exact .val _ _ (.hole _ _ _ (by assumption))
  | _ => exact .val _ _ (h.leaf rfl)

/-- .. and from what was itself read from there. -/
theorem tag_view2 {c : V} {A ver i j : Nat} (hj : 256 ≤ j) (h : ∀ o, ob A = some (some o) → o.ver = ver → Rep w (fun b => G.F b ∨ G.N A b) false c x none') {oA : VO} (hl : ob A = some (some oA)) (hv : oA.ver = ver)
    (hc : c.leaf = true ∨ (∃ sz fl cap src n g, c = .sl sz fl cap src n g) ∨ (∃ src row q, c = .pv src row q) ∨ c = .dead) : RepT w G ob (tag1 (some (A, ver, i, j)) c) x := by
  have h0 := h oA hl hv
  rcases hc with hc | ⟨sz, fl, cap, src, n, g, rfl⟩ | ⟨src, row, q, rfl⟩ | rfl
  · cases c <;> first | exact .val _ _ (h0.leaf hc) | (simp [V.leaf] at hc)
  · exact .view _ _ _ _ _ _ _ _ _ _ h0.slice_len (by rw [hl]; simp) (fun o ho => by rw [hl] at ho; cases ho; omega) (fun o ho hv => (h o ho hv).retag) (fun o ho _ hlt => by omega)
  · exact .vpv _ _ _ _ _ h0.pointer (by rw [hl]; simp) (fun o ho => by rw [hl] at ho; cases ho; omega) (fun o ho hv => (h o ho hv).retagp)
  · cases h0
end
end Go.Vk
end

section
namespace Go.Vk
open Go
set_option linter.unusedVariables false
set_option linter.unusedSimpArgs false
variable {w w' w0 : World} {S0 : SS} {F0 : Set'} {G G' : Gh} {ob ob' : Ob} {v : V} {x : Value} {σ σ' : St} {tm : Array Value} {id : Nat} {o o' : VO}
variable {R : Type} {r : R} {k : V → Option R} {kσ : St → Option R} {E : Env}

theorem bif_some {b : Bool} {x : Option R} (h : (bif b then x else none) = some r) : b = true ∧ x = some r := by cases b <;> simp_all
theorem bif_none {b : Bool} {x : Option R} (h : (bif b then none else x) = some r) : b = false ∧ x = some r := by cases b <;> simp_all
theorem if_some {c : Prop} [Decidable c] {x : Option R} (h : (if c then x else none) = some r) : c ∧ x = some r := by
  by_cases hc : c <;> simp_all

theorem alive_some {A ver : Nat} (h : alive σ (some (A, ver)) = true) : ∃ o, look σ.objs A = some (some o) ∧ o.ver = ver := by
  simp only [alive] at h
  cases hA : σ.obj A with
  | none => rw [hA] at h; simp at h
  | some o => rw [hA] at h; exact ⟨o, obj_look.1 hA, Nat.eq_of_beq_eq_true h⟩

theorem viewOk_cases {c : V} (h : c.viewOk = true) : c.leaf = true ∨ (∃ sz fl cap src n g, c = .sl sz fl cap src n g) ∨ (∃ src row q, c = .pv src row q) ∨ c = .dead := by
  cases c <;> simp_all [V.viewOk, V.leaf]

theorem all_at {p : V → Bool} {cs : List V} (h : cs.all p = true) {i : Nat} (hi : i < cs.length) : p (cellAt cs i) = true := by
  have := List.all_eq_true.1 h (cs[i]) (List.getElem_mem hi)
  simpa [cellAt, hi] using this

theorem load_at {t : Nat} {i : TypeInfo} {d : TypeDesc} (hT : TOk E.P t (E.T t) i d) {b off : Nat} {cs : List V} {xs : Nat → Value} (hl : cs.length = (E.T t).size) (h : ∀ j, j < (E.T t).size → w.cell? ⟨b, off + j, none⟩ = some (xs j))
    (hc : ∀ j, j < (E.T t).size → RepT w G ob (cellAt cs j) (xs j)) (hk : k (mkVal (E.T t).agg cs) = some r) :
    ∃ v xv, k v = some r ∧ RepT w G ob v xv ∧ (Instr.loadAt t (.pointer (some ⟨b, off, none⟩))).run E.P w = .ok xv w :=
  ⟨_, _, hk, mkVal_ok hT hl hc, by simp [Instr.loadAt, Instr.sureAddr, loadVar_run hT h]⟩

theorem loadC_sound (hE : EnvOk E) (hI : Inv w0 S0 F0 G σ tm w) {t : Nat} {a : V} {xa : Value} (h : loadC E σ t a k = some r) (ha : RepT w G (look σ.objs) a xa) :
    ∃ v xv, k v = some r ∧ RepT w G (look σ.objs) v xv ∧ (Instr.loadAt t xa).run E.P w = .ok xv w := by
  unfold loadC at h
  split at h
  · rename_i src row j
    obtain ⟨hb, h⟩ := bif_some h
    simp only [Bool.and_eq_true, Nat.ble_eq] at hb
    obtain ⟨⟨⟨h1, h2⟩, h3⟩, h4⟩ := hb
    obtain ⟨i, d, hT⟩ := hE.T t h1
    have hlen : ((row.drop j).take (E.T t).size).length = (E.T t).size := by simp; omega
    have key : ∀ (F : Set') (m : Bool), Rep w F m (.pv src row j) xa none' → m = false → (∀ q x, q < (E.T t).size → Rep w F false (cellAt row (j + q)) x none' → RepT w G (look σ.objs) (tag1 (pvSrc src) (cellAt row (j + q))) x) →
        ∃ v xv, k v = some r ∧ RepT w G (look σ.objs) v xv ∧ (Instr.loadAt t xa).run E.P w = .ok xv w := by
      intro F m hr hm hcell
      subst hm
      cases hr with
      | pvF _ _ _ b off cs e fr xs _ hb hF hxs hc =>
        refine load_at hT (cs := tagCells (fun _ => pvSrc src) j ((row.drop j).take (E.T t).size)) (xs := fun q => xs (j + q)) (by rw [tagCells_len, hlen]) (fun q hq => ?_) (fun q hq => ?_) h
        · rw [cell_at hb, Nat.add_assoc]; exact hxs (j + q) (by omega)
        · rw [tagCells_at _ _ _ _ (by omega), cellAt_drop _ _ _ _ hq]
          exact hcell q _ hq (hc (j + q) (by omega))
    cases ha with
    | val _ _ hr =>
      refine key G.F false hr rfl fun q x hq hc => ?_
      cases src with
      | none => exact tag_none hc
      | some p =>
        obtain ⟨A, ver⟩ := p
        obtain ⟨oA, hl, hv⟩ := alive_some h3
        refine tag_view2 (Nat.le_refl _) (fun o _ _ => hc.mono fun b hb => .inl hb) hl hv ?_
        have := all_at (by simpa using h4) (i := q) (by omega)
        rw [cellAt_drop _ _ _ _ hq] at this
        exact viewOk_cases this
    | vpv A ver _ _ _ hx hA hle hr =>
      obtain ⟨oA, hl, hv⟩ := alive_some h3
      refine key _ false ((hr oA hl hv).retagp) rfl fun q x hq hc => ?_
      have h5 := all_at (by simpa using h4) (i := q) (by omega)
      rw [cellAt_drop _ _ _ _ hq] at h5
      exact tag_view2 (Nat.le_refl _) (fun o _ _ => hc) hl hv (viewOk_cases h5)
  · rename_i id i j
    cases ho : σ.obj id with
    | none => rw [ho] at h; cases h
    | some o =>
      rw [ho] at h
      have hlk := obj_look.1 ho
      obtain ⟨hi, h⟩ := if_some h
      obtain ⟨hb, h⟩ := bif_some h
      simp only [Bool.and_eq_true, Nat.ble_eq] at hb
      obtain ⟨h1, h2⟩ := hb
      obtain ⟨ii, d, hT⟩ := hE.T t h1
      cases ha with
      | val _ _ hr => cases hr
      | adr _ _ _ _ hx hA hr =>
        obtain ⟨b, off, k1, rfl⟩ := hr o hlk
        cases hI.objs id o hlk with
        | null n1 n2 n3 => omega
        | row b' off' cs e fr xs l1 hb hsz hlen hxs hfl hp hF hc =>
          rw [k1] at l1; cases l1
          have hlr := hlen i hi
          have hcells : ∀ q, q < (E.T t).size → w.cell? ⟨b, off + i * o.sz + j + q, none⟩ = some (xs i (j + q)) := fun q hq => by
            rw [cell_at hb, Nat.add_assoc]; exact hxs i (j + q) hi (by omega)
          unfold CellsOk at hc
          cases hbx : o.box with
          | true =>
            rw [hbx] at hc h
            have hi0 : i = 0 := by omega
            subst hi0
            refine load_at hT (by simp; omega) hcells (fun q hq => ?_) h
            show RepT w G _ (cellAt (((o.get 0).drop j).take (E.T t).size) q) _
            rw [cellAt_drop _ _ _ _ hq]
            exact hc.2 (j + q) (by omega)
          | false =>
            rw [hbx] at hc h
            refine load_at hT (cs := tagCells (objSrc o id i) j _) (by rw [tagCells_len]; simp; omega) hcells (fun q hq => ?_) h
            rw [tagCells_at _ _ _ _ (by simp; omega), cellAt_drop _ _ _ _ hq]
            unfold objSrc
            cases hst : o.st with
            | dp =>
              rw [hst] at hc
              obtain ⟨Sr, s1, s2, s3⟩ := hc
              exact tag_view (s1 i (j + q) hi (by omega)) (fun b hb => s2 i (j + q) b hi (by omega) hb) hlk ⟨hbx, hi, by omega, b, off, cs, e, fr, k1, hb, hxs i (j + q) hi (by omega)⟩
            | sh => rw [hst] at hc; exact tag_none (hc i (j + q) hi (by omega))
            | fz => rw [hst] at hc; exact tag_none (hc i (j + q) hi (by omega))
  · cases h
end Go.Vk
end

section
namespace Go.Vk
open Go
set_option linter.unusedVariables false
set_option linter.unusedSimpArgs false
variable {w w' w0 : World} {S0 : SS} {F0 : Set'} {G G' : Gh} {ob ob' : Ob} {v : V} {x : Value} {σ σ' : St} {tm : Array Value} {id : Nat} {o o' : VO}
variable {R : Type} {r : R} {k : V → Option R} {kσ : St → Option R} {E : Env}

theorem RepT.pv_inv {src : Option (Nat × Nat)} {row : List V} {j : Nat} (h : RepT w G ob (.pv src row j) x) : ∃ b p, x = .pointer (some ⟨b, p, none⟩) := by
  cases h with
  | val _ _ h => exact h.pointer
  | vpv _ _ _ _ _ hx => exact hx

/-- A further cell of the row that a pointer points into. -/
theorem Rep.shift {m : Bool} {F S : Set'} {src : Option (Nat × Nat)} {row : List V} {j : Nat} (n : Nat) (h : Rep w F m (.pv src row j) x S) :
    ∃ b o, x = .pointer (some ⟨b, o, none⟩) ∧ Rep w F m (.pv src row (j + n)) (.pointer (some ⟨b, o + n, none⟩)) S := by
  cases h with
  | pvF _ _ _ b off cs e fr xs _ hb hF hxs hc => exact ⟨b, off + j, rfl, by rw [Nat.add_assoc]; exact .pvF _ _ _ b off cs e fr xs _ hb hF hxs hc⟩
  | pvO _ _ _ b off cs e fr xs _ Sr hb hS hp hxs hc hsub hdis => exact ⟨b, off + j, rfl, by rw [Nat.add_assoc]; exact .pvO _ _ _ b off cs e fr xs S Sr hb hS hp hxs hc hsub hdis⟩

theorem fieldAt_run {t f : Nat} {fs : Array Field} {fl : Field} {fi : TypeInfo} {P : Program} (hu : P.underlying t = some (.struct fs)) (hf : fs[f]? = some fl) (hi : P.info? fl.type = some fi) (hz : 0 < fi.size) (b o : Nat) (w : World) :
    (Instr.fieldAt t (.pointer (some ⟨b, o, none⟩)) f).run P w = .ok (.pointer (some ⟨b, o + fl.offset, none⟩)) w := by
  have hz' : fi.size ≠ 0 := by omega
  simp [Instr.fieldAt, run_und hu, hf, Instr.sureAddr, fieldPlace, Go.sizeOf, typeInfo, hi, hz', addr_add]

/-- The pointer moved to a further cell: where 'adr', 'pv' name live things. -/
theorem fieldC_sound (hE : EnvOk E) {s f : Nat} {a : V} {xa : Value} (h : fieldC E s a f k = some r) (ha : RepT w G ob a xa) :
    ∃ v xv, k v = some r ∧ RepT w G ob v xv ∧ (Instr.fieldAt s xa f).run E.P w = .ok xv w := by
  unfold fieldC at h
  obtain ⟨hok, h⟩ := bif_none h
  simp only [Bool.not_eq_false'] at hok
  obtain ⟨i, d, hT⟩ := hE.T s hok
  split at h
  · rename_i off sz aa hf
    obtain ⟨fs, fl, fi, fd, rfl, h2, h3, h4, h5, h6, h7, h8⟩ := hT.field f off sz aa hf
    have run := fun b o => fieldAt_run hT.und h2 h4 (by omega) b o w
    split at h
    · rename_i src row j
      cases ha with
      | val _ _ hr =>
        obtain ⟨b, o, rfl, hs⟩ := hr.shift off
        exact ⟨_, _, h, .val _ _ hs, by rw [run, h3]⟩
      | vpv A ver _ _ _ hx hA hle hr =>
        obtain ⟨b, q, rfl⟩ := hx
        refine ⟨_, _, h, .vpv _ _ _ _ _ ⟨_, _, rfl⟩ hA hle (fun o ho hv => ?_), by rw [run, h3]⟩
        obtain ⟨b, o', e, hs⟩ := (hr o ho hv).shift off
        cases e; exact hs
    · rename_i id i j _
      cases ha with
      | val _ _ hr => cases hr
      | adr _ _ _ _ hx hA hr =>
        obtain ⟨b, q, rfl⟩ := hx
        refine ⟨_, _, h, .adr _ _ _ _ ⟨_, _, rfl⟩ hA (fun o ho => ?_), by rw [run, h3]⟩
        obtain ⟨b', of', e1, e2⟩ := hr o ho
        cases e2
        exact ⟨_, of', e1, by simp only [Nat.add_assoc]⟩
    · cases h
  · cases h

theorem asInt_some {v : V} {k : Int → Option R} (h : asInt v k = some r) (hv : RepT w G ob v x) : ∃ kk n, v = .int kk n ∧ x = .int kk n ∧ k n = some r := by
  unfold asInt at h
  split at h
  · exact ⟨_, _, rfl, hv.int_inv, h⟩
  · cases h

theorem indexAt_run {P : Program} {t e : Nat} {ie : TypeInfo} (hu : P.underlying t = some (.slice e)) (hi : P.info? e = some ie) {b o n c : Nat} {kk : IntKind} {a : Int} (h0 : 0 ≤ a) (h1 : a < (n : Int)) (w : World) :
    (Instr.indexAt t (.slice (some ⟨b, o, none⟩) n c) (.int kk a)).run P w = .ok (.pointer (some ⟨b, o + a.toNat * ie.size, none⟩)) w := by
  simp [Instr.indexAt, asIntOf, run_und hu, h0, h1, Go.sizeOf, typeInfo, hi, addr_add]

theorem slok_elem (hE : EnvOk E) {t : Nat} (h : (E.T t).slok = true) : ∃ (i : TypeInfo) (d : TypeDesc) (e : Nat) (ie : TypeInfo) (ze : Value), TOk E.P t (E.T t) i d ∧ d = .slice e ∧ E.P.underlying t = some (.slice e) ∧ E.P.info? e = some ie ∧ ie.size = (E.T t).esz ∧ ie.bytes = (E.T t).ebytes ∧ ie.zero = some ze ∧
    zeroOk (E.T t).ezero ze.cells.toList = true ∧ (E.T t).ezero.length = (E.T t).esz ∧ 0 < (E.T t).esz := by
  simp only [TI.slok, Bool.and_eq_true] at h
  obtain ⟨i, d, hT⟩ := hE.T t h.1.1.1
  have hz : 0 < (E.T t).esz := by simpa using h.1.1.2
  obtain ⟨e, ie, ze, rfl, k⟩ := hT.elem hz
  exact ⟨i, _, e, ie, ze, hT, rfl, hT.und, k.1, k.2.1, k.2.2.1, k.2.2.2.1, k.2.2.2.2.1, k.2.2.2.2.2, hz⟩

theorem Rep.elem {F : Set'} {sz : Nat} {fl : Bool} {cap : Option Nat} {src : Option (Nat × Nat × Nat × Nat)} {m : Nat} {g : Nat → List V} (hr : Rep w F false (.sl sz fl cap src m g) x none') {n : Nat} (hn : n < m) :
    ∃ b o c, x = .slice (some ⟨b, o, none⟩) m c ∧ ∀ src', Rep w F false (.pv src' (g n) 0) (.pointer (some ⟨b, o + n * sz, none⟩)) none' := by
  cases hr with
  | nul => omega
  | slF _ _ _ _ _ _ b off c cs e fr xs _ hb hF hcap hnc hz hlen hxs hc hfl =>
    have hl := hlen n hn
    exact ⟨b, off, c, rfl, fun src' => .pvF src' (g n) 0 b (off + n * sz) cs e fr (fun j => xs n j) _ hb hF (fun j hj => hxs n j hn (by omega)) (fun j hj => hc n j hn (by omega))⟩

theorem allInt_at {k : IntKind} : ∀ {l : List V} {r : List Int}, allInt k l = some r → ∀ i, i < l.length → cellAt l i = .int k (r.getD i 0)
  | [], r, h, i, hi => by simp at hi
  | c :: l, r, h, i, hi => by
    cases c with
    | int k' n =>
      simp only [allInt] at h
      have hq := bif_some h; clear h
      obtain ⟨hk, h⟩ := hq
      have hk := kn_inj hk
      subst hk
      cases ha : allInt k l with
      | none => rw [ha] at h; cases h
      | some r' =>
        rw [ha] at h; cases h
        cases i with
        | zero => rfl
        | succ i => exact allInt_at ha i (by simpa using hi)
    | _ => simp [allInt] at h
theorem allBool_at : ∀ {l : List V} {r : List Bool}, allBool l = some r → ∀ i, i < l.length → cellAt l i = .bool (r.getD i false)
  | [], r, h, i, hi => by simp at hi
  | c :: l, r, h, i, hi => by
    cases c with
    | bool b =>
      simp only [allBool] at h
      cases ha : allBool l with
      | none => rw [ha] at h; cases h
      | some r' =>
        rw [ha] at h; cases h
        cases i with
        | zero => rfl
        | succ i => exact allBool_at ha i (by simpa using hi)
    | _ => simp [allBool] at h
theorem allStr_at : ∀ {l : List V} {r : List ByteArray}, allStr l = some r → ∀ i, i < l.length → cellAt l i = .str (r.getD i ByteArray.empty)
  | [], r, h, i, hi => by simp at hi
  | c :: l, r, h, i, hi => by
    cases c with
    | str b =>
      simp only [allStr] at h
      cases ha : allStr l with
      | none => rw [ha] at h; cases h
      | some r' =>
        rw [ha] at h; cases h
        cases i with
        | zero => rfl
        | succ i => exact allStr_at ha i (by simpa using hi)
    | _ => simp [allStr] at h
theorem allSl_at {sz : Nat} {fl : Bool} : ∀ {l : List V} {r : List (Nat × (Nat → List V))}, allSl sz fl l = some r → ∀ i, i < l.length → cellAt l i = .sl sz fl none none (r.getD i (0, fun _ => [])).1 (r.getD i (0, fun _ => [])).2
  | [], r, h, i, hi => by simp at hi
  | c :: l, r, h, i, hi => by
    unfold allSl at h
    split at h
    · rename_i e; cases e
    · rename_i sz' fl' n g l' e
      cases e
      have hq := bif_some h; clear h
      obtain ⟨hk, h⟩ := hq
      simp only [Bool.and_eq_true] at hk
      have e1 := Nat.eq_of_beq_eq_true hk.1
      have e2 : fl = fl' := by simpa using hk.2
      subst e1 e2
      cases ha : allSl sz fl l with
      | none => rw [ha] at h; cases h
      | some r' =>
        rw [ha] at h; cases h
        cases i with
        | zero => rfl
        | succ i => exact allSl_at ha i (by simpa using hi)
    · cases h

theorem allSl_len {sz : Nat} {fl : Bool} : ∀ {l : List V} {r : List (Nat × (Nat → List V))}, allSl sz fl l = some r → r.length = l.length
  | [], r, h => by cases h; rfl
  | c :: l, r, h => by
    unfold allSl at h
    split at h
    · rename_i e; cases e
    · rename_i sz' fl' n g l' e
      cases e
      have hq := bif_some h; clear h
      obtain ⟨hk, h⟩ := hq
      cases ha : allSl sz fl l with
      | none => rw [ha] at h; cases h
      | some r' =>
        rw [ha] at h; cases h
        simp [allSl_len ha]
    · cases h
theorem selCD_at {sel : List (List V) → Nat → List V} (hs : ∀ (qs : List (List V)) (j : Nat), j < qs.length → sel qs j = qs.getD j []) (col : List V) {i : Nat} (hi : i < col.length) : selCD sel col i = cellAt col i := by
  unfold selCD
  split
  · split
    · rename_i h; exact (allInt_at h i hi).symm
    · rfl
  · split
    · rename_i h; exact (allBool_at h i hi).symm
    · rfl
  · split
    · rename_i h; exact (allStr_at h i hi).symm
    · rfl
  · split
    · rename_i l h
      rw [allSl_at h i hi]
      have hl := allSl_len h
      have hil : i < l.length := by rw [hl]; exact hi
      have e1 : (l.map (·.1)).getD i 0 = (l.getD i (0, fun _ => [])).1 := by simp [List.getD_eq_getElem?_getD, List.getElem?_eq_getElem hil]
      have e2 : (fun q => sel (l.map fun p => p.2 q) i) = (l.getD i (0, fun _ => [])).2 := by
        funext q
        rw [hs _ _ (by simpa using hil)]
        simp [List.getD_eq_getElem?_getD, List.getElem?_eq_getElem hil]
      rw [e1, e2]
    · rfl
  · rfl

theorem selColsD_len (sel : List (List V) → Nat → List V) (ps : List (List V)) (i : Nat) : ∀ (q : Nat) (r : List V), (selColsD sel ps i q r).length = r.length
  | _, [] => rfl
  | q, c :: r => by simp [selColsD, selColsD_len sel ps i (q + 1) r]
theorem selColsD_at (sel : List (List V) → Nat → List V) (ps : List (List V)) (i : Nat) : ∀ (q : Nat) (r : List V) (j : Nat), j < r.length → cellAt (selColsD sel ps i q r) j = selCD sel (ps.map fun c => cellAt c (q + j)) i
  | q, c :: r, 0, _ => rfl
  | q, c :: r, j + 1, hj => by
    have := selColsD_at sel ps i (q + 1) r j (by simpa using hj)
    simp only [selColsD, cellAt, List.getElem?_cons_succ] at this ⊢
    rw [this, show q + 1 + j = q + (j + 1) by omega]

theorem cells_ext {as bs : List V} (hl : as.length = bs.length) (h : ∀ j, j < as.length → cellAt as j = cellAt bs j) : as = bs := by
  refine List.ext_getElem hl fun j h1 h2 => ?_
  have := h j h1
  simpa [cellAt, h1, h2] using this

theorem selRowD_at : ∀ (d : Nat) (ps : List (List V)) (z : List V) {i : Nat} (hi : i < ps.length), selRowD d ps z i = ps.getD i []
  | 0, ps, z, i, hi => by simp [selRowD, List.getD_eq_getElem?_getD, List.getElem?_eq_getElem hi]
  | d + 1, [], z, i, hi => by simp at hi
  | d + 1, p :: ps, z, i, hi => by
    unfold selRowD
    simp only
    have hg : (p :: ps).getD i [] = (p :: ps)[i] := by simp [List.getD_eq_getElem?_getD, List.getElem?_eq_getElem hi]
    cases hb : (p :: ps).all (fun c => Nat.beq c.length p.length) with
    | false => simp only [cond_false, List.getElem?_eq_getElem hi, hg]
    | true =>
      simp only [cond_true]
      have hlen := Nat.eq_of_beq_eq_true (List.all_eq_true.1 hb (p :: ps)[i] (List.getElem_mem hi))
      refine cells_ext (by rw [selColsD_len, hg, hlen]) fun j hj => ?_
      rw [selColsD_len] at hj
      rw [selColsD_at _ _ _ _ _ _ hj, selCD_at (fun qs j hj => selRowD_at d qs [] hj) _ (by simpa using hi), hg, Nat.zero_add]
      have : cellAt (((p :: ps)).map fun c => cellAt c j) i = cellAt ((p :: ps)[i]) j := by
        show (match (((p :: ps)).map fun c => cellAt c j)[i]? with | some c => c | none => V.dead) = _
        rw [List.getElem?_map, List.getElem?_eq_getElem hi]; rfl
      exact this
theorem selRow_at (ps : List (List V)) (z : List V) {i : Nat} (hi : i < ps.length) : selRow ps z i = ps.getD i [] := selRowD_at 6 ps z hi

theorem chunks_len (sz : Nat) : ∀ (n : Nat) (l : List V), (chunks sz n l).length = n
  | 0, _ => rfl
  | n + 1, l => by simp [chunks, chunks_len sz n]
theorem chunks_at (sz : Nat) : ∀ (n : Nat) (l : List V) (i : Nat), i < n → (chunks sz n l).getD i [] = (l.drop (i * sz)).take sz
  | n + 1, l, 0, _ => by simp [chunks]
  | n + 1, l, i + 1, hi => by
    have := chunks_at sz n (l.drop sz) i (by omega)
    simp only [chunks, List.getD_cons_succ]
    rw [this, List.drop_drop]
    congr 2
    rw [Nat.add_mul]; omega

theorem indexArr_run {P : Program} {t e n : Nat} {ie : TypeInfo} (hu : P.underlying t = some (.array n e)) (hi : P.info? e = some ie) {b o : Nat} {kk : IntKind} {a : Int} (h0 : 0 ≤ a) (h1 : a < (n : Int)) (w : World) :
    (Instr.indexAt t (.pointer (some ⟨b, o, none⟩)) (.int kk a)).run P w = .ok (.pointer (some ⟨b, o + a.toNat * ie.size, none⟩)) w := by
  simp [Instr.indexAt, asIntOf, run_und hu, h0, h1, Go.sizeOf, typeInfo, hi, addr_add, Instr.sureAddr]

theorem indexC_sound (hE : EnvOk E) (hI : Inv w0 S0 F0 G σ tm w) {t : Nat} {a i : V} {xa xi : Value} (h : indexC E σ t a i k = some r) (ha : RepT w G (look σ.objs) a xa) (hi : RepT w G (look σ.objs) i xi) :
    ∃ v xv, k v = some r ∧ RepT w G (look σ.objs) v xv ∧ (Instr.indexAt t xa xi).run E.P w = .ok xv w := by
  unfold indexC at h
  obtain ⟨kk, n, rfl, rfl, h⟩ := asInt_some h hi
  obtain ⟨h0, h⟩ := if_some h
  cases a with
  | sl sz fl cap src m g =>
    obtain ⟨hb, h⟩ := bif_some h
    simp only [Bool.and_eq_true] at hb
    obtain ⟨⟨hok, hsz⟩, hal⟩ := hb
    have hsz := Nat.eq_of_beq_eq_true hsz
    obtain ⟨hm, h⟩ := if_some h
    obtain ⟨ii, d, e', ie, ze, hT, _, hu, k2, k3, _⟩ := slok_elem hE hok
    have hnm : n.toNat < m := by omega
    have fin : ∀ (b o c : Nat), xa = .slice (some ⟨b, o, none⟩) m c → (Instr.indexAt t xa (.int kk n)).run E.P w = .ok (.pointer (some ⟨b, o + n.toNat * sz, none⟩)) w := by
      intro b o c e
      subst e
      rw [indexAt_run hu k2 h0 hm w, k3, hsz]
    cases ha with
    | val _ _ hr =>
      obtain ⟨b, o, c, e, hp⟩ := hr.elem hnm
      exact ⟨_, _, h, .val _ _ (hp _), fin b o c e⟩
    | view _ _ _ A ver i j _ _ _ hx hA hle hr =>
      obtain ⟨oA, hl, hv⟩ := alive_some hal
      obtain ⟨b, o, c, e, hp⟩ := (hr oA hl hv).elem hnm
      refine ⟨_, _, h, .vpv A ver _ _ _ ⟨_, _, rfl⟩ hA hle (fun o2 ho2 hv2 => ?_), fin b o c e⟩
      obtain ⟨b', o', c', e', hp'⟩ := (hr o2 ho2 hv2).elem hnm
      rw [e] at e'; cases e'; exact hp' _
  | ref id sub =>
    simp only at h
    cases ho : σ.obj id with
    | none => rw [ho] at h; cases h
    | some o =>
      rw [ho] at h
      have hlk := obj_look.1 ho
      obtain ⟨hb, h⟩ := bif_some h
      simp only [Bool.and_eq_true] at hb
      obtain ⟨⟨hok, hbx⟩, hsz⟩ := hb
      have hsz := Nat.eq_of_beq_eq_true hsz
      obtain ⟨hm, h⟩ := if_some h
      obtain ⟨ii, d, e', ie, ze, hT, _, hu, k2, k3, _⟩ := slok_elem hE hok
      cases ha with
      | val _ _ hr => cases hr
      | ref _ _ _ hx hA hr =>
        obtain ⟨r1, a', c, rfl, r3, r4, r5⟩ := hr o hlk
        rcases r5 with r5 | ⟨b, off, cs, ee, fr, q1, rfl, q3, q4⟩
        · omega
        · refine ⟨_, _, h, .adr _ _ _ _ ⟨_, _, rfl⟩ hA (fun o2 ho2 => ?_), by rw [indexAt_run hu k2 h0 hm w]⟩
          rw [hlk] at ho2; cases ho2
          refine ⟨b, off, q1, ?_⟩
          rw [k3, ← hsz, Nat.add_mul]
          simp only [Nat.add_zero, Nat.add_assoc]
  | pv src row j =>
    cases src with
    | some s => cases h
    | none =>
      simp only at h
      cases har : (E.T t).arr with
      | none => rw [har] at h; cases h
      | some p =>
        obtain ⟨m, sz⟩ := p
        rw [har] at h
        simp only at h
        obtain ⟨hb, h⟩ := bif_some h
        simp only [Bool.and_eq_true, Nat.ble_eq] at hb
        obtain ⟨hok, hle⟩ := hb
        obtain ⟨hm, h⟩ := if_some h
        obtain ⟨ii, d, hT⟩ := hE.T t hok
        obtain ⟨e, ie, rfl, hie, hsz, hpos⟩ := hT.arr m sz har
        have hnm : n.toNat < m := by omega
        cases ha with
        | val _ _ hr =>
          cases hr with
          | pvF _ _ _ b off cs ee fr xs _ hb hF hxs hc =>
            have hsel : selRow (chunks sz m (row.drop j)) [] n.toNat = ((row.drop j).drop (n.toNat * sz)).take sz := by
              rw [selRow_at _ _ (by rw [chunks_len]; exact hnm), chunks_at _ _ _ _ hnm]
            have hpos2 : n.toNat * sz + sz ≤ m * sz := by
              have := Nat.mul_le_mul_right sz (show n.toNat + 1 ≤ m by omega)
              rw [Nat.add_mul] at this; omega
            have hl : (((row.drop j).drop (n.toNat * sz)).take sz).length = sz := by simp; omega
            have hcell : ∀ q, q < sz → cellAt (((row.drop j).drop (n.toNat * sz)).take sz) q = cellAt row (j + n.toNat * sz + q) := fun q hq => by
              rw [List.drop_drop, cellAt_drop _ _ _ _ hq]
            rw [hsel] at h
            refine ⟨_, _, h, .val _ _ (.pvF _ _ _ b (off + j + n.toNat * sz) cs ee fr (fun q => xs (j + n.toNat * sz + q)) _ hb hF (fun q hq => ?_) (fun q hq => ?_)), by rw [indexArr_run hT.und hie h0 hm w, hsz]; simp⟩
            · rw [hl] at hq
              rw [show off + j + n.toNat * sz + q = off + (j + n.toNat * sz + q) by omega]
              exact hxs _ (by omega)
            · rw [hl] at hq
              rw [hcell q hq]
              exact hc _ (by omega)
  | _ => cases h

theorem lenC_sound (hI : Inv w0 S0 F0 G σ tm w) {a : V} {xa : Value} {kn : Nat → Option R} (h : lenC σ a kn = some r) (ha : RepT w G (look σ.objs) a xa) : ∃ a' n c, xa = .slice a' n c ∧ kn n = some r := by
  unfold lenC at h
  cases a with
  | sl sz fl cap src m g =>
    cases ha with
    | val _ _ hr => obtain ⟨a', c, rfl, _⟩ := hr.slice_len; exact ⟨a', _, c, rfl, h⟩
    | view _ _ _ A ver i j _ _ _ hx => obtain ⟨a', c, rfl, _⟩ := hx; exact ⟨a', _, c, rfl, h⟩
  | ref id sub =>
    simp only at h
    cases ho : σ.obj id with
    | none => rw [ho] at h; cases h
    | some o =>
      rw [ho] at h
      cases ha with
      | val _ _ hr => cases hr
      | ref _ _ _ hx hA hr =>
        obtain ⟨r1, a', c, rfl, r3, r4, r5⟩ := hr o (obj_look.1 ho)
        exact ⟨a', _, c, rfl, h⟩
  | _ => cases h
end Go.Vk
end

section
namespace Go.Vk
open Go
set_option linter.unusedVariables false
set_option linter.unusedSimpArgs false
variable {w w' w0 : World} {S0 : SS} {F0 : Set'} {G G' : Gh} {ob ob' : Ob} {v : V} {x : Value} {σ σ' : St} {tm : Array Value} {id : Nat} {o o' : VO}
variable {R : Type} {r : R} {k : V → Option R} {kσ : St → Option R} {E : Env} {P : Program}

/-- A bound of a slice expression: none, or a whole number. -/
def BoundIs (ρ : Operand → Value) (lo : Option Operand) (d l : Int) : Prop := (lo = none ∧ l = d) ∨ ∃ x kk, lo = some x ∧ ρ x = .int kk l

theorem bound_inv {ρ : Operand → Value} (hev : ∀ x, RepT w G ob (E.ev σ 3 x) (ρ x)) {lo : Option Operand} {d : Int} {f : Int → Option R} (h : boundOf E σ lo d f = some r) : ∃ l, f l = some r ∧ BoundIs ρ lo d l := by
  unfold boundOf at h
  cases lo with
  | none => exact ⟨d, h, .inl ⟨rfl, rfl⟩⟩
  | some x =>
    obtain ⟨kk, n, _, e, h⟩ := asInt_some h (hev x)
    exact ⟨n, h, .inr ⟨x, kk, rfl, e⟩⟩

theorem sliceBound_run {kk : IntKind} {i : Int} {y : Nat} {code : BoundsCode} (h0 : 0 ≤ i) (h1 : i ≤ (y : Int)) (w : World) : (Instr.sliceBound (.int kk i) y code).run P w = .ok i.toNat w := by
  simp [Instr.sliceBound, asIntOf, h0, h1]

theorem sliceBounds_run {ρ : Operand → Value} {lo hi : Option Operand} {s : Bool} {len cap : Nat} {l h : Int} (hl : BoundIs ρ lo 0 l) (hh : BoundIs ρ hi len h) (h0 : 0 ≤ l) (h1 : l ≤ h) (h2 : h ≤ (cap : Int)) (w : World) :
    (Instr.sliceBounds s len cap (lo.map ρ) (hi.map ρ) none).run P w = .ok (l.toNat, h.toNat, cap) w := by
  have hb : ∀ code kk, (Instr.sliceBound (.int kk h) cap code).run P w = .ok h.toNat w := fun code kk => sliceBound_run (by omega) h2 w
  have hb' : ∀ code kk, (Instr.sliceBound (.int kk l) h.toNat code).run P w = .ok l.toNat w := fun code kk => sliceBound_run h0 (by omega) w
  rcases hl with ⟨rfl, rfl⟩ | ⟨x, kk, rfl, e1⟩ <;> rcases hh with ⟨rfl, rfl⟩ | ⟨y, kk', rfl, e2⟩
  · simp [Instr.sliceBounds]
  · simp [Instr.sliceBounds, e2, hb]
  · have e : ((len : Int)).toNat = len := rfl
    rw [e] at hb'
    simp [Instr.sliceBounds, e1, hb']
  · simp [Instr.sliceBounds, e1, e2, hb, hb']

theorem sliceBounds_run3 {ρ : Operand → Value} {lo hi : Option Operand} {mo : Operand} {km : IntKind} {s : Bool} {len cap : Nat} {l h m : Int} (hl : BoundIs ρ lo 0 l) (hh : BoundIs ρ hi len h) (hhi : hi.isNone = false) (hm : ρ mo = .int km m)
    (h0 : 0 ≤ l) (h1 : l ≤ h) (h2 : h ≤ m) (h3 : m ≤ (cap : Int)) (w : World) :
    (Instr.sliceBounds s len cap (lo.map ρ) (hi.map ρ) (some (ρ mo))).run P w = .ok (l.toNat, h.toNat, m.toNat) w := by
  have hb : ∀ code kk, (Instr.sliceBound (.int kk h) m.toNat code).run P w = .ok h.toNat w := fun code kk => sliceBound_run (by omega) (by omega) w
  have hb2 : ∀ code kk, (Instr.sliceBound (.int kk m) cap code).run P w = .ok m.toNat w := fun code kk => sliceBound_run (by omega) h3 w
  have hb' : ∀ code kk, (Instr.sliceBound (.int kk l) h.toNat code).run P w = .ok l.toNat w := fun code kk => sliceBound_run h0 (by omega) w
  rcases hh with ⟨rfl, rfl⟩ | ⟨y, kk', rfl, e2⟩
  · simp at hhi
  · rcases hl with ⟨rfl, rfl⟩ | ⟨x, kk, rfl, e1⟩
    · simp [Instr.sliceBounds, hm, e2, hb, hb2]
    · simp [Instr.sliceBounds, hm, e1, e2, hb, hb2, hb']

/-- A part of a slice by value. -/
theorem Rep.part {F : Set'} {sz : Nat} {fl : Bool} {cap : Option Nat} {src : Option (Nat × Nat × Nat × Nat)} {n : Nat} {g : Nat → List V} (hr : Rep w F false (.sl sz fl cap src n g) x none') {l h : Nat} (h1 : l ≤ h) (h2 : h ≤ n) (z : List V) :
    ∃ a c, x = .slice a n c ∧ n ≤ c ∧ ∀ src', src' = none → ∀ (m : Nat) (cap' : Option Nat), h ≤ m → m ≤ c → (cap' = none ∨ cap' = some (m - l)) → Rep w F false (.sl sz fl cap' src' (Rows.sub ⟨n, g⟩ l (h - l) z).n (Rows.sub ⟨n, g⟩ l (h - l) z).get) (.slice (if m = l then a else a.map (·.add (l * sz))) (h - l) (m - l)) none' := by
  cases hr with
  | nul _ _ _ _ _ _ a _ hcap =>
    refine ⟨a, 0, rfl, Nat.le_refl _, fun src' hs' m cap' hm hmc hc => ?_⟩
    subst hs'
    have e1 : h - l = 0 := by omega
    have e2 : m - l = 0 := by omega
    rw [e2] at hc ⊢
    simp only [Rows.sub, e1]
    exact .nul _ _ _ _ _ _ _ _ hc
  | slF _ _ _ _ _ _ b off c cs e fr xs _ hb hF hcap hnc hz hlen hxs hc hfl =>
    refine ⟨_, c, rfl, hnc, fun src' hs' m cap' hm hmc hcc => ?_⟩
    subst hs'
    by_cases hml : m = l
    · have e1 : h - l = 0 := by omega
      have e2 : m - l = 0 := by omega
      rw [e2] at hcc ⊢
      simp only [Rows.sub, e1]
      exact .nul _ _ _ _ _ _ _ _ hcc
    · rw [if_neg hml]
      simp only [Option.map_some, addr_add]
      have hget : ∀ i, i < h - l → (Rows.sub ⟨n, g⟩ l (h - l) z).get i = g (l + i) := fun i hi => by
        simp only [Rows.sub, mrgE_eq]
        have : Nat.blt i (h - l) = true := by simpa using hi
        rw [this]; rfl
      have hsz : off + l * sz + (m - l) * sz ≤ cs.size := by
        have : l * sz + (m - l) * sz = m * sz := by rw [← Nat.add_mul]; congr 1; omega
        have : m * sz ≤ c * sz := Nat.mul_le_mul_right _ hmc
        omega
      refine .slF _ _ _ _ _ _ b (off + l * sz) (m - l) cs e fr (fun i j => xs (l + i) j) _ hb hF hcc (by show h - l ≤ m - l; omega) hsz (fun i hi => ?_) (fun i j hi hj => ?_) (fun i j hi hj => ?_) (fun hf i j hi hj => ?_)
      · rw [hget i hi]; exact hlen _ (by have : i < h - l := hi; omega)
      · have : i < h - l := hi
        have := hxs (l + i) j (by omega) hj
        rwa [Nat.add_mul, ← Nat.add_assoc off] at this
      · rw [hget i hi]; exact hc _ _ (by have : i < h - l := hi; omega) hj
      · rw [hget i hi]; exact hfl hf _ _ (by have : i < h - l := hi; omega) hj

theorem sliceAt_run {t e : Nat} {ie : TypeInfo} (hu : P.underlying t = some (.slice e)) (hi : P.info? e = some ie) {a : Option Addr} {len cap : Nat} {lo hh mx : Option Value} {l h m : Nat} {w : World}
    (hb : (Instr.sliceBounds true len cap lo hh mx).run P w = .ok (l, h, m) w) : (Instr.sliceAt t (.slice a len cap) lo hh mx).run P w = .ok (.slice (if m = l then a else a.map (·.add (l * ie.size))) (h - l) (m - l)) w := by
  simp [Instr.sliceAt, Instr.slice, run_und hu, hb, Go.sizeOf, typeInfo, hi]

theorem sliceStr_run {t : Nat} (hu : P.underlying t = some .string) {s : ByteArray} {lo hh : Option Value} {l h m : Nat} {w : World}
    (hb : (Instr.sliceBounds false s.size s.size lo hh none).run P w = .ok (l, h, m) w) : (Instr.sliceAt t (.string s) lo hh none).run P w = .ok (.string (s.extract l h)) w := by
  simp [Instr.sliceAt, Instr.slice, run_und hu, hb]

theorem sliceC_sound (hE : EnvOk E) (hI : Inv w0 S0 F0 G σ tm w) {ρ : Operand → Value} (hev : ∀ x, RepT w G (look σ.objs) (E.ev σ 3 x) (ρ x)) {t : Nat} {a : V} {xa : Value} {lo hi mx : Option Operand} (h : sliceC E σ t a lo hi mx k = some r) (ha : RepT w G (look σ.objs) a xa) :
    ∃ v xv, k v = some r ∧ RepT w G (look σ.objs) v xv ∧ (Instr.sliceAt t xa (lo.map ρ) (hi.map ρ) (mx.map ρ)).run E.P w = .ok xv w := by
  unfold sliceC at h
  cases a with
  | str s =>
    have hq := bif_none h; clear h
    obtain ⟨hb, h⟩ := hq
    simp only [Bool.not_eq_false', Bool.and_eq_true] at hb
    obtain ⟨⟨b1, b2⟩, b3⟩ := hb
    obtain ⟨i, d, hT⟩ := hE.T t b1
    have hu := hT.und; rw [hT.str b2] at hu
    have hq := bound_inv hev h; clear h
    obtain ⟨l, h, hl⟩ := hq
    have hq := bound_inv hev h; clear h
    obtain ⟨hh, h, hhh⟩ := hq
    have hq := if_some h; clear h
    obtain ⟨h0, h⟩ := hq
    have hq := if_some h; clear h
    obtain ⟨h1, h⟩ := hq
    have hq := if_some h; clear h
    obtain ⟨h2, h⟩ := hq
    have := ha.str_inv; subst this
    cases mx with
    | some m => simp at b3
    | none => exact ⟨_, _, h, .val _ _ (.str _ _ _), sliceStr_run hu (sliceBounds_run hl hhh h0 h1 h2 w)⟩
  | sl sz fl cap src n g =>
    have hq := bif_none h; clear h
    obtain ⟨hb, h⟩ := hq
    simp only [Bool.or_eq_false_iff, Bool.not_eq_false'] at hb
    obtain ⟨hok, hsz⟩ := hb
    have hsz := Nat.eq_of_beq_eq_true hsz
    obtain ⟨ii, d, e', ie, ze, hT, _, hu, k2, k3, _⟩ := slok_elem hE hok
    have hq := bound_inv hev h; clear h
    obtain ⟨l, h, hl⟩ := hq
    have hq := bound_inv hev h; clear h
    obtain ⟨hh, h, hhh⟩ := hq
    have hq := if_some h; clear h
    obtain ⟨h0, h⟩ := hq
    have hq := if_some h; clear h
    obtain ⟨h1, h⟩ := hq
    have hq := if_some h; clear h
    obtain ⟨h2, h⟩ := hq
    have e1 : hh.toNat - l.toNat = (hh - l).toNat := by omega
    have lens : ∃ a c, xa = .slice a n c ∧ n ≤ c := by
      cases ha with
      | val _ _ hr => exact hr.slice_len
      | view _ _ _ _ _ _ _ _ _ _ hx => exact hx
    obtain ⟨a0, c0, rfl, hnc⟩ := lens
    have key : ∀ (m : Nat) (cap' : Option Nat), hh.toNat ≤ m → (cap' = none ∧ m = c0 ∨ cap' = some (m - l.toNat) ∧ m ≤ n) → k (.sl sz fl cap' (unex src) (Rows.sub ⟨n, g⟩ l.toNat (hh - l).toNat (E.T t).ezero).n (Rows.sub ⟨n, g⟩ l.toNat (hh - l).toNat (E.T t).ezero).get) = some r →
        (Instr.sliceAt t (.slice a0 n c0) (lo.map ρ) (hi.map ρ) (mx.map ρ)).run E.P w = .ok (.slice (if m = l.toNat then a0 else a0.map (·.add (l.toNat * ie.size))) (hh.toNat - l.toNat) (m - l.toNat)) w →
        ∃ v xv, k v = some r ∧ RepT w G (look σ.objs) v xv ∧ (Instr.sliceAt t (.slice a0 n c0) (lo.map ρ) (hi.map ρ) (mx.map ρ)).run E.P w = .ok xv w := by
      intro m cap' hm hc hk hrun
      refine ⟨_, _, hk, ?_, hrun⟩
      have hrep : ∀ F : Set', Rep w F false (.sl sz fl cap src n g) (.slice a0 n c0) none' → ∀ src', src' = none → Rep w F false (.sl sz fl cap' src' (Rows.sub ⟨n, g⟩ l.toNat (hh - l).toNat (E.T t).ezero).n (Rows.sub ⟨n, g⟩ l.toNat (hh - l).toNat (E.T t).ezero).get) (.slice (if m = l.toNat then a0 else a0.map (·.add (l.toNat * ie.size))) (hh.toNat - l.toNat) (m - l.toNat)) none' := by
        intro F hr src' hs'
        obtain ⟨a, c, e, hnc, hp⟩ := hr.part (l := l.toNat) (h := hh.toNat) (by omega) (by omega) (E.T t).ezero
        cases e
        have := hp src' hs' m cap' hm (by rcases hc with ⟨_, rfl⟩ | ⟨_, hc⟩ <;> omega) (hc.elim (fun h => .inl h.1) (fun h => .inr h.1))
        rw [e1] at this
        rw [k3, ← hsz, e1]; exact this
      cases ha with
      | val _ _ hr => exact .val _ _ (hrep G.F hr _ (by rw [hr.nosrc]; rfl))
      | view _ _ _ A ver i j _ _ _ hx hA hle hr =>
        refine RepT.view _ _ _ A ver i 256 _ _ _ ⟨_, _, by rw [e1]; rfl, by show (hh - l).toNat ≤ m - l.toNat; omega⟩ hA hle (fun o ho hv => ?_) (fun o _ _ hlt => by omega)
        have hr' := hr o ho hv
        obtain ⟨a, c, e, hnc, hp⟩ := hr'.part (l := l.toNat) (h := hh.toNat) (by omega) (by omega) (E.T t).ezero
        cases e
        have := hp none rfl m cap' hm (by rcases hc with ⟨_, rfl⟩ | ⟨_, hc⟩ <;> omega) (hc.elim (fun h => .inl h.1) (fun h => .inr h.1))
        rw [e1] at this
        rw [k3, ← hsz, e1]; exact this
    cases mx with
    | none =>
      simp only at h
      exact key c0 none (by omega) (.inl ⟨rfl, rfl⟩) h (sliceAt_run hu k2 (sliceBounds_run hl hhh h0 h1 (by omega) w))
    | some m =>
      simp only at h
      have hq := bif_none h; clear h
      obtain ⟨hin, h⟩ := hq
      have hq := asInt_some h (hev m); clear h
      obtain ⟨km, mv, e2, e3, h⟩ := hq
      have hq := if_some h; clear h
      obtain ⟨h3, h⟩ := hq
      have hq := if_some h; clear h
      obtain ⟨h4, h⟩ := hq
      have := sliceBounds_run3 (s := true) (len := n) (cap := c0) (P := E.P) hl hhh hin e3 h0 h1 h3 (by omega) w
      refine key mv.toNat (some (mv - l).toNat) (by omega) (.inr ⟨by congr 1; omega, by omega⟩) h (sliceAt_run hu k2 this)
  | ref id sub =>
    simp only at h
    cases ho : σ.obj id with
    | none => rw [ho] at h; cases h
    | some o =>
      rw [ho] at h
      have hlk := obj_look.1 ho
      have hq := bound_inv hev h; clear h
      obtain ⟨l, h, hl⟩ := hq
      have hq := bound_inv hev h; clear h
      obtain ⟨hh, h, hhh⟩ := hq
      have hq := bif_none h; clear h
      obtain ⟨hb, h⟩ := hq
      simp only [Bool.or_eq_false_iff, Bool.not_eq_false'] at hb
      obtain ⟨⟨hbx, hok⟩, hsz⟩ := hb
      have hsz := Nat.eq_of_beq_eq_true hsz
      obtain ⟨ii, d, e', ie, ze, hT, _, hu, k2, k3, _⟩ := slok_elem hE hok
      have hq := if_some h; clear h
      obtain ⟨h0, h⟩ := hq
      have hq := if_some h; clear h
      obtain ⟨h1, h⟩ := hq
      have hq := if_some h; clear h
      obtain ⟨h2, h⟩ := hq
      cases mx with
      | some m => cases h
      | none =>
        simp only at h
        cases ha with
        | val _ _ hr => cases hr
        | ref _ _ _ hx hA hr =>
          obtain ⟨r1, a', c, rfl, r3, r4, r5⟩ := hr o hlk
          refine ⟨_, _, h, ?_, sliceAt_run hu k2 (sliceBounds_run hl hhh h0 h1 (by omega) w)⟩
          refine .ref _ _ _ ⟨_, _, _, rfl⟩ hA fun o2 ho2 => ?_
          rw [hlk] at ho2; cases ho2
          have hd : hh.toNat - l.toNat = (hh - l).toNat := by omega
          refine ⟨r1, _, _, by rw [hd]; rfl, ?_, ?_, ?_⟩
          · show (hh - l).toNat ≤ c - l.toNat; omega
          · show offOf sub + l.toNat + (hh - l).toNat ≤ o.n; omega
          · by_cases hcl : c = l.toNat
            · left; omega
            · right
              rcases r5 with r5 | ⟨b, off, cs, ee, fr, q1, rfl, q3, q4⟩
              · omega
              · refine ⟨b, off, cs, ee, fr, q1, ?_, q3, ?_⟩
                · rw [if_neg hcl, k3, ← hsz]
                  simp only [Option.map_some, addr_add]
                  show _ = some (⟨b, off + (offOf sub + l.toNat) * o.sz, none⟩ : Addr)
                  rw [Nat.add_mul, Nat.add_assoc]
                · show off + (offOf sub + l.toNat + (c - l.toNat)) * o.sz ≤ cs.size
                  have : offOf sub + l.toNat + (c - l.toNat) = offOf sub + c := by omega
                  rw [this]; exact q4
  | _ => cases h
end Go.Vk
end

section
namespace Go.Vk
open Go
set_option linter.unusedVariables false
set_option linter.unusedSimpArgs false
variable {w w' w0 : World} {S0 : SS} {F0 : Set'} {G G' : Gh} {ob ob' : Ob} {v : V} {x : Value} {σ σ' : St} {tm : Array Value} {id : Nat} {o o' : VO}
variable {R : Type} {r : R} {k : V → Option R} {kσ : St → Option R} {E : Env} {P : Program}

theorem convC_sound (hE : EnvOk E) {s t : Nat} {a : V} {xa : Value} (h : convC (E.T s) (E.T t) a k = some r) (ha : RepT w G ob a xa) :
    ∃ v xv, k v = some r ∧ RepT w G ob v xv ∧ (convert s t xa).run E.P w = .ok xv w := by
  unfold convC at h
  obtain ⟨hb, h⟩ := bif_none h
  simp only [Bool.not_eq_false', Bool.and_eq_true] at hb
  obtain ⟨i1, d1, hT1⟩ := hE.T s hb.1
  obtain ⟨i2, d2, hT2⟩ := hE.T t hb.2
  cases hk : (E.T t).kind with
  | some kk =>
    rw [hk] at h
    have hu := hT2.und; rw [hT2.kind kk hk] at hu
    cases a with
    | int k' n =>
      have := ha.int_inv; subst this
      exact ⟨_, _, h, .val _ _ (.int _ _ _ _), by cases d1 <;> simp [convert, run_und hT1.und, run_und hu, Conv.intToInt]⟩
    | _ => cases h
  | none =>
    rw [hk] at h
    cases a with
    | str q =>
      obtain ⟨hs, h⟩ := bif_some h
      have hu := hT2.und; rw [hT2.str hs] at hu
      have := ha.str_inv; subst this
      exact ⟨_, _, h, .val _ _ (.str _ _ _), by cases d1 <;> simp [convert, run_und hT1.und, run_und hu]⟩
    | _ => cases h

theorem isNilOp_eq {y : Operand} (h : isNilOp y = true) : y = .const (.slice none 0 0) := by
  unfold isNilOp at h
  split at h
  · rfl
  · cases h

theorem nilEqC_sound (hE : EnvOk E) {t : Nat} {bo : BinOp} {a : V} {xa : Value} {xo yo : Operand} (h : nilEqC (E.T t) bo a k = some r) (ha : RepT w G ob a xa) :
    ∃ v xv, k v = some r ∧ RepT w G ob v xv ∧ (do eqGuard bo t xo yo xa (.slice none 0 0); binOp bo t xa (.slice none 0 0) : Sem Value).run E.P w = .ok xv w := by
  unfold nilEqC at h
  obtain ⟨hb, h⟩ := bif_none h
  simp only [Bool.not_eq_false'] at hb
  have hok : (E.T t).ok = true := by
    simp only [TI.slok, Bool.and_eq_true] at hb; exact hb.1.1.1
  have hz : 0 < (E.T t).esz := by
    simp only [TI.slok, Bool.and_eq_true] at hb; simpa using hb.1.1.2
  obtain ⟨i1, d1, hT⟩ := hE.T t hok
  obtain ⟨e, _, _, hd, _⟩ := hT.elem hz
  have hu := hT.und; rw [hd] at hu
  split at h
  · rename_i sz fl cap n g _
    have key : ∃ p c, xa = .slice p n c ∧ (0 < n → p.isNone = false) := by
      cases ha with
      | val _ _ h =>
        cases h with
        | nul _ _ _ _ _ _ a => exact ⟨a, 0, rfl, fun h => by omega⟩
        | slF => exact ⟨_, _, rfl, fun _ => rfl⟩
    obtain ⟨p, c, rfl, hp⟩ := key
    have heq : (Op.equal t (.slice p n c) (.slice none 0 0)).run E.P w = .ok p.isNone w := run_equal_slice_nil w t e p n c hu
    have hg : ∀ op, (eqGuard op t xo yo (.slice p n c) (.slice none 0 0)).run E.P w = .ok () w := fun op => by
      unfold eqGuard
      cases op <;> simp [Sem.run_pure]
    split at h
    · have hrun : (do eqGuard .eql t xo yo (.slice p n c) (.slice none 0 0); binOp .eql t (.slice p n c) (.slice none 0 0) : Sem Value).run E.P w = .ok (.bool p.isNone) w := by
        simp only [Sem.run_bind, hg, Result.andThen_ok, binOp]
        simp [heq]
      split at h
      · rename_i hn
        refine ⟨_, _, h, .val _ _ (.bool _ _ _), ?_⟩
        rw [hrun, hp hn]
      · exact ⟨_, _, h, .ub _, hrun⟩
    · have hrun : (do eqGuard .neq t xo yo (.slice p n c) (.slice none 0 0); binOp .neq t (.slice p n c) (.slice none 0 0) : Sem Value).run E.P w = .ok (.bool (!p.isNone)) w := by
        simp only [Sem.run_bind, hg, Result.andThen_ok, binOp]
        simp [heq]
      split at h
      · rename_i hn
        refine ⟨_, _, h, .val _ _ (.bool _ _ _), ?_⟩
        rw [hrun, hp hn]; rfl
      · exact ⟨_, _, h, .ub _, hrun⟩
    · cases h
  · cases h

theorem strIdx_sound (hE : EnvOk E) {t : Nat} {a i : V} {xa xi : Value} (h : strIdx (E.T t) a i k = some r) (ha : RepT w G ob a xa) (hi : RepT w G ob i xi) :
    ∃ v xv, k v = some r ∧ RepT w G ob v xv ∧ (Instr.index t xa xi).run E.P w = .ok xv w := by
  unfold strIdx at h
  obtain ⟨hb, h⟩ := bif_none h
  simp only [Bool.not_eq_false', Bool.and_eq_true] at hb
  obtain ⟨i1, d1, hT⟩ := hE.T t hb.1
  have hu := hT.und; rw [hT.str hb.2] at hu
  cases a with
  | str s =>
    cases i with
    | int kk n =>
      obtain ⟨h0, h⟩ := if_some h
      obtain ⟨h1, h⟩ := if_some h
      have := ha.str_inv; subst this
      have := hi.int_inv; subst this
      refine ⟨_, _, h, .val _ _ (.int _ _ _ _), ?_⟩
      have hn : n.toNat < s.size := by omega
      have hg : s[n.toNat]? = some s[n.toNat] := getElem?_pos s n.toNat hn
      have e : strAt s n.toNat = (s[n.toNat].toNat : Int) := by
        unfold strAt
        have hl : n.toNat < s.data.toList.length := by simpa using hn
        rw [List.getD_eq_getElem?_getD, List.getElem?_eq_getElem hl]
        rfl
      simp [Instr.index, asIntOf, run_und hu, h0, hg, e]
    | _ => cases h
  | _ => cases h

theorem nilC_sound {a : V} {xa : Value} (h : nilC a k = some r) (ha : RepT w G ob a xa) (hm : ∀ f cs, a = .fn f cs → ∃ xs, xa = .func (.func f) #[] xs) : k a = some r ∧ (xa = .pointer none → False) ∧ (xa = .nilIface → False) ∧ (xa = .nilFunc → False) ∧ (∀ nm fs cs, xa = .func (.method nm) fs cs → False) := by
  unfold nilC at h
  cases a with
  | pv src row j =>
    obtain ⟨b, p, rfl⟩ := ha.pv_inv
    exact ⟨h, by simp, by simp, by simp, by simp⟩
  | adr id i j =>
    cases ha with
    | val _ _ hr => cases hr
    | adr _ _ _ _ hx => obtain ⟨b, q, rfl⟩ := hx; exact ⟨h, by simp, by simp, by simp, by simp⟩
  | fn f cs =>
    obtain ⟨xs, rfl, _⟩ := ha.fn_inv
    exact ⟨h, by simp, by simp, by simp, by simp⟩
  | _ => cases h

theorem fieldV_sound (hE : EnvOk E) {t f : Nat} {a : V} {xa : Value} (h : fieldV (E.T t) f a k = some r) (ha : RepT w G ob a xa) :
    ∃ v xv, k v = some r ∧ RepT w G ob v xv ∧ (Instr.field t xa f).run E.P w = .ok xv w := by
  unfold fieldV at h
  obtain ⟨hok, h⟩ := bif_none h
  simp only [Bool.not_eq_false'] at hok
  obtain ⟨i, d, hT⟩ := hE.T t hok
  cases hf : (E.T t).offs[f]? with
  | none => rw [hf] at h; cases h
  | some q =>
    obtain ⟨off, sz, aa⟩ := q
    rw [hf] at h
    cases a with
    | agg cs =>
      obtain ⟨hb, h⟩ := bif_some h
      have hb : off + sz ≤ cs.length := by simpa using hb
      obtain ⟨fs, fl, fi, fd, rfl, h2, h3, h4, h5, h6, h7, h8⟩ := hT.field f off sz aa hf
      obtain ⟨xs, rfl, hl, hc⟩ := ha.agg_inv
      have hagg : (isAgg fl.type).run E.P w = .ok (aggB fd) w := by
        unfold isAgg aggB
        simp only [Sem.run_bind, run_und h7, Result.andThen_ok]
        cases fd <;> rfl
      refine ⟨_, if aggB fd = true then .agg (xs.extract off (off + sz)) else xs.getD off default, h, ?_, ?_⟩
      · rw [h8]
        unfold mkVal
        cases hfd : aggB fd with
        | true =>
          simp only [cond_true, if_true]
          refine .agg _ _ (by simp; omega) fun i hi => ?_
          have hi' : i < sz := by simp at hi; omega
          rw [cellAt_drop _ _ _ _ hi']
          have := hc (off + i) (by omega)
          have e : (xs.extract off (off + sz)).getD i default = xs.getD (off + i) default := by
            have h2 : off + i < xs.size := by omega
            have h3 : i < min (off + sz) xs.size - off := by omega
            simp only [Array.getD_eq_getD_getElem?, Array.getElem?_extract, if_pos h3]
          rw [e]; exact this
        | false =>
          simp only [cond_false, Bool.false_eq_true, if_false]
          split
          · rename_i c hcc
            have := hc off (by omega)
            have e : c = cellAt cs off := by
              have : cellAt ((cs.drop off).take sz) 0 = c := by rw [hcc]; rfl
              rw [← this, cellAt_drop _ _ _ _ h6]; rfl
            rw [e]; exact this
          · exact .dead _
      · have hz : (Go.sizeOf fl.type).run E.P w = .ok sz w := by simp [Go.sizeOf, typeInfo, h4, h5]
        have hoff : off < xs.size := by omega
        cases hfd : aggB fd with
        | true => rw [hfd] at hagg; simp [Instr.field, run_und hT.und, h2, asAgg, part, hagg, hz, h3]
        | false => rw [hfd] at hagg; simp [Instr.field, run_und hT.und, h2, asAgg, part, hagg, h3, hoff, Array.getD]
    | _ => cases h
end Go.Vk
end

section
namespace Go.Vk
open Go
set_option linter.unusedVariables false
set_option linter.unusedSimpArgs false
variable {w w' w0 : World} {S0 : SS} {F0 : Set'} {G G' : Gh} {ob ob' : Ob} {v : V} {x : Value} {σ σ' : St} {tm : Array Value} {id : Nat} {o o' : VO}
variable {R : Type} {r : R} {k : V → Option R} {kσ : St → Option R} {E : Env} {P : Program}

theorem splice_foldl (off : Nat) : ∀ (l : List Value) (n : Nat) (cs : Array Value), ((l.zipIdx n).foldl (fun cs (q : Value × Nat) => cs.setIfInBounds (off + q.2) q.1) cs).size = cs.size ∧
    ∀ q, ((l.zipIdx n).foldl (fun cs (q : Value × Nat) => cs.setIfInBounds (off + q.2) q.1) cs)[q]? = if off + n ≤ q ∧ q < off + n + l.length ∧ q < cs.size then l[q - off - n]? else cs[q]?
  | [], n, cs => ⟨rfl, fun q => by rw [if_neg (by simp; omega)]; rfl⟩
  | a :: l, n, cs => by
    obtain ⟨h1, h2⟩ := splice_foldl off l (n + 1) (cs.setIfInBounds (off + n) a)
    refine ⟨by simpa using h1, fun q => ?_⟩
    simp only [List.zipIdx_cons, List.foldl_cons]
    rw [h2 q]
    simp only [Array.size_setIfInBounds, Array.getElem?_setIfInBounds, List.length_cons]
    by_cases e : off + n = q
    · subst e
      rw [if_neg (by omega), if_pos rfl]
      by_cases hq : off + n < cs.size
      · rw [if_pos hq, if_pos ⟨by omega, by omega, hq⟩]
        have : off + n - off - n = 0 := by omega
        rw [this]; rfl
      · rw [if_neg hq, if_neg (by omega)]
        simp [Array.getElem?_eq_none (Nat.le_of_not_lt hq)]
    · rw [if_neg e]
      by_cases hc : off + (n + 1) ≤ q ∧ q < off + (n + 1) + l.length ∧ q < cs.size
      · rw [if_pos hc, if_pos ⟨by omega, by omega, hc.2.2⟩]
        have : q - off - n = (q - off - (n + 1)) + 1 := by omega
        rw [this]; rfl
      · rw [if_neg hc]
        by_cases hc' : off + n ≤ q ∧ q < off + n + (l.length + 1) ∧ q < cs.size
        · exact absurd ⟨by omega, by omega, hc'.2.2⟩ hc
        · rw [if_neg hc']

/-- Cells laid over others. -/
def splice (cs : Array Value) (off : Nat) (xs : Array Value) : Array Value := xs.zipIdx.foldl (fun cs (q : Value × Nat) => cs.setIfInBounds (off + q.2) q.1) cs

theorem splice_size (cs : Array Value) (off : Nat) (xs : Array Value) : (splice cs off xs).size = cs.size := by
  unfold splice
  rw [← Array.foldl_toList, Array.toList_zipIdx]
  exact (splice_foldl off xs.toList 0 cs).1

theorem splice_at (cs : Array Value) (off : Nat) (xs : Array Value) (q : Nat) : (splice cs off xs)[q]? = if off ≤ q ∧ q < off + xs.size ∧ q < cs.size then xs[q - off]? else cs[q]? := by
  unfold splice
  rw [← Array.foldl_toList, Array.toList_zipIdx]
  have := (splice_foldl off xs.toList 0 cs).2 q
  simp only [Nat.add_zero, Array.length_toList, Nat.sub_zero] at this
  rw [this]
  split <;> simp

/-- Cells of trees against cells of the world. -/
def CellsT (w : World) (G : Gh) (ob : Ob) (cs : List V) (xs : Array Value) : Prop := xs.size = cs.length ∧ ∀ i, i < cs.length → RepT w G ob (cellAt cs i) (xs.getD i default)

theorem cellAt_splice (cs vs : List V) (off i : Nat) (h : off + vs.length ≤ cs.length) :
    cellAt (cs.take off ++ vs ++ cs.drop (off + vs.length)) i = if off ≤ i ∧ i < off + vs.length then cellAt vs (i - off) else cellAt cs i := by
  unfold cellAt
  have hl : (cs.take off).length = off := by simp; omega
  by_cases h1 : i < off
  · rw [if_neg (by omega), List.append_assoc, List.getElem?_append_left (by omega), List.getElem?_take, if_pos h1]
  · by_cases h2 : i < off + vs.length
    · rw [if_pos ⟨by omega, h2⟩, List.append_assoc, List.getElem?_append_right (by omega), List.getElem?_append_left (by omega), hl]
    · rw [if_neg (by omega), List.append_assoc, List.getElem?_append_right (by omega), List.getElem?_append_right (by omega), List.getElem?_drop, hl]
      congr 2; omega

theorem CellsT.splice {cs vs : List V} {xs ys : Array Value} (h : CellsT w G ob cs xs) (hv : CellsT w G ob vs ys) {off : Nat} (hl : off + vs.length ≤ cs.length) :
    CellsT w G ob (cs.take off ++ vs ++ cs.drop (off + vs.length)) (splice xs off ys) := by
  refine ⟨by rw [splice_size, h.1]; simp; omega, fun i hi => ?_⟩
  have hi' : i < cs.length := by simp at hi; omega
  rw [cellAt_splice _ _ _ _ hl, Array.getD_eq_getD_getElem?, splice_at, hv.1, h.1]
  by_cases hc : off ≤ i ∧ i < off + vs.length
  · rw [if_pos hc, if_pos ⟨hc.1, hc.2, hi'⟩, ← Array.getD_eq_getD_getElem?]
    exact hv.2 _ (by omega)
  · rw [if_neg hc, if_neg (by omega), ← Array.getD_eq_getD_getElem?]
    exact h.2 i hi'

theorem zero_cells {z : Value} {zs : List V} (h : zeroOk zs z.cells.toList = true) : CellsT w G ob zs z.cells := by
  have hl := zeroOk_len h
  refine ⟨by simpa using hl.symm, fun i hi => ?_⟩
  obtain ⟨c, h1, h2⟩ := zeroOk_at h i hi
  have : z.cells.getD i default = c := by
    rw [Array.getD_eq_getD_getElem?, ← Array.getElem?_toList, h1]; rfl
  rw [this]
  exact .val _ _ (zeroOk1_rep h2 _ _ _ _)

/-- The parts of a literal, one laid over the other. -/
theorem fill_ok {fs : List (Nat × Nat × Bool)} {place : Nat → Option (Nat × Nat)} (hpl : ∀ i off sz a, fs[i]? = some (off, sz, a) → place i = some (off, sz)) :
    ∀ (ps : List (Nat × V)) (qs : List (Nat × Value)) (cs : List V) (xs : Array Value), ps.length = qs.length → (∀ i, i < ps.length → ∃ p q, ps[i]? = some p ∧ qs[i]? = some q ∧ p.1 = q.1 ∧ RepT w G ob p.2 q.2) →
      CellsT w G ob cs xs → ∀ cs', fillCells fs cs ps = some cs' → ∃ xs', Instr.fill place xs qs = some xs' ∧ CellsT w G ob cs' xs'
  | [], [], cs, xs, _, _, h, cs', hf => by simp [fillCells] at hf; subst hf; exact ⟨xs, rfl, h⟩
  | (i, v) :: ps, (i', y) :: qs, cs, xs, hl, hp, h, cs', hf => by
    obtain ⟨p, q, e1, e2, e3, e4⟩ := hp 0 (by simp)
    simp at e1 e2; subst e1 e2
    simp only at e3 e4; subst e3
    simp only [fillCells] at hf
    cases hfi : fs[i]? with
    | none => rw [hfi] at hf; simp at hf
    | some t =>
      obtain ⟨off, sz, a⟩ := t
      rw [hfi] at hf
      simp only at hf
      obtain ⟨hb, hf⟩ := bif_some hf
      simp only [Bool.and_eq_true, Nat.ble_eq] at hb
      obtain ⟨⟨b1, b2⟩, b3⟩ := hb
      have b2 := Nat.eq_of_beq_eq_true b2
      have hc := e4.cells b1
      have hcv : CellsT w G ob v.cells y.cells := ⟨hc.1, fun i hi => (hc.2 i hi).1⟩
      have hs := h.splice hcv (off := off) (by omega)
      rw [b2] at hs
      obtain ⟨xs', k1, k2⟩ := fill_ok hpl ps qs _ _ (by simpa using hl) (fun i hi => hp (i + 1) (by simpa using hi)) hs cs' hf
      refine ⟨xs', ?_, k2⟩
      simp only [Instr.fill, hpl i off sz a hfi]
      have f1 := hc.1; have f2 := h.1
      rw [if_neg (by simp; omega)]
      exact k1
  | [], _ :: _, _, _, hl, _, _, _, _ => by simp at hl
  | _ :: _, [], _, _, hl, _, _, _, _ => by simp at hl

theorem mapM_run {α β : Type} (P : Program) (f : α → Sem β) (g : α → β) (w : World) (fs : Array α) (h : ∀ a ∈ fs, (f a).run P w = .ok (g a) w) : (fs.mapM f).run P w = .ok (fs.map g) w := by
  rw [Array.mapM_eq_mapM_toList]
  have : ∀ l : List α, (∀ a ∈ l, (f a).run P w = .ok (g a) w) → (l.mapM f).run P w = .ok (l.map g) w := by
    intro l
    induction l with
    | nil => intro _; rfl
    | cons a l ih =>
      intro hl
      simp only [List.mapM_cons, Sem.run_bind, hl a (by simp), Result.andThen_ok, ih (fun b hb => hl b (by simp [hb])), Sem.run_pure, List.map_cons]
  have ht := this fs.toList (fun a ha => h a (by simpa using ha))
  rw [map_eq_pure_bind]
  simp only [Sem.run_bind, ht, Result.andThen_ok, Sem.run_pure]
  congr 1
  apply Array.ext'
  simp

theorem build_sound (hE : EnvOk E) {t : Nat} {parts : List (Nat × Operand)} {ρ : Operand → Value} (hok : (E.T t).ok = true) (hev : ∀ x, RepT w G ob (E.ev σ 0 x) (ρ x)) {cs : List V}
    (h : fillCells (E.T t).offs (E.T t).zero (parts.map fun p => (p.1, E.ev σ 0 p.2)) = some cs) (hne : (E.T t).offs.isEmpty = false) :
    ∃ xs, (Instr.build t (parts.toArray.map fun (p : Nat × Operand) => (p.1, ρ p.2))).run E.P w = .ok (.agg xs) w ∧ RepT w G ob (.agg cs) (.agg xs) := by
  obtain ⟨i, d, hT⟩ := hE.T t hok
  have hst : ∃ fs, d = .struct fs := by
    cases ho : (E.T t).offs with
    | nil => rw [ho] at hne; simp at hne
    | cons q qs =>
      obtain ⟨off, sz, a⟩ := q
      obtain ⟨fs, _, _, _, e, _⟩ := hT.field 0 off sz a (by rw [ho]; rfl)
      exact ⟨fs, e⟩
  obtain ⟨fs, rfl⟩ := hst
  obtain ⟨z, z1, z2, z3⟩ := hT.zero
  have hcount := hT.fields fs rfl
  have hplace : ∀ (j off sz : Nat) (a : Bool), (E.T t).offs[j]? = some (off, sz, a) → (fs.map fun f => (f.offset, (((E.P.info? f.type).map (·.size)).getD 0)))[j]? = some (off, sz) := by
    intro j off sz a hj
    obtain ⟨fs', fl, fi, fd, e, h2, h3, h4, h5, h6, h7, h8⟩ := hT.field j off sz a hj
    cases e
    simp [h2, h3, h4, h5]
  obtain ⟨xs', k1, k2⟩ := fill_ok (place := fun j => (fs.map fun f => (f.offset, (((E.P.info? f.type).map (·.size)).getD 0)))[j]?) hplace (parts.map fun p => (p.1, E.ev σ 0 p.2)) (parts.map fun p => (p.1, ρ p.2)) (E.T t).zero z.cells (by simp)
    (fun j hj => by
      have hj' : j < parts.length := by simpa using hj
      exact ⟨_, _, by rw [List.getElem?_map, List.getElem?_eq_getElem hj']; rfl, by rw [List.getElem?_map, List.getElem?_eq_getElem hj']; rfl, rfl, hev _⟩)
    (zero_cells z2) cs h
  refine ⟨xs', ?_, .agg _ _ k2.1.symm k2.2⟩
  have hmap : (fs.mapM fun f => do pure (f.offset, ← Go.sizeOf f.type) : Sem _).run E.P w = .ok (fs.map fun f => (f.offset, (((E.P.info? f.type).map (·.size)).getD 0))) w := by
    refine mapM_run E.P _ _ w fs fun f hf => ?_
    obtain ⟨j, hj, rfl⟩ := Array.mem_iff_getElem.1 hf
    have hjo : j < (E.T t).offs.length := by omega
    obtain ⟨fs', fl, fi, fd, e, h2, h3, h4, h5, h6, h7, h8⟩ := hT.field j _ _ _ (List.getElem?_eq_getElem hjo)
    cases e
    have : fs[j] = fl := by simpa [hj] using h2
    rw [this]
    simp [Go.sizeOf, typeInfo, h4]
  have k1' : Instr.fill (fun j => (fs.map fun f => (f.offset, (((E.P.info? f.type).map (·.size)).getD 0)))[j]?) z.cells (parts.toArray.map fun (p : Nat × Operand) => (p.1, ρ p.2)).toList = some xs' := by
    simpa using k1
  simp only [Instr.build, Sem.run_bind, zeroValue, typeInfo, run_program, Result.andThen_ok, hT.info, Sem.run_pure, z1, run_und hT.und, hmap, k1']
end Go.Vk
end

section
namespace Go.Vk
open Go
set_option linter.unusedVariables false
set_option linter.unusedSimpArgs false
variable {w w' w0 : World} {S0 : SS} {F0 : Set'} {G G' : Gh} {ob ob' : Ob} {v : V} {x : Value} {σ σ' : St} {tm : Array Value} {id : Nat} {o o' : VO}
variable {R : Type} {r : R} {k : V → Option R} {kσ : St → Option R} {E : Env} {P : Program}

theorem alloc_size (w : World) (ob : Obj) : (w.alloc ob).heap.size = w.heap.size + 1 := by simp
theorem alloc_old (w : World) (ob : Obj) {b : Nat} (h : b < w.heap.size) : (w.alloc ob).heap[b]? = w.heap[b]? := RowKit.Below.heap_alloc w ob b h
theorem alloc_new (w : World) (ob : Obj) : (w.alloc ob).heap[w.heap.size]? = some ob := by
  show (w.heap.push ob)[w.heap.size]? = _
  simp

theorem szs_alloc (w : World) (ob : Obj) : Szs w (w.alloc ob) := fun b cs e fr h => by
  have hb : b < w.heap.size := by
    rcases Nat.lt_or_ge b w.heap.size with h' | h'
    · exact h'
    · rw [Array.getElem?_eq_none h'] at h; cases h
  exact ⟨cs, by rw [alloc_old w ob hb]; exact h, rfl⟩

/-- A block more. -/
theorem Inv.alloc (h : Inv w0 S0 F0 G σ tm w) (ob : Obj) : Inv w0 S0 F0 G σ tm (w.alloc ob) ∧ (∀ b, Loose w0 S0 G σ w b → Loose w0 S0 G σ (w.alloc ob) b) ∧ Loose w0 S0 G σ (w.alloc ob) w.heap.size ∧
    Step w G (look σ.objs) (w.alloc ob) G (look σ.objs) := by
  obtain ⟨h1, h2, h3, h4⟩ := h.world (w' := w.alloc ob) (szs_alloc w ob) (by rw [alloc_size]; omega) rfl rfl rfl (fun b hb _ => alloc_old w ob hb)
  exact ⟨h1, h2, h3 _ (Nat.le_refl _) (by rw [alloc_size]; omega), h4⟩

/-- The steps of two moves. -/
theorem Step.trans {w2 : World} {G2 : Gh} {ob2 : Ob} (h1 : Step w G ob w' G' ob') (h2 : Step w' G' ob' w2 G2 ob2) (hN : ∀ id b, G.N id b → w2.heap[b]? = w'.heap[b]?) : Step w G ob w2 G2 ob2 := by
  refine ⟨h1.szs.trans h2.szs, fun b hb => h2.F b (h1.F b hb), fun id h => h2.dom id (h1.dom id h), fun b hb => (h2.wF b (h1.F b hb)).trans (h1.wF b hb), fun id b o o2 hb ho ho2 hv => ?_, fun id o2 ho hd => ?_⟩
  · obtain ⟨o1, a1, a2, a3, a4, a5, a6, a7⟩ := h2.obj id o2 ho2 (h1.dom id (by rw [ho]; simp))
    obtain ⟨o0, b1, b2, b3, b4, b5, b6, b7⟩ := h1.obj id o1 a1 (by rw [ho]; simp)
    rw [ho] at b1; cases b1
    have e1 : o1.ver = o.ver := by omega
    have e2 : o2.ver = o1.ver := by omega
    rw [← h1.wN id b o o1 hb ho a1 e1]
    rcases (b7 e1).1 b hb with hf | hn
    · exact h2.wF b hf
    · exact h2.wN id b o1 o2 hn a1 ho2 e2
  · obtain ⟨o1, a1, a2, a3, a4, a5, a6, a7⟩ := h2.obj id o2 ho (h1.dom id hd)
    obtain ⟨o0, b1, b2, b3, b4, b5, b6, b7⟩ := h1.obj id o1 a1 hd
    refine ⟨o0, b1, a2.trans b2, a3.trans b3, a4.trans b4, a5.trans b5, Nat.le_trans b6 a6, fun hv => ?_⟩
    have e1 : o1.ver = o0.ver := by omega
    refine ⟨fun b hb => ?_, fun hbx b off cs e fr p a n c hl hb hp => ?_⟩
    · rcases (b7 e1).1 b hb with h | h
      · exact .inl (h2.F b h)
      · exact (a7 (by omega)).1 b h
    · obtain ⟨cs', k1, k2⟩ := (b7 e1).2 hbx b off cs e fr p a n c hl hb hp
      exact (a7 (by omega)).2 (b4.trans hbx) b off cs' e fr p a n c (b5.trans hl) k1 k2

/-- A new variable. -/
theorem Inv.box (h : Inv w0 S0 F0 G σ tm w) (hfree : σ.free id = true) {cs : List V} {xs : Array Value} (hc : CellsT w G (look σ.objs) cs xs) (e : TypeId) :
    ∃ G', Inv w0 S0 F0 G' (σ.putO id (some ⟨true, .dp, cs.length, false, 1, fun _ => cs, 0⟩)) tm (w.alloc (.cells xs e)) ∧ RepT (w.alloc (.cells xs e)) G' (look (σ.putO id (some ⟨true, .dp, cs.length, false, 1, fun _ => cs, 0⟩)).objs) (.adr id 0 0) (.pointer (some ⟨w.heap.size, 0, none⟩)) := by
  obtain ⟨h1, h2, h3, h4⟩ := h.alloc (.cells xs e)
  refine ⟨_, h1.make (o := ⟨true, .dp, cs.length, false, 1, fun _ => cs, 0⟩) hfree (l := some (w.heap.size, 0)) (L := none') (fun b hb => hb.elim) (fun b off hl _ => by cases hl; exact ⟨h3, fun h => h⟩) (fun hs => ?_), ?_⟩
  · refine .row w.heap.size 0 xs e (0, 0) (fun _ j => xs.getD j default) (by simp [Gh.at]) (alloc_new _ _) (by rw [hc.1]; simp) (fun i hi => rfl) (fun i j hi hj => ?_) (fun hf => by cases hf) (fun _ i hi hh => by omega) (fun hf => by cases hf) ?_
    · have hi0 : i = 0 := by have : i < 1 := hi; omega
      subst hi0
      have hj' : j < xs.size := by rw [hc.1]; exact hj
      have e' : 0 + 0 * cs.length + j = j := by omega
      show xs[0 + 0 * cs.length + j]? = _
      rw [e']; simp [Array.getD, hj']
    · exact ⟨rfl, fun j hj => ((hc.2 j hj).step h4).step hs⟩
  · refine .adr _ _ _ _ ⟨_, _, rfl⟩ (by rw [look_putO]; simp) fun o ho => ?_
    rw [look_putO] at ho; simp at ho; subst ho
    exact ⟨w.heap.size, 0, by simp [Gh.at], by simp⟩

/-- What a new row of elements holds. -/
structure NewRow (w : World) (F : Set') (L : Set') (o : VO) (c : Nat) (xs : Array Value) : Prop where
  size : xs.size = c * o.sz
  le : o.n ≤ c
  len : ∀ i, i < o.n → (o.get i).length = o.sz
  fl : o.fl = true → ∀ i j, i < o.n → j < o.sz → (cellAt (o.get i) j).leaf = true
  dp : o.st = .dp → ∃ Sr : Nat → Nat → Set', (∀ i j, i < o.n → j < o.sz → Rep w F true (cellAt (o.get i) j) (xs.getD (i * o.sz + j) default) (Sr i j)) ∧ (∀ i j x, i < o.n → j < o.sz → Sr i j x → L x) ∧
      (∀ i j i' j' x, i < o.n → j < o.sz → i' < o.n → j' < o.sz → Sr i j x → Sr i' j' x → i = i' ∧ j = j')
  sh : o.st = .sh → ∀ i j, i < o.n → j < o.sz → Rep w F false (cellAt (o.get i) j) (xs.getD (i * o.sz + j) default) none'
  nfz : o.st ≠ .fz
  nbox : o.box = false

theorem rowPos {n sz c i j : Nat} (hi : i < n) (hj : j < sz) (hn : n ≤ c) : i * sz + j < c * sz := by
  have h1 : (i + 1) * sz ≤ c * sz := Nat.mul_le_mul_right _ (by omega)
  rw [Nat.add_mul] at h1; omega

/-- A new row of elements. -/
theorem Inv.newRow (h : Inv w0 S0 F0 G σ tm w) (hfree : σ.free id = true) {L : Set'} (hL : ∀ b, L b → Loose w0 S0 G σ w b) {c : Nat} {xs : Array Value} (hr : NewRow w G.F L o c xs) (e : TypeId) :
    ∃ G', Inv w0 S0 F0 G' (σ.putO id (some o)) tm (w.alloc (.cells xs e)) ∧ RepT (w.alloc (.cells xs e)) G' (look (σ.putO id (some o)).objs) (.ref id none) (.slice (some ⟨w.heap.size, 0, none⟩) o.n c) := by
  obtain ⟨h1, h2, h3, h4⟩ := h.alloc (.cells xs e)
  have hsz : 0 + o.n * o.sz ≤ xs.size := by rw [hr.size]; have := Nat.mul_le_mul_right o.sz hr.le; omega
  have hnL : ¬ L w.heap.size := fun hb => absurd (hL _ hb).lt (by omega)
  refine ⟨_, h1.make (o := o) hfree (l := some (w.heap.size, 0)) (L := L) (fun b hb => h2 b (hL b hb)) (fun b off hl _ => by cases hl; exact ⟨h3, hnL⟩) (fun hs => ?_), ?_⟩
  · refine .row w.heap.size 0 xs e (0, 0) (fun i j => xs.getD (i * o.sz + j) default) (by simp [Gh.at]) (alloc_new _ _) hsz hr.len (fun i j hi hj => ?_) hr.fl (fun _ i hi hh => by omega) (fun hf => absurd hf hr.nfz) ?_
    · have := rowPos hi hj hr.le
      have hp : i * o.sz + j < xs.size := by rw [hr.size]; exact this
      have e' : 0 + i * o.sz + j = i * o.sz + j := by omega
      rw [e']; simp [Array.getD, hp]
    · have hold : ∀ b, (L b ∨ G.F b) → (w.alloc (.cells xs e)).heap[b]? = w.heap[b]? := fun b hb => alloc_old _ _ (hb.elim (fun hb => (hL b hb).lt) (h.flt b))
      unfold CellsOk
      rw [hr.nbox]
      cases hst : o.st with
      | dp =>
        obtain ⟨Sr, k1, k2, k3⟩ := hr.dp hst
        refine ⟨Sr, fun i j hi hj => (k1 i j hi hj).world fun b hb => hold b (hb.elim (fun hb => .inl (k2 i j b hi hj hb)) .inr), fun i j x hi hj hx => ?_, k3⟩
        have := k2 i j x hi hj hx
        simpa [Gh.at] using this
      | sh => exact fun i j hi hj => (hr.sh hst i j hi hj).world fun b hb => hold b (hb.elim (fun h => h.elim) .inr)
      | fz => exact absurd hst hr.nfz
  · refine .ref _ _ _ ⟨_, _, _, rfl⟩ (by rw [look_putO]; simp) fun o2 ho => ?_
    rw [look_putO] at ho; simp at ho; subst ho
    refine ⟨hr.nbox, _, _, rfl, hr.le, by simp [offOf, subRows, VO.rows], .inr ⟨w.heap.size, 0, xs, e, (0, 0), by simp [Gh.at], by simp [offOf], alloc_new _ _, ?_⟩⟩
    rw [hr.size]; simp [offOf]
end Go.Vk
end

section
namespace Go.Vk
open Go
set_option linter.unusedVariables false
set_option linter.unusedSimpArgs false
variable {w w' w0 : World} {S0 : SS} {F0 : Set'} {G G' : Gh} {ob ob' : Ob} {v : V} {x : Value} {σ σ' : St} {tm : Array Value} {id : Nat} {o o' : VO}
variable {R : Type} {r : R} {k : V → Option R} {kσ : St → Option R} {E : Env} {P : Program}

/-- An object as a tree. -/
theorem ObjOk.tree (h : ObjOk w G ob id o) (hbx : o.box = false) (hr : RefOk w (G.loc id) o none x) (hroot : ∀ b off, G.loc id = some (b, off) → ¬ G.N id b) :
    (o.st = .dp → Rep w G.F true (.sl o.sz o.fl none none o.n o.get) x (fun b => (∃ off, G.loc id = some (b, off)) ∨ G.N id b)) ∧
    (o.st ≠ .dp → Rep w (fun b => G.F b ∨ ∃ off, G.loc id = some (b, off)) false (.sl o.sz o.fl none none o.n o.get) x none') := by
  obtain ⟨_, a, c, rfl, h3, h4, h5⟩ := hr
  simp only [subRows, VO.rows] at h3 h4 h5 ⊢
  have nul : o.n = 0 → c = 0 → ∀ m F S, Rep w F m (.sl o.sz o.fl none none o.n o.get) (.slice a o.n c) S := by
    intro e1 e2 m F S
    have : ∀ n, n = 0 → Rep w F m (.sl o.sz o.fl none none n o.get) (.slice a n c) S := by
      intro n hn; subst hn e2; exact .nul _ _ _ _ _ _ _ _ (.inl rfl)
    exact this _ e1
  rcases h5 with h5 | ⟨b, off, cs0, e0, fr0, q1, rfl, q3, q4⟩
  · have : o.n = 0 := by omega
    exact ⟨fun _ => nul this h5 _ _ _, fun _ => nul this h5 _ _ _⟩
  · cases h with
    | null n1 n2 n3 => rw [q1] at n1; cases n1
    | row b' off' cs e fr xs l1 hb hsz hlen hxs hfl hp hF hc =>
      rw [q1] at l1; cases l1
      rw [hb] at q3; cases q3
      simp only [offOf, Nat.zero_mul, Nat.add_zero, Nat.zero_add] at q4 ⊢
      unfold CellsOk at hc
      rw [hbx] at hc
      refine ⟨fun hst => ?_, fun hst => ?_⟩
      · rw [hst] at hc
        obtain ⟨Sr, s1, s2, s3⟩ := hc
        exact .slO _ _ _ _ _ _ b off c cs0 e0 fr0 xs _ Sr hb (.inl ⟨off, q1⟩) (hp (by rw [hst]; simp)) (.inl rfl) h3 q4 hlen hxs s1 hfl (fun i j x hi hj hx => ⟨.inr (s2 i j x hi hj hx), fun e => hroot b off q1 (e ▸ s2 i j x hi hj hx)⟩) s3
      · have hc' : ∀ i j, i < o.n → j < o.sz → Rep w G.F false (cellAt (o.get i) j) (xs i j) none' := by
          cases hs : o.st with
          | dp => exact absurd hs hst
          | sh => rw [hs] at hc; exact hc
          | fz => rw [hs] at hc; exact hc
        exact .slF _ _ _ _ _ _ b off c cs0 e0 fr0 xs _ hb (.inr ⟨off, q1⟩) (.inl rfl) h3 q4 hlen hxs (fun i j hi hj => (hc' i j hi hj).mono fun b hb => .inl hb) hfl

theorem Own.le_dp {a b : Own} (h : a.le b = .dp) : a = .dp ∧ b = .dp := by
  cases a <;> cases b <;> simp_all [Own.le]

theorem Own.le_nf {a b : Own} (ha : a ≠ .fz) (hb : b ≠ .fz) : a.le b ≠ .fz := by
  cases a <;> cases b <;> first | exact absurd rfl ha | exact absurd rfl hb | (intro h; cases h)

theorem kill_step (h : Inv w0 S0 F0 G σ tm w) (hid : look σ.objs id = some (some o)) : Step w G (look σ.objs) w (G.drop id) (look (σ.putO id none).objs) :=
  ⟨.refl w, fun _ h => h, fun k hk => by rw [look_putO]; split <;> simp [hk], fun _ _ => rfl, fun _ _ _ _ _ _ _ _ => rfl, fun k o' hk hd => by
    rw [look_putO] at hk
    by_cases e : id = k
    · simp [e] at hk
    · simp [e] at hk
      have e' : k ≠ id := fun h => e h.symm
      exact ⟨o', hk, rfl, rfl, rfl, rfl, Nat.le_refl _, fun _ => ⟨fun b hb => .inr (by simp only [Gh.drop, if_neg e']; exact hb), fun _ => .refl⟩⟩⟩

theorem share_step {L : Set'} : Step w G ob w (G.more L) ob :=
  ⟨.refl w, fun _ h => .inl h, fun _ hk => hk, fun _ _ => rfl, fun _ _ _ _ _ _ _ _ => rfl, fun k o' hk hd => ⟨o', hk, rfl, rfl, rfl, rfl, Nat.le_refl _, fun _ => ⟨fun b hb => .inr hb, fun _ => .refl⟩⟩⟩

theorem down_step (h : Inv w0 S0 F0 G σ tm w) (hid : look σ.objs id = some (some o)) (fz : Bool) : Step w G (look σ.objs) w (G.down id fz) (look (σ.putO id (some (o.low fz))).objs) :=
  ⟨.refl w, fun _ h => .inl h, fun k hk => by rw [look_putO]; split <;> simp [hk], fun _ _ => rfl, fun _ _ _ _ _ _ _ _ => rfl, fun k o' hk hd => by
      rw [look_putO] at hk
      by_cases e : id = k
      · subst e; simp at hk; subst hk
        exact ⟨o, hid, rfl, rfl, rfl, rfl, Nat.le_refl _, fun _ => ⟨fun b hb => .inl (.inr (.inl hb)), fun _ => .refl⟩⟩
      · simp [e] at hk
        have e' : k ≠ id := fun h => e h.symm
        exact ⟨o', hk, rfl, rfl, rfl, rfl, Nat.le_refl _, fun _ => ⟨fun b hb => .inr (by simp only [Gh.down, if_neg e']; exact hb), fun _ => .refl⟩⟩⟩

theorem Loose.down {b : Nat} (h : Loose w0 S0 G σ w b) (hid : look σ.objs id = some (some o)) (fz : Bool) : Loose w0 S0 (G.down id fz) (σ.putO id (some (o.low fz))) w b := by
  refine ⟨h.lt, h.mine, fun hf => ?_, fun k hk => ?_, fun k o' off hk hl => ?_⟩
  · rcases hf with hf | hf | ⟨_, off, hf⟩
    · exact h.nF hf
    · exact h.nN id hf
    · exact h.nR id o off hid hf
  · by_cases e : k = id
    · simp [Gh.down, e, none'] at hk
    · simp [Gh.down, e] at hk; exact h.nN k hk
  · rw [look_putO] at hk
    by_cases e : id = k
    · subst e; exact h.nR id o off hid hl
    · simp [e] at hk; exact h.nR k o' off hk hl

/-- What was read from an object is kept: the object's parts are shared. -/
theorem downTo_sound (hI : Inv w0 S0 F0 G σ tm w) {src : Option (Nat × Nat)} (h : downTo σ src kσ = some r) {A0 : Set'} (hA0 : ∀ b, A0 b → Loose w0 S0 G σ w b) :
    ∃ σ' G', kσ σ' = some r ∧ Inv w0 S0 F0 G' σ' tm w ∧ Step w G (look σ.objs) w G' (look σ'.objs) ∧ σ'.tmps = σ.tmps ∧ (∀ b, A0 b → Loose w0 S0 G' σ' w b) ∧
      (∀ A ver, src = some (A, ver) → ∃ o, look σ.objs A = some (some o) ∧ o.ver = ver ∧ ∀ b, G.F b ∨ G.N A b → G'.F b) := by
  unfold downTo at h
  cases src with
  | none => exact ⟨σ, G, h, hI, ⟨.refl w, fun _ h => h, fun _ h => h, fun _ _ => rfl, fun _ _ _ _ _ _ _ _ => rfl, fun k o' hk hd => ⟨o', hk, rfl, rfl, rfl, rfl, Nat.le_refl _, fun _ => ⟨fun b hb => .inr hb, fun _ => .refl⟩⟩⟩, rfl, hA0, fun A ver e => by cases e⟩
  | some p =>
    obtain ⟨A, ver⟩ := p
    simp only at h
    cases ho : σ.obj A with
    | none => rw [ho] at h; cases h
    | some o =>
      rw [ho] at h
      have hlk := obj_look.1 ho
      obtain ⟨hv, h⟩ := bif_some h
      have hv := Nat.eq_of_beq_eq_true hv
      refine ⟨_, _, h, hI.down hlk false, down_step hI hlk false, rfl, fun b hb => (hA0 b hb).down hlk false, fun A' ver' e => ?_⟩
      cases e
      exact ⟨o, hlk, hv, fun b hb => hb.elim (fun hb => .inl hb) (fun hb => .inr (.inl hb))⟩

/-- What taking in has made of some cells. -/
structure Absorbed (w0 : World) (S0 : SS) (F0 : Set') (tm : Array Value) (w : World) (σ : St) (G : Gh) (σ' : St) (G' : Gh) (cs' : List V) (ys : Nat → Value) (ms : Nat → Bool) (Sr : Nat → Set') (A0 : Set') : Prop where
  inv : Inv w0 S0 F0 G' σ' tm w
  step : Step w G (look σ.objs) w G' (look σ'.objs)
  tmps : σ'.tmps = σ.tmps
  rep : ∀ i, i < cs'.length → Rep w G'.F (ms i) (cellAt cs' i) (ys i) (Sr i)
  loose : ∀ i b, i < cs'.length → ms i = true → Sr i b → Loose w0 S0 G' σ' w b ∧ ¬ A0 b
  old : ∀ b, A0 b → Loose w0 S0 G' σ' w b
  dis : ∀ i i' b, i < cs'.length → i' < cs'.length → ms i = true → ms i' = true → Sr i b → Sr i' b → i = i'
  lf : ∀ i, i < cs'.length → (cellAt cs' i).leaf = true → ∀ b, ¬ Sr i b

theorem Step.same : Step w G ob w G ob :=
  ⟨.refl w, fun _ h => h, fun _ h => h, fun _ _ => rfl, fun _ _ _ _ _ _ _ _ => rfl, fun k o' hk hd => ⟨o', hk, rfl, rfl, rfl, rfl, Nat.le_refl _, fun _ => ⟨fun b hb => .inr hb, fun _ => .refl⟩⟩⟩

theorem Step.trans' {G2 : Gh} {ob2 : Ob} (h1 : Step w G ob w G' ob') (h2 : Step w G' ob' w G2 ob2) : Step w G ob w G2 ob2 := h1.trans h2 fun _ _ _ => rfl

/-- One more cell in front. -/
theorem Absorbed.cons {G1 : Gh} {σ1 : St} {c' : V} {cs' : List V} {y : Value} {ys : Nat → Value} {m : Bool} {ms : Nat → Bool} {S : Set'} {Sr : Nat → Set'} {A0 : Set'}
    (h1 : Step w G (look σ.objs) w G1 (look σ1.objs)) (ht : σ1.tmps = σ.tmps) (hc : Rep w G1.F m c' y S) (hlf : c'.leaf = true → ∀ b, ¬ S b) (hS : ∀ b, m = true → S b → ¬ A0 b)
    (h : Absorbed w0 S0 F0 tm w σ1 G1 σ' G' cs' (fun i => ys (i + 1)) ms Sr (fun b => A0 b ∨ (m = true ∧ S b))) (hy : ys 0 = y) :
    Absorbed w0 S0 F0 tm w σ G σ' G' (c' :: cs') ys (fun i => match i with | 0 => m | i + 1 => ms i) (fun i => match i with | 0 => S | i + 1 => Sr i) A0 := by
  refine ⟨h.inv, h1.trans' h.step, h.tmps.trans ht, fun i hi => ?_, fun i b hi hm hb => ?_, fun b hb => h.old b (.inl hb), fun i i' b hi hi' hm hm' hb hb' => ?_, fun i hi hl => ?_⟩
  · cases i with
    | zero => rw [hy]; exact hc.mono h.step.F
    | succ i => exact h.rep i (by simpa using hi)
  · cases i with
    | zero => exact ⟨h.old b (.inr ⟨hm, hb⟩), hS b hm hb⟩
    | succ i =>
      obtain ⟨k1, k2⟩ := h.loose i b (by simpa using hi) hm hb
      exact ⟨k1, fun h => k2 (.inl h)⟩
  · cases i with
    | zero =>
      cases i' with
      | zero => rfl
      | succ i' => exact absurd (.inr ⟨hm, hb⟩) (h.loose i' b (by simpa using hi') hm' hb').2
    | succ i =>
      cases i' with
      | zero => exact absurd (.inr ⟨hm', hb'⟩) (h.loose i b (by simpa using hi) hm hb).2
      | succ i' => rw [h.dis i i' b (by simpa using hi) (by simpa using hi') hm hm' hb hb']
  · cases i with
    | zero => exact hlf hl
    | succ i => exact h.lf i (by simpa using hi) hl

theorem absorb_sound : ∀ (cs : List V) (σ : St) (G : Gh) (own : Own) (ys : Nat → Value) (A0 : Set') (k : St → List V → Own → Option R), absorb σ cs own k = some r → Inv w0 S0 F0 G σ tm w →
    (∀ i, i < cs.length → RepT w G (look σ.objs) (cellAt cs i) (ys i)) → (∀ b, A0 b → Loose w0 S0 G σ w b) →
    ∃ σ' G' cs' own' ms Sr, k σ' cs' own' = some r ∧ Absorbed w0 S0 F0 tm w σ G σ' G' cs' ys ms Sr A0 ∧ cs'.length = cs.length ∧ (own' = .dp → own = .dp ∧ ∀ i, i < cs.length → ms i = true) ∧
      (∀ i, i < cs.length → (cellAt cs' i).one = true ∧ (ys i).oneCell' = true) ∧ (own ≠ .fz → own' ≠ .fz)
  | [], σ, G, own, ys, A0, k, h, hI, hc, hA => by
    simp only [absorb] at h
    exact ⟨σ, G, [], own, fun _ => true, fun _ => none', h, ⟨hI, .same, rfl, fun i hi => absurd hi (by simp), fun i b hi => absurd hi (by simp), hA, fun i i' b hi => absurd hi (by simp), fun i hi => absurd hi (by simp)⟩, rfl, fun e => ⟨e, fun i hi => absurd hi (by simp)⟩, fun i hi => absurd hi (by simp), fun h => h⟩
  | c :: cs, σ, G, own, ys, A0, k, h, hI, hc, hA => by
    have h0 : RepT w G (look σ.objs) c (ys 0) := hc 0 (by simp)
    -- what remains once the first cell is done
    have rest : ∀ (σ1 : St) (G1 : Gh) (c' : V) (m : Bool) (S : Set') (own1 : Own), absorb σ1 cs own1 (fun σ' cs' w' => k σ' (c' :: cs') w') = some r → Inv w0 S0 F0 G1 σ1 tm w → Step w G (look σ.objs) w G1 (look σ1.objs) → σ1.tmps = σ.tmps →
        Rep w G1.F m c' (ys 0) S → (c'.leaf = true → ∀ b, ¬ S b) → (∀ b, m = true → S b → Loose w0 S0 G1 σ1 w b ∧ ¬ A0 b) → (∀ b, A0 b → Loose w0 S0 G1 σ1 w b) → (own1 = .dp → own = .dp ∧ m = true) → c'.one = true ∧ (ys 0).oneCell' = true → (own ≠ .fz → own1 ≠ .fz) →
        ∃ σ' G' cs' own' ms Sr, k σ' cs' own' = some r ∧ Absorbed w0 S0 F0 tm w σ G σ' G' cs' ys ms Sr A0 ∧ cs'.length = (c :: cs).length ∧ (own' = .dp → own = .dp ∧ ∀ i, i < (c :: cs).length → ms i = true) ∧
          (∀ i, i < (c :: cs).length → (cellAt cs' i).one = true ∧ (ys i).oneCell' = true) ∧ (own ≠ .fz → own' ≠ .fz) := by
      intro σ1 G1 c' m S own1 h I1 st1 t1 rep1 lf1 lo1 old1 dp1 one1 fz1
      obtain ⟨σ', G', cs', own', ms, Sr, k1, k2, k3, k4, k5, k6⟩ := absorb_sound cs σ1 G1 own1 (fun i => ys (i + 1)) (fun b => A0 b ∨ (m = true ∧ S b)) (fun σ' cs' w' => k σ' (c' :: cs') w') h I1
        (fun i hi => (hc (i + 1) (by simpa using hi)).step st1) (fun b hb => hb.elim (old1 b) fun hb => (lo1 b hb.1 hb.2).1)
      refine ⟨σ', G', c' :: cs', own', _, _, k1, Absorbed.cons st1 t1 rep1 lf1 (fun b hm hb => (lo1 b hm hb).2) k2 rfl, by simp [k3], fun e => ?_, fun i hi => ?_, fun e => k6 (fz1 e)⟩
      · obtain ⟨e1, e2⟩ := k4 e
        obtain ⟨e3, e4⟩ := dp1 e1
        refine ⟨e3, fun i hi => ?_⟩
        cases i with
        | zero => exact e4
        | succ i => exact e2 i (by simpa using hi)
      · cases i with
        | zero => exact one1
        | succ i => exact k5 i (by simpa using hi)
    have leafCase : ∀ c, c.leaf = true → RepT w G (look σ.objs) c (ys 0) → absorb σ cs own (fun σ' cs' w' => k σ' (c :: cs') w') = some r → _ := fun c hl hr h =>
      rest σ G c true none' own h hI .same rfl (hr.leaf hl) (fun _ b hb => hb) (fun b _ hb => hb.elim) hA (fun e => ⟨e, rfl⟩) (by
        have : c.one = true := by cases c <;> first | rfl | (simp [V.leaf] at hl)
        exact ⟨this, (hr.one_cell this).1⟩) (fun e => e)
    cases c with
    | ref id sub =>
      simp only [absorb] at h
      cases sub with
      | some p => cases h
      | none =>
        cases ho : σ.obj id with
        | none => rw [ho] at h; cases h
        | some o =>
          rw [ho] at h
          have hlk := obj_look.1 ho
          simp only at h
          obtain ⟨hbx, h⟩ := bif_none h
          cases h0 with
          | val _ _ hr => cases hr
          | ref _ _ _ hx hA' hr =>
            have href := hr o hlk
            have hobj := hI.objs id o hlk
            have hone : (ys 0).oneCell' = true := by obtain ⟨a, l, c, e⟩ := hx; rw [e]; rfl
            cases hst : o.st with
            | fz =>
              rw [hst] at h
              have hroot : ∀ b off, G.loc id = some (b, off) → ¬ G.N id b := fun b off hl hn => (hI.nest id b hn).2.2 ((hI.root' hlk hl).2 hst)
              have ht := (hobj.tree hbx href hroot).2 (by rw [hst]; simp)
              refine rest σ G _ false none' _ h hI .same rfl (ht.mono fun b hb => hb.elim (fun h => h) fun ⟨off, hl⟩ => (hI.root' hlk hl).2 hst) (fun _ b hb => hb) (fun b e => by cases e) hA (fun e => by have := (Own.le_dp e).2; cases this) ⟨rfl, hone⟩ (fun e => Own.le_nf e (by intro h; cases h))
            | sh =>
              rw [hst] at h
              obtain ⟨I1, l1, l2⟩ := hI.kill hlk
              have hroot : ∀ b off, G.loc id = some (b, off) → ¬ G.N id b := fun b off hl => (hI.root id o b off hlk hl (by rw [hst]; simp)).2.2.2 id
              have ht := (hobj.tree hbx href hroot).2 (by rw [hst]; simp)
              have hL : ∀ b, (∃ off, G.loc id = some (b, off)) → Loose w0 S0 (G.drop id) (σ.putO id none) w b := fun b ⟨off, hl⟩ => l2 b off hl (by rw [hst]; simp)
              refine rest (σ.putO id none) ((G.drop id).more fun b => ∃ off, G.loc id = some (b, off)) _ false none' _ h (I1.share hL) ((kill_step hI hlk).trans' share_step) rfl ht (fun _ b hb => hb) (fun b e => by cases e)
                (fun b hb => ((hA b hb).kill id).more fun ⟨off, hl⟩ => (hA b hb).nR id o off hlk hl) (fun e => by have := (Own.le_dp e).2; cases this) ⟨rfl, hone⟩ (fun e => Own.le_nf e (by intro h; cases h))
            | dp =>
              rw [hst] at h
              obtain ⟨I1, l1, l2⟩ := hI.kill hlk
              have hroot : ∀ b off, G.loc id = some (b, off) → ¬ G.N id b := fun b off hl => (hI.root id o b off hlk hl (by rw [hst]; simp)).2.2.2 id
              have ht := (hobj.tree hbx href hroot).1 hst
              refine rest (σ.putO id none) (G.drop id) _ true _ _ h I1 (kill_step hI hlk) rfl ht (fun e => by simp [V.leaf] at e) (fun b _ hb => ?_) (fun b hb => (hA b hb).kill id) (fun e => ⟨(Own.le_dp e).1, rfl⟩) ⟨rfl, hone⟩ (fun e => Own.le_nf e (by intro h; cases h))
              rcases hb with ⟨off, hl⟩ | hb
              · exact ⟨l2 b off hl (by rw [hst]; simp), fun ha => (hA b ha).nR id o off hlk hl⟩
              · exact ⟨l1 b hb, fun ha => (hA b ha).nN id hb⟩
    | sl sz fl cap src n g =>
      simp only [absorb] at h
      cases hn0 : nil0 cap src n with
      | true =>
        rw [hn0] at h
        exact rest σ G (.sl sz fl none none n g) true none' own h hI .same rfl (nil0_rep hn0 h0) (fun _ b hb => hb) (fun b _ hb => hb.elim) hA (fun e => ⟨e, rfl⟩) ⟨rfl, (h0.one_cell rfl).1⟩ (fun e => e)
      | false =>
      rw [hn0] at h
      simp only [cond_false] at h
      obtain ⟨σ1, G1, h, I1, st1, t1, old1, hsrc⟩ := downTo_sound hI h hA
      have hone : (ys 0).oneCell' = true := (h0.one_cell rfl).1
      have hrep : Rep w G1.F false (.sl sz fl none none n g) (ys 0) none' := by
        cases h0 with
        | val _ _ hr => exact hr.retag.mono st1.F
        | view _ _ _ A ver i j _ _ _ hx hA' hle hr =>
          obtain ⟨oA, e1, e2, e3⟩ := hsrc A ver rfl
          exact (hr oA e1 e2).retag.mono e3
      exact rest σ1 G1 _ false none' _ h I1 st1 t1 hrep (fun _ b hb => hb) (fun b e => by cases e) old1 (fun e => by have := (Own.le_dp e).2; cases this) ⟨rfl, hone⟩ (fun e => Own.le_nf e (by intro h; cases h))
    | int kk n => exact leafCase _ rfl h0 (by simpa [absorb, V.leaf] using h)
    | bool b => exact leafCase _ rfl h0 (by simpa [absorb, V.leaf] using h)
    | str s => exact leafCase _ rfl h0 (by simpa [absorb, V.leaf] using h)
    | nilp => exact leafCase _ rfl h0 (by simpa [absorb, V.leaf] using h)
    | nilf => exact leafCase _ rfl h0 (by simpa [absorb, V.leaf] using h)
    | nili => exact leafCase _ rfl h0 (by simpa [absorb, V.leaf] using h)
    | fn f cs => simp [absorb, V.leaf] at h
    | agg cs => simp [absorb, V.leaf] at h
    | tup cs => simp [absorb, V.leaf] at h
    | pv src row j => simp [absorb, V.leaf] at h
    | adr id i j => simp [absorb, V.leaf] at h
    | dead => simp [absorb, V.leaf] at h
    | ub => simp [absorb, V.leaf] at h
    | hole => simp [absorb, V.leaf] at h
end Go.Vk
end

section
namespace Go.Vk
open Go
set_option linter.unusedVariables false
set_option linter.unusedSimpArgs false
variable {w w' w0 : World} {S0 : SS} {F0 : Set'} {G G' : Gh} {ob ob' : Ob} {v : V} {x : Value} {σ σ' : St} {tm : Array Value} {id : Nat} {o o' : VO}
variable {R : Type} {r : R} {k : V → Option R} {kσ : St → Option R} {E : Env} {P : Program}

theorem setCells_heap (b : Nat) : ∀ (vs : List Value) (p : Nat) (w : World), (w.setCells b p vs).heap.size = w.heap.size ∧ (∀ b', b' ≠ b → (w.setCells b p vs).heap[b']? = w.heap[b']?) ∧
    (w.setCells b p vs).os = w.os ∧ (w.setCells b p vs).tape = w.tape ∧ (w.setCells b p vs).output = w.output ∧
    (∀ cs e fr, w.heap[b]? = some (.cells cs e fr) → (w.setCells b p vs).heap[b]? = some (.cells ((vs.zipIdx 0).foldl (fun cs (q : Value × Nat) => cs.setIfInBounds (p + q.2) q.1) cs) e fr))
  | [], p, w => ⟨rfl, fun _ _ => rfl, rfl, rfl, rfl, fun cs e fr h => h⟩
  | v :: vs, p, w => by
    obtain ⟨h1, h2, h3, h4, h5, h6⟩ := setCells_heap b vs (p + 1) (w.setCell ⟨b, p, none⟩ v)
    refine ⟨by rw [World.setCells, h1]; simp, fun b' hb => ?_, h3, h4, h5, fun cs e fr h => ?_⟩
    · rw [World.setCells, h2 b' hb]
      exact RowKit.Below.heap_setCell _ _ _ _ hb
    · have hb : (w.setCell ⟨b, p, none⟩ v).heap[b]? = some (.cells (cs.setIfInBounds p v) e fr) := by
        simp only [World.setCell, Array.getElem?_modify, if_true, h, Option.map_some, Option.isSome_none, Bool.false_eq_true, if_false]
      rw [World.setCells, h6 _ e fr hb]
      congr 2
      simp only [List.zipIdx_cons, List.foldl_cons, Nat.add_zero]
      have : ∀ (l : List Value) (n : Nat) (c : Array Value), (l.zipIdx n).foldl (fun cs (q : Value × Nat) => cs.setIfInBounds (p + 1 + q.2) q.1) c = (l.zipIdx (n + 1)).foldl (fun cs (q : Value × Nat) => cs.setIfInBounds (p + q.2) q.1) c := by
        intro l
        induction l with
        | nil => intro n c; rfl
        | cons a l ih =>
          intro n c
          simp only [List.zipIdx_cons, List.foldl_cons]
          rw [ih, show p + 1 + n = p + (n + 1) by omega]
      exact this vs 0 _

theorem setCells_block {b p : Nat} {vs : Array Value} {cs : Array Value} {e : TypeId} {fr : Nat × Nat} (h : w.heap[b]? = some (.cells cs e fr)) : (w.setCells b p vs.toList).heap[b]? = some (.cells (splice cs p vs) e fr) := by
  rw [(setCells_heap b vs.toList p w).2.2.2.2.2 cs e fr h]
  congr 2
  unfold splice
  rw [← Array.foldl_toList, Array.toList_zipIdx]

theorem szs_setCells {b p : Nat} {vs : List Value} : Szs w (w.setCells b p vs) := fun b' cs e fr h => by
  by_cases hb : b' = b
  · subst hb
    refine ⟨_, (setCells_heap b' vs p w).2.2.2.2.2 cs e fr h, ((splice_foldl p vs 0 cs).1).symm⟩
  · exact ⟨cs, by rw [(setCells_heap b vs p w).2.1 b' hb]; exact h, rfl⟩

theorem storeVar_run {t : Nat} {ti : TI} {i : TypeInfo} {d : TypeDesc} (hT : TOk P t ti i d) {b p : Nat} {cs : Array Value} {e : TypeId} {fr : Nat × Nat} (hb : w.heap[b]? = some (.cells cs e fr)) (hp : Plain fr cs.size) {xv : Value}
    (hs : xv.cells.size = ti.size) (hin : p + ti.size ≤ cs.size) (h1 : ∀ v ∈ xv.cells.toList, v.oneCell' = true) : (Instr.storeAt t (.pointer (some ⟨b, p, none⟩)) xv).run P w = .ok () (w.setCells b p xv.cells.toList) := by
  have hst := run_storeCells_cells (P := P) b p xv.cells.toList 0 w (fun j hj => by
      have hj' : j < xv.cells.size := by simpa using hj
      rw [cell_at hb, Array.getElem?_eq_getElem (by omega)]; rfl) (fun j hj => by
      have hj' : j < xv.cells.size := by simpa using hj
      simp only [World.frozen?, hb]
      have := hp (p + 0 + j) (by omega)
      simpa using this) h1
  simp only [Nat.add_zero] at hst
  simp [Instr.storeAt, Instr.sureAddr, storeVar, sizeOf_run hT, hs, hst]

theorem Inv.congr (h : Inv w0 S0 F0 G σ tm w) (ho : look σ'.objs = look σ.objs) (ht : ∀ t, σ'.tmp t = σ.tmp t) : Inv w0 S0 F0 G σ' tm w :=
  ⟨h.base, h.fsub, h.fmine, h.flt, by rw [ho]; intro t; rw [ht]; exact h.tmps t, by rw [ho]; exact h.keep, by rw [ho]; exact h.objs, by rw [ho]; exact h.root, by rw [ho]; exact h.rdis, h.nest, h.ndis⟩

/-- What a call's own object may become by a write. -/
theorem Inv.write (h : Inv w0 S0 F0 G σ tm w) (hid : look σ.objs id = some (some o)) {b off p : Nat} (hl : G.loc id = some (b, off)) (hst : o.st ≠ .fz) {vs : Array Value} {L : Set'} (hL : ∀ b, L b → Loose w0 S0 G σ w b)
    (hn : o'.n = o.n) (hz : o'.sz = o.sz) (hbx : o'.box = o.box) (hv : o.ver ≤ o'.ver) (hst' : o'.st ≠ .fz) (hkp : o'.ver = o.ver → o.box = false → Keeps w (w.setCells b p vs.toList) (some (b, off)))
    (ho : ∀ G', G'.F = G.F → G'.loc = G.loc → (∀ k b, G'.N k b ↔ G.N k b ∨ (k = id ∧ L b)) → Step w G (look σ.objs) (w.setCells b p vs.toList) G' (look (σ.putO id (some o')).objs) → ObjOk (w.setCells b p vs.toList) G' (look (σ.putO id (some o')).objs) id o') :
    ∃ G', Inv w0 S0 F0 G' (σ.putO id (some o')) tm (w.setCells b p vs.toList) ∧ G'.loc = G.loc := by
  obtain ⟨s1, s2, s3, s4, s5, s6⟩ := setCells_heap b vs.toList p w
  obtain ⟨r1, r2, r3, r4⟩ := h.root id o b off hid hl hst
  let G' : Gh := { F := G.F, loc := G.loc, N := fun k b => G.N k b ∨ (k = id ∧ L b) }
  have hs : Step w G (look σ.objs) (w.setCells b p vs.toList) G' (look (σ.putO id (some o')).objs) := by
    refine ⟨szs_setCells, fun _ h => h, fun k hk => by rw [look_putO]; split <;> simp [hk], fun b' hb => s2 b' (fun e => r3 (e ▸ hb)), fun k b' _ _ hb _ _ _ => s2 b' (fun e => r4 k (e ▸ hb)), fun k o2 hk hd => ?_⟩
    rw [look_putO] at hk
    by_cases e : id = k
    · subst e; simp at hk; subst hk
      exact ⟨o, hid, hn, hz, hbx, rfl, hv, fun hv => ⟨fun b hb => .inr (.inl hb), fun hbx => by rw [hl]; exact hkp hv hbx⟩⟩
    · simp [e] at hk
      exact ⟨o2, hk, rfl, rfl, rfl, rfl, Nat.le_refl _, fun _ => ⟨fun b hb => .inr (.inl hb), fun _ => .same fun b' off' hl' => s2 b' fun e' => e (h.rdis id o k o2 b off off' hid hk hl (e' ▸ hl') hst)⟩⟩
  refine ⟨G', h.upd hid ⟨s3.trans h.base.os, s4.trans h.base.tape, s5.trans h.base.output, by rw [s1]; exact h.base.size, fun b' hb hS => ?_, h.base.szs.trans szs_setCells⟩ (by rw [s1]; exact Nat.le_refl _) (fun b' hb hx => s2 b' (fun e => hst (hx off (e ▸ hl)))) hs (fun _ => rfl)
    (fun k b e => ⟨fun h => h.elim (fun h => h) (fun h => absurd h.1 e), fun h => .inl h⟩) (fun b hb => hb.elim (fun h => .inl h) (fun h => .inr (hL b h.2))) (fun b hb => .inl hb) (fun e => absurd e hst) (ho G' rfl rfl (fun k b => Iff.rfl) hs), rfl⟩
  rw [s2 b' (fun e => r2.elim (fun h => by subst e; omega) (fun h => hS (e ▸ h)))]
  exact h.base.block b' hb hS
end Go.Vk
end
