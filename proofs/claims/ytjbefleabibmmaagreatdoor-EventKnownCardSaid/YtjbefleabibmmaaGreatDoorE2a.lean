/- THE MACHINE E2: an executable big-step machine over memory with names, for programs of the model. Definitions alone; nothing is proved here of the model. -/
import GoSem.Step
import Derived.Orders
import Derived.KernelRfl
namespace Go.E2

/-! ### Tables by number -/
inductive Tree (α : Type) where
  | nil
  | node (v : Option α) (l r : Tree α)

def Tree.get {α : Type} : Tree α → Nat → Option α
  | .nil, _ => none
  | .node v l r, n => bif Nat.beq n 0 then v else bif Nat.beq (n % 2) 1 then l.get (n / 2) else r.get (n / 2 - 1)

def Tree.setF {α : Type} (a : α) : Nat → Tree α → Nat → Tree α
  | 0, t, _ => t
  | f + 1, .nil, n => bif Nat.beq n 0 then .node (some a) .nil .nil
      else bif Nat.beq (n % 2) 1 then .node none (Tree.setF a f .nil (n / 2)) .nil else .node none .nil (Tree.setF a f .nil (n / 2 - 1))
  | f + 1, .node v l r, n => bif Nat.beq n 0 then .node (some a) l r
      else bif Nat.beq (n % 2) 1 then .node v (Tree.setF a f l (n / 2)) r else .node v l (Tree.setF a f r (n / 2 - 1))

def Tree.set {α : Type} (t : Tree α) (n : Nat) (a : α) : Tree α := Tree.setF a (n + 1) t n

def Tree.del {α : Type} : Tree α → Nat → Tree α
  | .nil, _ => .nil
  | .node v l r, n => bif Nat.beq n 0 then .node none l r else bif Nat.beq (n % 2) 1 then .node v (l.del (n / 2)) r else .node v l (r.del (n / 2 - 1))

/-- What 'src' has at some places, put there. -/
def copyT {α : Type} (src : Tree α) : List Nat → Tree α → Tree α
  | [], t => t
  | n :: l, t => copyT src l (match src.get n with
    | some a => t.set n a
    | none => t.del n)

def Tree.ofList {α : Type} (l : List α) : Tree α := (l.foldl (fun (s : Tree α × Nat) a => (s.1.set s.2 a, s.2 + 1)) (.nil, 0)).1

/-! ### Values -/
inductive V where
  | int (k : IntKind) (n : Int)
  | bool (b : Bool)
  | str (s : List UInt8)
  | ptr (nm g off lim : Nat)
  | nilp
  | slice (nm g off len sz : Nat) (cap : Option Nat)
  | nils
  | func (fn : Fn) (first captured : List V)
  | nilf
  | iface (t : TypeId) (v : V)
  | nili
  | agg (cells : List V)
  | tuple (vs : List V)
  | map (nm : Nat)
  | nilm

def undefV : V := .tuple []

def V.cells : V → List V
  | .agg cs => cs
  | v => [v]

mutual
/-- A value of the program's text (no address in it) as a value of E2. -/
def absV : Nat → Value → Option V
  | 0, _ => none
  | n + 1, v => match v with
    | .int k i => some (.int k i)
    | .bool b => some (.bool b)
    | .string s => some (.str s.data.toList)
    | .pointer none => some .nilp
    | .slice none 0 0 => some .nils
    | .map none => some .nilm
    | .func (.func f) first captured => (absL n first.toList).bind fun a => (absL n captured.toList).map fun c => .func (.func f) a c
    | .nilFunc => some .nilf
    | .iface t v => (absV n v).map fun x => .iface t x
    | .nilIface => some .nili
    | .agg cs => (absL n cs.toList).map .agg
    | .tuple vs => (absL n vs.toList).map .tuple
    | _ => none
def absL : Nat → List Value → Option (List V)
  | 0, _ => none
  | n + 1, l => match l with
    | [] => some []
    | v :: vs => (absV n v).bind fun x => (absL n vs).map fun xs => x :: xs
end

/-! ### Memory -/
structure D where
  fn : Fn
  captured : List V
  args : List V

inductive O where
  | row (cells : List V) (elem : TypeId) (gen floor frz : Nat) (exact : Bool)
  | map (es : List (V × V × Nat)) (clock : Nat)
  | siter (s : List UInt8) (pos : Nat)
  | miter (m : Option Nat) (since : Nat) (seen : List Nat) (stepped : Nat)
  | loop (st : LoopState) (pending : Option Code) (tmps : Tree V) (n : Nat) (params : List Tmp) (assign body : Code) (defers : Nat)
  | dfr
  | gone

structure Heap where
  objs : Tree O
  next : Nat
  ro : Nat
  glob : Nat

def Heap.get (H : Heap) (n : Nat) : Option O := H.objs.get n
def Heap.new (H : Heap) (o : O) : Heap :=
  match H with
  | ⟨t, n, r, g⟩ => ⟨t.set n o, n + 1, r, g⟩
/-- A change of what has a name: refused below 'ro'. -/
def Heap.upd (H : Heap) (n : Nat) (o : O) : Option Heap :=
  match H with
  | ⟨t, k, r, g⟩ => bif Nat.blt n r then none else some ⟨t.set n o, k, r, g⟩

/-! ### What the program's tables say -/
structure TI where
  under : TypeDesc
  size : Nat
  bytes : Nat
  zero : V
  isAgg : Bool

structure FI where
  body : Option Code
  ext : Nat
  ntmps : Nat
  results : List ResultVar

inductive Tgt where
  | func (f : FuncId)
  | round (l : Nat)

structure PE where
  v : V
  recovered : Bool
  goexit : Bool

inductive CR where
  | ret (v : V)
  | panic (chain : List PE)

structure Env where
  types : Nat → Option TI
  funcs : Nat → Option FI
  /-- functions whose calls are answered by a law proved elsewhere -/
  spec : Nat → Option (List V → Heap → Option (CR × Heap))
  /-- a struct type whose values may be compared field by field -/
  eqOk : TypeId → Bool
  /-- does a variable of the second type lie at a cell of so many variables of the first? -/
  lies : TypeId → Nat → Nat → TypeId → Bool

/-! ### Frames -/
inductive Dfr where
  | call (d : D)
  | mark (nm : Nat)

structure Fr where
  tmps : Tree V
  n : Nat
  defers : List Dfr

def Fr.put (fr : Fr) (dst : Option Tmp) (v : V) : Fr :=
  match dst with
  | some d => match fr with
    | ⟨t, n, ds⟩ => bif Nat.blt d n then ⟨t.set d v, n, ds⟩ else ⟨t, n, ds⟩
  | none => fr

def Fr.tmp (fr : Fr) (t : Nat) : Option V := fr.tmps.get t

def opd (fr : Fr) (H : Heap) : Operand → Option V
  | .tmp t => fr.tmp t
  | .const v => absV 1000 v
  | .global g => bif Nat.blt g H.glob then match H.get g with
    | some (.row cells _ 0 _ _ _) => some (.ptr g 0 0 cells.length)
    | _ => none else none
  | .func f => some (.func (.func f) [] [])

def opds (fr : Fr) (H : Heap) : List Operand → Option (List V)
  | [] => some []
  | x :: xs => (opd fr H x).bind fun v => (opds fr H xs).map fun vs => v :: vs

inductive Out where
  | val (v : V)
  | skip
  | call (t : Tgt) (args : List V)
  | defer (d : D)
  | panic (v : V)

inductive Ex where
  | normal
  | exit (id : Nat)
  | goto (l : Nat)
  | ret
  | panic (chain : List PE)

/-! ### Cells -/
/-- The part of type t at cell 'off' of some cells. -/
def partV (ti : TI) (cs : List V) (off : Nat) : Option V :=
  bif ti.isAgg then (bif Nat.ble (off + ti.size) cs.length then some (.agg ((cs.drop off).take ti.size)) else none)
  else cs[off]?

def setCells (cs : List V) (off : Nat) (vs : List V) : List V := cs.take off ++ vs ++ cs.drop (off + vs.length)

def fillV (place : Nat → Option (Nat × Nat)) : List V → List (Nat × V) → Option (List V)
  | cells, [] => some cells
  | cells, (i, v) :: rest => match place i with
    | none => none
    | some (off, size) => bif Nat.beq v.cells.length size && Nat.ble (off + size) cells.length then fillV place (setCells cells off v.cells) rest else none

def wantV (o : Oper) (all : Array Oper) (fr : Fr) : Option Bool :=
  match o.guard with
  | none => some true
  | some (j, want) => match (all[j]?).bind (·.dst) with
    | none => some false
    | some d => match fr.tmp d with
      | some (.bool b) => some (b == want)
      | some _ => some false
      | none => none

/-- A cell of which nothing is known. -/
def isHole : V → Bool
  | .tuple [.map _] => true
  | _ => false

def noHoles (cs : List V) : Option (List V) := bif cs.any isHole then none else some cs

/-- Reading 'size' cells at a place. -/
def readCells (H : Heap) (size : Nat) : V → Option (List V)
  | .ptr nm g off lim => match H.get nm with
    | some (.row cells _ _ floor _ _) =>
      bif Nat.ble floor g && Nat.ble (off + size) lim && Nat.ble lim cells.length then noHoles ((cells.drop off).take size) else none
    | _ => none
  | _ => none

def loadV (H : Heap) (ti : TI) (p : V) : Option V :=
  (readCells H ti.size p).bind fun cs => bif ti.isAgg then some (.agg cs) else match cs with
    | [v] => some v
    | _ => none

def V.oneCell : V → Bool
  | .agg _ | .tuple _ => false
  | _ => true

/-- Writing cells at a place. -/
def writeCells (H : Heap) (vs : List V) : V → Option Heap
  | .ptr nm g off lim => match H.get nm with
    | some (.row cells elem gen _ frz exact) =>
      bif Nat.beq g gen && Nat.ble (off + vs.length) lim && Nat.ble lim cells.length && Nat.ble frz off && vs.all V.oneCell
      then H.upd nm (.row (setCells cells off vs) elem gen gen frz exact) else none
    | _ => none
  | _ => none

def storeV (H : Heap) (ti : TI) (p v : V) : Option Heap :=
  bif Nat.beq v.cells.length ti.size then writeCells H v.cells p else none

def newRowV (H : Heap) (cells : List V) (elem : TypeId) : Heap := H.new (.row cells elem 0 0 0 true)

/-- The cells of a slice's elements, or of a string's bytes. -/
def elemsV (H : Heap) (sz : Nat) : V → Option (Nat × List V)
  | .nils => some (0, [])
  | .slice nm g off len sz' _ => bif Nat.beq sz sz' then (readCells H (len * sz) (.ptr nm g off (off + len * sz))).map fun cs => (len, cs) else none
  | .str s => bif Nat.beq sz 1 then some (s.length, s.map fun b => .int .u8 b.toNat) else none
  | _ => none

def room : Nat := 140737488355328

/-- append. -/
def appendV (H : Heap) (elem : TypeId) (sz bytes : Nat) (s x : V) : Option (V × Heap) :=
  (elemsV H sz x).bind fun (n, items) =>
  match s with
  | .nils => bif Nat.beq n 0 then some (.nils, H)
      else bif Nat.ble (n * bytes) room && Nat.ble n room then some (.slice H.next 0 0 n sz none, H.new (.row items elem 0 0 0 false)) else none
  | .slice nm g off len sz' cap =>
    bif !Nat.beq sz sz' then none else
    bif Nat.beq n 0 then some (s, H) else
    bif !(Nat.ble ((len + n) * bytes) room && Nat.ble (len + n) room) then none else
    bif !items.all V.oneCell then none else
    match H.get nm with
    | some (.row cells e gen floor frz _) =>
      match cap with
      | some c =>
        bif Nat.ble (len + n) c then
          (writeCells H items (.ptr nm g (off + len * sz) (off + (len + n) * sz))).map fun H' => (.slice nm g off (len + n) sz cap, H')
        else (elemsV H sz s).map fun (_, old) => (.slice H.next 0 0 (len + n) sz none, H.new (.row (old ++ items) elem 0 0 0 false))
      | none =>
        bif Nat.beq g gen && Nat.beq (off + len * sz) cells.length && Nat.ble frz cells.length && Nat.ble floor gen && !Nat.beq sz 0 && Nat.beq e elem then
          (H.upd nm (.row (cells ++ items) e (gen + 1) floor frz false)).map fun H' => (.slice nm (gen + 1) off (len + n) sz none, H')
        else none
    | _ => none
  | _ => none

/-! ### Operators -/
def bytesLessL : List UInt8 → List UInt8 → Bool
  | _, [] => false
  | [], _ :: _ => true
  | a :: x, b :: y => a < b || (a == b && bytesLessL x y)

def intOpV (op : BinOp) (k : IntKind) (a b : Int) : Option V :=
  match op with
  | .add => some (.int k (k.wrap (a + b)))
  | .sub => some (.int k (k.wrap (a - b)))
  | .mul => some (.int k (k.wrap (a * b)))
  | .quo => if b = 0 then none else some (.int k (k.wrap (a.tdiv b)))
  | .rem => if b = 0 then none else some (.int k (a.tmod b))
  | .and => some (.int k (k.wrap (BitVec.ofInt k.bits a &&& BitVec.ofInt k.bits b).toNat))
  | .or => some (.int k (k.wrap (BitVec.ofInt k.bits a ||| BitVec.ofInt k.bits b).toNat))
  | .xor => some (.int k (k.wrap (BitVec.ofInt k.bits a ^^^ BitVec.ofInt k.bits b).toNat))
  | .andNot => some (.int k (k.wrap (BitVec.ofInt k.bits a &&& ~~~ BitVec.ofInt k.bits b).toNat))
  | .eql => some (.bool (a == b))
  | .neq => some (.bool (a != b))
  | .lss => some (.bool (a < b))
  | .leq => some (.bool (a ≤ b))
  | .gtr => some (.bool (a > b))
  | .geq => some (.bool (a ≥ b))
  | _ => none

def shiftV (op : BinOp) (k : IntKind) (a b : Int) : Option V :=
  if b < 0 then none else
    let n := min b.toNat k.bits
    match op with
    | .shl => some (.int k (k.wrap (a * 2 ^ n)))
    | .shr => some (.int k (a.fdiv (2 ^ n)))
    | _ => none

def strOpV (op : BinOp) (x y : List UInt8) : Option V :=
  match op with
  | .add => bif Nat.ble (x.length + y.length) room then some (.str (x ++ y)) else none
  | .eql => some (.bool (x == y))
  | .neq => some (.bool (!(x == y)))
  | .lss => some (.bool (bytesLessL x y))
  | .leq => some (.bool (bytesLessL x y || x == y))
  | .gtr => some (.bool (!(bytesLessL x y || x == y)))
  | .geq => some (.bool (!bytesLessL x y))
  | _ => none

mutual
/-- '==' at a type. -/
def eqV (E : Env) : Nat → TypeId → V → V → Option Bool
  | 0, _, _, _ => none
  | d + 1, t, x, y => match E.types t with
    | none => none
    | some ti => match ti.under, x, y with
      | .int _, .int k a, .int k' b => if k = k' then some (a == b) else none
      | .string, .str a, .str b => some (a == b)
      | .bool, .bool a, .bool b => some (a == b)
      | .struct fs, .agg xs, .agg ys => bif E.eqOk t then eqFields E d fs.toList xs ys else none
      | .slice _, .nils, .nils => some true
      | .slice _, .nils, .slice .. | .slice _, .slice .., .nils => some false
      | .func .., .nilf, .nilf => some true
      | .func .., .nilf, .func .. | .func .., .func .., .nilf => some false
      | .map .., .nilm, .nilm => some true
      | .map .., .nilm, .map _ | .map .., .map _, .nilm => some false
      | .pointer _, .nilp, .nilp => some true
      | .pointer _, .nilp, .ptr .. | .pointer _, .ptr .., .nilp => some false
      | .pointer e, .ptr nm g off _, .ptr nm' g' off' _ => (E.types e).bind fun ei => bif !Nat.beq ei.size 0 && (Nat.beq nm nm' && Nat.beq g g') then some (Nat.beq off off') else none
      | .interface _, .iface .., .nili | .interface _, .nili, .iface .. => some false
      | .interface _, .nili, .nili => some true
      | _, _, _ => none
def eqFields (E : Env) : Nat → List Field → List V → List V → Option Bool
  | 0, _, _, _ => none
  | d + 1, fs, xs, ys => match fs with
    | [] => some true
    | f :: fs => match E.types f.type with
      | none => none
      | some ti => (partV ti xs f.offset).bind fun a => (partV ti ys f.offset).bind fun b =>
        (eqV E d f.type a b).bind fun r => bif r then eqFields E d fs xs ys else some false
end

def binOpV (E : Env) (op : BinOp) (t : TypeId) (x y : V) : Option V :=
  match op, x, y with
  | .shl, .int k a, .int _ b => shiftV .shl k a b
  | .shr, .int k a, .int _ b => shiftV .shr k a b
  | op, .int k a, .int k' b => if k = k' then intOpV op k a b else none
  | op, .str a, .str b => strOpV op a b
  | .eql, x, y => (eqV E 1000 t x y).map .bool
  | .neq, x, y => (eqV E 1000 t x y).map fun b => .bool (!b)
  | _, _, _ => none

def unOpV (op : UnOp) (x : V) : Option V :=
  match op, x with
  | .neg, .int k n => some (.int k (k.wrap (0 - n)))
  | .xor, .int k n => some (.int k (k.wrap (BitVec.ofInt k.bits (if k.signed then -1 else k.max) ^^^ BitVec.ofInt k.bits n).toNat))
  | .not, .bool b => some (.bool !b)
  | _, _ => none

/-! ### Slices -/
def boundV (lo hi : Nat) : Option V → Nat → Option Nat
  | none, d => some d
  | some (.int _ i), _ => if (lo : Int) ≤ i ∧ i ≤ hi then some i.toNat else none
  | some _, _ => none

def sliceV (elemSz : Nat) (x : V) (lo hi mx : Option V) : Option V :=
  match x with
  | .str s => match mx with
    | some _ => none
    | none => (boundV 0 s.length hi s.length).bind fun h => (boundV 0 h lo 0).map fun l => .str ((s.take h).drop l)
  | .nils => (boundV 0 0 mx 0).bind fun m => (boundV 0 m hi 0).bind fun h => (boundV 0 h lo 0).map fun _ => .nils
  | .slice nm g off len sz cap =>
    bif !Nat.beq elemSz sz then none else
    match mx with
    | some _ =>
      let c := cap.getD len
      (boundV 0 c mx c).bind fun m => (boundV 0 m hi len).bind fun h => (boundV 0 h lo 0).map fun l =>
        .slice nm g (off + l * sz) (h - l) sz (some (m - l))
    | none =>
      let c := cap.getD len
      (boundV 0 c hi len).bind fun h => (boundV 0 h lo 0).map fun l => .slice nm g (off + l * sz) (h - l) sz (cap.map (· - l))
  | _ => none

def indexAddrV (elemSz : Nat) (x i : V) : Option V :=
  match x, i with
  | .slice nm g off len sz _, .int _ i => if Nat.beq elemSz sz = true ∧ 0 ≤ i ∧ i < len then some (.ptr nm g (off + i.toNat * sz) (off + len * sz)) else none
  | _, _ => none

def goIntV (n : Nat) : V := .int .i64 n

/-! ### Maps -/
def sameNowV : TypeDesc → V → V → Option Bool
  | .int _, .int k a, .int k' b => if k = k' then some (a == b) else none
  | .string, .str a, .str b => some (a == b)
  | .bool, .bool a, .bool b => some (a == b)
  | _, _, _ => none

/-- A kind of key that is held against another one by itself. -/
def plainKey : TypeDesc → Bool
  | .int _ | .string | .bool => true
  | _ => false

def findV (kd : TypeDesc) (k : V) : List (V × V × Nat) → Nat → Option (Option (Nat × V))
  | [], _ => some none
  | (k', v, _) :: es, i => match sameNowV kd k k' with
    | some true => some (some (i, v))
    | some false => findV kd k es (i + 1)
    | none => none

/-- The same flat value, cell by cell. -/
def flatSame : List V → List V → Bool
  | [], [] => true
  | .int k a :: l, .int k' b :: l' => decide (k = k') && (a == b) && flatSame l l'
  | .bool a :: l, .bool b :: l' => (a == b) && flatSame l l'
  | .str a :: l, .str b :: l' => (a == b) && flatSame l l'
  | _, _ => false

def keyFields (E : Env) (fs : List Field) (cs : List V) : Bool := fs.all fun f => match E.types f.type with
  | some fi => plainKey fi.under && (partV fi cs f.offset).isSome
  | none => false

def findA (E : Env) (kt : TypeId) (k : List V) : List (V × V × Nat) → Nat → Option (Option (Nat × V))
  | [], _ => some none
  | (k', v, _) :: es, i => match eqV E 1000 kt (.agg k) k' with
    | some true => match k' with
      | .agg ys => bif flatSame k ys then some (some (i, v)) else none
      | _ => none
    | some false => findA E kt k es (i + 1)
    | none => none

/-- Where a map has a key. -/
def findIn (E : Env) (kt : TypeId) (kd : TypeDesc) (k : V) (es : List (V × V × Nat)) : Option (Option (Nat × V)) :=
  bif plainKey kd then findV kd k es 0 else match kd, k with
    | .struct fs, .agg cs => bif keyFields E fs.toList cs then findA E kt cs es 0 else none
    | _, _ => none

/-! ### One operation -/
def callOut (f : V) (args : List V) : Option Out :=
  match f with
  | .func (.func f) first captured => some (.call (.func f) (first ++ args ++ captured))
  | .func (.yield l) first _ => some (.call (.round l) (first ++ args))
  | _ => none

def fieldOf (ti : TI) (k : Nat) : Option Field :=
  match ti.under with
  | .struct fs => fs[k]?
  | _ => none

def opdO (fr : Fr) (H : Heap) : Option Operand → Option (Option V)
  | none => some none
  | some x => (opd fr H x).map some

def minV (mx : Bool) : V → List V → Option V
  | x, [] => some x
  | .int k a, .int _ b :: rest => minV mx (.int k (if (if mx then b > a else b < a) then b else a)) rest
  | _, _ => none

/-- The bytes that some cells hold. -/
def bytesOfV : List V → Option (List UInt8)
  | [] => some []
  | .int .u8 n :: vs => if 0 ≤ n ∧ n < 256 then (bytesOfV vs).map fun l => UInt8.ofNat n.toNat :: l else none
  | _ => none

def builtinV (E : Env) (b : Builtin) (ats : List TypeId) (args : List V) (H : Heap) : Option (Out × Heap) :=
  match b, args with
  | .len, [x] => match ats with
    | [t] => (E.types t).bind fun ti => match ti.under, x with
      | .array n _, _ => some (.val (goIntV n), H)
      | .string, .str s => some (.val (goIntV s.length), H)
      | .slice _, .nils => some (.val (goIntV 0), H)
      | .slice _, .slice _ _ _ len _ _ => some (.val (goIntV len), H)
      | .map .., .nilm => some (.val (goIntV 0), H)
      | .map .., .map nm => match H.get nm with
        | some (.map es _) => some (.val (goIntV es.length), H)
        | _ => none
      | _, _ => none
    | _ => none
  | .append, [s, x] => match ats with
    | [t, u] => (E.types t).bind fun ti => (E.types u).bind fun ui => match ti.under, ui.under with
      | .slice e, .slice _ | .slice e, .string => (E.types e).bind fun ei => (appendV H e ei.size ei.bytes s x).map fun r => (.val r.1, r.2)
      | _, _ => none
    | _ => none
  | .copy, [d, x] => match ats with
    | [t, _] => (E.types t).bind fun ti => match ti.under with
      | .slice e => (E.types e).bind fun ei => match d, x with
        | .slice nm g off len sz _, .slice nm' g' off' len' sz' cap' => bif Nat.beq sz ei.size && Nat.beq sz' ei.size then
            (elemsV H ei.size (.slice nm' g' off' (min len' len) ei.size cap')).bind fun r =>
              (if min len' len = 0 then some H else writeCells H r.2 (.ptr nm g off (off + len * ei.size))).map fun H' => (.val (goIntV (min len' len)), H') else none
        | _, _ => none
      | _ => none
    | _ => none
  | .clear, [x] => match ats with
    | [t] => (E.types t).bind fun ti => match ti.under with
      | .slice e => match x with
        | .nils => some (.val (.tuple []), H)
        | .slice nm g off len sz _ => (E.types e).bind fun ei => bif Nat.beq sz ei.size then (if len = 0 then some (.val (.tuple []), H) else
            (writeCells H (List.replicate len ei.zero.cells).flatten (.ptr nm g off (off + len * ei.size))).map fun H' => (.val (.tuple []), H')) else none
        | _ => none
      | _ => none
    | _ => none
  | .unsafeSliceData, [x] => match x with
    | .nils => some (.val .nilp, H)
    | .slice nm g off len sz _ => bif Nat.blt 0 len then some (.val (.ptr nm g off (off + len * sz)), H) else none
    | _ => none
  | .unsafeString, [p, .int .i64 n] => match ats with
    | [pt, _] => match p with
      | .nilp => if n = 0 then some (.val (.str []), H) else none
      | .ptr nm g 0 lim => (E.types pt).bind fun ti => match ti.under, H.get nm with
        | .pointer e, some (.row cells elem gen floor frz exact) => (E.types elem).bind fun ei =>
          if e = elem ∧ ei.size = 1 ∧ 0 < n ∧ n ≤ 140737488355328 ∧ g = gen then
            (readCells H n.toNat (.ptr nm g 0 lim)).bind fun cs => (bytesOfV cs).bind fun l =>
              (H.upd nm (.row cells elem gen floor (max frz n.toNat) exact)).map fun H' => (.val (.str l), H')
          else none
        | _, _ => none
      | _ => none
    | _ => none
  | .min, x :: rest => (minV false x rest).map fun v => (.val v, H)
  | .max, x :: rest => (minV true x rest).map fun v => (.val v, H)
  | _, _ => none

/-- x.(t), t no interface type. -/
def assertV (t : TypeId) (zero : V) (ok : Bool) : V → Option V
  | .nili => bif ok then some (.tuple [zero, .bool false]) else none
  | .iface u y => bif Nat.beq u t then some (bif ok then .tuple [y, .bool true] else y) else bif ok then some (.tuple [zero, .bool false]) else none
  | _ => none

/-- A round of a range over a text. -/
def nextV (H : Heap) (nm : Nat) (s : List UInt8) (pos : Nat) : Option (Out × Heap) :=
  bif Nat.blt pos s.length then (match Utf8.decode ⟨s.toArray⟩ pos with
    | (c, wd) => (H.upd nm (.siter s (pos + wd))).map fun H' => (.val (.tuple [.bool true, goIntV pos, .int .i32 c]), H'))
  else some (.val (.tuple [.bool false]), H)

def evOp (E : Env) (o : Oper) (fr : Fr) (H : Heap) : Option (Out × Heap) :=
  let v (x : Option V) : Option (Out × Heap) := x.map fun x => (.val x, H)
  match o.op with
  | .move x | .assign x => v (opd fr H x)
  | .pick c a b => match opd fr H c with
    | some (.bool c) => v (opd fr H (if c then a else b))
    | _ => none
  | .alloc e => (E.types e).map fun ti => (.val (.ptr H.next 0 0 ti.zero.cells.length), newRowV H ti.zero.cells e)
  | .box e x => (opd fr H x).bind fun x => some (.val (.ptr H.next 0 0 x.cells.length), newRowV H x.cells e)
  | .build t parts => (E.types t).bind fun ti => (opds fr H (parts.toList.map (·.2))).bind fun vs =>
    match ti.under with
    | .struct fs => bif !fs.toList.all (fun f => (E.types f.type).isSome) then none else v ((fillV (fun i => (fs[i]?).bind fun f => (E.types f.type).map fun fi => (f.offset, fi.size)) ti.zero.cells ((parts.toList.map (·.1)).zip vs)).map .agg)
    | .array _ e => (E.types e).bind fun ei => v ((fillV (fun i => some (i * ei.size, ei.size)) ti.zero.cells ((parts.toList.map (·.1)).zip vs)).map .agg)
    | _ => none
  | .buildSlice t len parts => (E.types t).bind fun ti => (opds fr H (parts.toList.map (·.2))).bind fun vs =>
    match ti.under with
    | .slice e => (E.types e).bind fun ei =>
      bif Nat.ble (len * ei.size) 16777216 then
        (fillV (fun i => some (i * ei.size, ei.size)) (List.replicate len ei.zero.cells).flatten ((parts.toList.map (·.1)).zip vs)).map fun cells =>
          (.val (.slice H.next 0 0 len ei.size (some len)), newRowV H cells e)
      else none
    | _ => none
  | .load t p => (E.types t).bind fun ti => (opd fr H p).bind fun p => v (loadV H ti p)
  | .store t p x => (E.types t).bind fun ti => (opd fr H p).bind fun p => (opd fr H x).bind fun x => (storeV H ti p x).map fun H' => (.skip, H')
  | .nilCheck x => match opd fr H x with
    | some .nilp | some .nili | some .nilf | some (.func (.method _) _ _) | none => none
    | some x => some (.val x, H)
  | .binOp op t x y _ => (opd fr H x).bind fun a => (opd fr H y).bind fun b =>
    match a, b with
    | .nili, .nili => match x, y with
      | .const _, _ | _, .const _ => v (binOpV E op t a b)
      | _, _ => none
    | _, _ => v (binOpV E op t a b)
  | .unOp op _ x => (opd fr H x).bind fun x => v (unOpV op x)
  | .convert src dst x => (E.types src).bind fun si => (E.types dst).bind fun di => (opd fr H x).bind fun x =>
    match si.under, di.under, x with
    | .int _, .int k, .int _ n => some (.val (.int k (k.wrap n)), H)
    | .string, .string, .str s => some (.val (.str s), H)
    | .slice e, .string, x => match x with
      | .str _ => none
      | _ => (E.types e).bind fun ei => match ei.under with
        | .int .u8 => (elemsV H 1 x).bind fun r => (bytesOfV r.2).map fun l => (.val (.str l), H)
        | _ => none
    | .pointer e, .unsafePointer, .ptr nm g off lim => (E.types e).bind fun ei => match H.get nm with
      | some (.row _ _ _ floor _ _) => bif Nat.ble floor g && Nat.blt 0 ei.size && Nat.ble (off + 1) lim then some (.val (.ptr nm g off lim), H) else none
      | _ => none
    | .unsafePointer, .pointer e, .ptr nm g off lim => (E.types e).bind fun ei => match H.get nm with
      | some (.row cells elem _ floor _ true) => (E.types elem).bind fun li => bif Nat.ble floor g && Nat.blt 0 ei.size && E.lies elem (cells.length / li.size) off e then some (.val (.ptr nm g off lim), H) else none
      | _ => none
    | _, _, _ => none
  | .makeInterface t x => (E.types t).bind fun ti => match ti.under with
    | .interface _ => none
    | _ => v ((opd fr H x).map (.iface t))
  | .makeFunc (.func fn) first captured => (opds fr H first.toList).bind fun a => (opds fr H captured.toList).map fun c => (.val (.func (.func fn) a c), H)
  | .makeMap t r => (E.types t).bind fun ti => match ti.under, r with
    | .map .., none => some (.val (.map H.next), H.new (.map [] 0))
    | .map .., some r => (opd fr H r).bind fun r => match r with
      | .int .. => some (.val (.map H.next), H.new (.map [] 0))
      | _ => none
    | _, _ => none
  | .makeSlice t l c => (E.types t).bind fun ti => (opd fr H l).bind fun l => (opd fr H c).bind fun c =>
    match ti.under, l, c with
    | .slice e, .int .i64 l, .int .i64 c => (E.types e).bind fun ei =>
      if 0 ≤ l ∧ l ≤ c ∧ c * (ei.bytes : Int) ≤ 281474976710656 ∧ c ≤ 281474976710656 then
        some (.val (.slice H.next 0 0 l.toNat ei.size (some c.toNat)), newRowV H (List.replicate c.toNat ei.zero.cells).flatten e)
      else none
    | _, _, _ => none
  | .slice t x lo hi none => (E.types t).bind fun ti => (opd fr H x).bind fun x => (opdO fr H lo).bind fun lo => (opdO fr H hi).bind fun hi =>
    match ti.under with
    | .slice e => match x with
      | .str _ => none
      | _ => (E.types e).bind fun ei => v (sliceV ei.size x lo hi none)
    | .string => match x with
      | .str _ => v (sliceV 1 x lo hi none)
      | _ => none
    | .array n e => (E.types e).bind fun ei => match x with
      | .ptr nm g off lim => match H.get nm with
        | some (.row _ _ _ floor _ _) => bif Nat.ble floor g && Nat.ble (off + n * ei.size) lim then v (sliceV ei.size (.slice nm g off n ei.size (some n)) lo hi none) else none
        | _ => none
      | _ => none
    | _ => none
  | .slice t x lo (some hi) (some mx) => (E.types t).bind fun ti => (opd fr H x).bind fun x => (opdO fr H lo).bind fun lo => (opd fr H hi).bind fun hi => (opd fr H mx).bind fun mx =>
    match ti.under, x with
    | .slice e, .slice nm g off len sz cap => (E.types e).bind fun ei => v (sliceV ei.size (.slice nm g off len sz cap) lo (some hi) (some mx))
    | _, _ => none
  | .fieldAddr s x k => (E.types s).bind fun ti => (fieldOf ti k).bind fun f => (E.types f.type).bind fun fi =>
    bif Nat.beq fi.size 0 then none else (opd fr H x).bind fun x =>
    match x with
    | .ptr nm g off lim => some (.val (.ptr nm g (off + f.offset) lim), H)
    | _ => none
  | .field t x k => (E.types t).bind fun ti => (fieldOf ti k).bind fun f => (E.types f.type).bind fun fi => (opd fr H x).bind fun x =>
    match x with
    | .agg cs => v (partV fi cs f.offset)
    | _ => none
  | .indexAddr t x i => (E.types t).bind fun ti => (opd fr H x).bind fun x => (opd fr H i).bind fun i =>
    match ti.under with
    | .slice e => (E.types e).bind fun ei => v (indexAddrV ei.size x i)
    | .array n e => (E.types e).bind fun ei => match x, i with
      | .ptr nm g off lim, .int _ i => if 0 ≤ i ∧ i < n then some (.val (.ptr nm g (off + i.toNat * ei.size) lim), H) else none
      | _, _ => none
    | _ => none
  | .index t x i => (E.types t).bind fun ti => (opd fr H x).bind fun x => (opd fr H i).bind fun i =>
    match ti.under, x, i with
    | .string, .str s, .int _ i => if 0 ≤ i then (s[i.toNat]?).map fun b => (.val (.int .u8 b.toNat), H) else none
    | .array n e, .agg cs, .int _ i => (E.types e).bind fun ei => if 0 ≤ i ∧ i < n then v (partV ei cs (i.toNat * ei.size)) else none
    | _, _, _ => none
  | .extract t i => (opd fr H t).bind fun t => match t with
    | .tuple vs => v vs[i]?
    | _ => none
  | .call c => (opds fr H c.args.toList).bind fun args => match c.callee with
    | .value f => (opd fr H f).bind fun f => (callOut f args).map fun o => (o, H)
    | .builtin b => builtinV E b c.argTypes.toList args H
    | .invoke .. => none
  | .lookup t m k ok => (E.types t).bind fun ti => (opd fr H m).bind fun m => (opd fr H k).bind fun k =>
    match ti.under with
    | .map kt et => (E.types kt).bind fun ki => (E.types et).bind fun ei => (match m with
        | .nilm => findIn E kt ki.under k []
        | .map nm => match H.get nm with
          | some (.map es _) => findIn E kt ki.under k es
          | _ => none
        | _ => none : Option (Option (Nat × V))).map fun r => match r with
          | some (_, x) => (.val (if ok then .tuple [x, .bool true] else x), H)
          | none => (.val (if ok then .tuple [ei.zero, .bool false] else ei.zero), H)
    | _ => none
  | .mapUpdate t m k x | .insert t m k x => (E.types t).bind fun ti => (opd fr H m).bind fun m => (opd fr H k).bind fun k => (opd fr H x).bind fun x =>
    match ti.under, m with
    | .map kt _, .map nm => (E.types kt).bind fun ki => match H.get nm with
      | some (.map es clock) => (findIn E kt ki.under k es).bind fun r => match r with
        | some (i, _) => (H.upd nm (.map (es.modify i fun e => (k, x, e.2.2)) clock)).map fun H' => (.skip, H')
        | none => (H.upd nm (.map (es ++ [(k, x, clock)]) (clock + 1))).map fun H' => (.skip, H')
      | _ => none
    | _, _ => none
  | .typeAssert x _ t ok => (E.types t).bind fun ti => match ti.under with
    | .interface _ => none
    | _ => (opd fr H x).bind fun x => v (assertV t ti.zero ok x)
  | .panic x => (opd fr H x).bind fun x => match x with
    | .iface t x => some (.panic (.iface t x), H)
    | _ => none
  | .range t x => (E.types t).bind fun ti => (opd fr H x).bind fun x => match ti.under, x with
    | .string, .str s => some (.val (.ptr H.next 0 0 0), H.new (.siter s 0))
    | _, _ => none
  | .next x true => (opd fr H x).bind fun x => match x with
    | .ptr nm _ 0 _ => match H.get nm with
      | some (.siter s pos) => nextV H nm s pos
      | _ => none
    | _ => none
  | _ => none

/-! ### Code -/
abbrev Call := Tgt → List V → Heap → Option (CR × Heap)

def runOpV (E : Env) (call : Call) (all : Array Oper) (o : Oper) (fr : Fr) (H : Heap) : Option (CR × Heap) :=
  match wantV o all fr with
  | some true => match evOp E o fr H with
    | some (.val v, H') => some (.ret v, H')
    | some (.skip, H') => some (.ret undefV, H')
    | some (.call t args, H') => call t args H'
    | some (.panic v, H') => some (.panic [⟨v, false, false⟩], H')
    | _ => none
  | some false => some (.ret undefV, H)
  | none => none

/-- What a defer statement keeps for later. -/
def deferV (fr : Fr) (H : Heap) (c : Go.Call) : Option D :=
  match c.callee with
  | .value f => (opds fr H c.args.toList).bind fun args => (opd fr H f).bind fun f => match f with
    | .func (.func g) first captured => some { fn := .func g, captured := captured, args := first ++ args }
    | _ => none
  | _ => none

def Fr.push (fr : Fr) (d : D) : Fr :=
  match fr with
  | ⟨t, n, ds⟩ => ⟨t, n, .call d :: ds⟩

/-- The operations of a region in the order of the text; 'nd': no round of a loop is under way, so that what is deferred is the activation's own. -/
def runOps (E : Env) (call : Call) (nd : Bool) (all : Array Oper) : List Oper → Fr → Heap → Option (Ex × Fr × Heap)
  | [], fr, H => some (.normal, fr, H)
  | o :: rest, fr, H => match o.op with
    | .defer c => match wantV o all fr with
      | some true => bif nd then (deferV fr H c).bind fun d => runOps E call nd all rest ((fr.push d).put o.dst undefV) H else none
      | some false => runOps E call nd all rest (fr.put o.dst undefV) H
      | none => none
    | _ => match runOpV E call all o fr H with
      | some (.ret v, H') => runOps E call nd all rest (fr.put o.dst v) H'
      | some (.panic ch, H') => some (.panic ch, fr, H')
      | none => none

/-! ### Regions that draw their order -/
/-- What an operation looks at in memory: nothing; the names of a list; the same, and may change them; anything (a call that may change nothing that had a name); anything, and may change it. -/
inductive FP where
  | none
  | reads (l : List Nat)
  | writes (l : List Nat)
  | call
  | lone

def V.nm : V → List Nat
  | .ptr nm _ _ _ | .slice nm _ _ _ _ _ | .map nm => [nm]
  | _ => []

def nmOf (fr : Fr) : Operand → List Nat
  | .tmp t => match fr.tmp t with
    | some v => v.nm
    | none => []
  | .global g => [g]
  | _ => []

def nmsOf (fr : Fr) (l : List Operand) : List Nat := l.flatMap (nmOf fr)

def glOf : Operand → List Nat
  | .global g => [g]
  | _ => []

/-- Does an operation look at memory that has a name? (A new name is no look.) -/
def touches (E : Env) (op : Op) : Bool :=
  match op with
  | .load .. | .store .. | .lookup .. | .mapUpdate .. | .insert .. | .next .. | .convert .. => true
  | .call c => match c.callee with
    | .builtin .min | .builtin .max | .builtin .unsafeSliceData => c.args.any fun | .global _ => true | _ => false
    | .builtin .len => match c.argTypes.toList with
      | t :: _ => match E.types t with
        | some { under := .map .., .. } | none => true
        | _ => c.args.any fun | .global _ => true | _ => false
      | _ => true
    | _ => true
  | .slice t x lo hi mx => (match E.types t with
      | some { under := .array .., .. } | none => true
      | _ => false) || (Op.slice t x lo hi mx).operands.any fun | .global _ => true | _ => false
  | op => op.operands.any fun | .global _ => true | _ => false

def fpOf (E : Env) (o : Oper) (fr : Fr) : FP :=
  bif !touches E o.op then .none else
  match o.op with
  | .store _ a x => .writes (nmOf fr a ++ glOf x)
  | .mapUpdate _ m k x | .insert _ m k x => .writes (nmOf fr m ++ glOf k ++ glOf x)
  | .next i _ => .writes (nmOf fr i)
  | .call c => match c.callee with
    | .builtin b => match b with
      | .append | .copy | .clear | .unsafeString => .writes (nmsOf fr c.args.toList)
      | _ => .reads (nmsOf fr c.args.toList)
    | _ => .call
  | op => .reads (nmsOf fr op.operands.toList)

def clash : FP → FP → Bool
  | .none, _ | _, .none => false
  | .lone, _ | _, .lone => true
  | .writes w, .call | .call, .writes w => !w.isEmpty
  | .writes w, .writes l | .writes w, .reads l | .reads l, .writes w => w.any fun n => l.any fun m => Nat.beq n m
  | .reads _, .reads _ | .reads _, .call | .call, .reads _ | .call, .call => false

/-- Is operation i ordered against each other operation of its region that looks at memory? -/
def loneAt (E : Env) (all : Array Oper) (b : Array Nat) (i : Nat) : Bool :=
  all.toList.zipIdx.all fun (o, k) => Nat.beq k i || !touches E o.op || (b.getD (max i k) 0).testBit (min i k)

/-- An operation that has been carried out: its number, what it looked at, which names it made. -/
structure Done where
  i : Nat
  fp : FP
  lo : Nat
  hi : Nat

def Done.names (d : Done) : List Nat := List.range' d.lo (d.hi - d.lo)

/-- The memory at which an operation is run. -/
def tinyH (H : Heap) (fp : FP) (dels : List Nat) : Heap :=
  let ok (n : Nat) : Bool := Nat.blt n H.next && !dels.any fun m => Nat.beq n m
  match fp with
  | .none => { H with objs := .nil, ro := H.next }
  | .reads l => { H with objs := copyT H.objs (l.filter ok) .nil, ro := H.next }
  | .writes l => { H with objs := copyT H.objs (l.filter ok) .nil }
  | .call => { H with objs := copyT .nil dels H.objs, ro := H.next }
  | .lone => { H with objs := copyT .nil dels H.objs }

/-- The memory behind it. -/
def joinH (H K : Heap) (fp : FP) (dels : List Nat) : Heap :=
  let ok (n : Nat) : Bool := Nat.blt n H.next && !dels.any fun m => Nat.beq n m
  { objs := match fp with
      | .none | .reads _ | .call => copyT K.objs (List.range' H.next (K.next - H.next)) H.objs
      | .writes l => copyT K.objs (l.filter ok ++ List.range' H.next (K.next - H.next)) H.objs
      | .lone => copyT H.objs dels K.objs,
    next := K.next, ro := H.ro, glob := H.glob }

/-- The operations of a region that draws its order, in the order of the text. -/
def runDraw (E : Env) (call : Call) (all : Array Oper) (b : Array Nat) : Nat → List Oper → List Done → Fr → Heap → Option (Fr × Heap)
  | _, [], _, fr, H => some (fr, H)
  | i, o :: rest, done, fr, H => (wantV o all fr).bind fun wnt =>
    let fp := bif wnt then (match fpOf E o fr with
      | .call => bif loneAt E all b i then .lone else .call
      | x => x) else .none
    let free := done.filter fun d => !(b.getD i 0).testBit d.i
    bif free.any (fun d => clash d.fp fp) then none else
    let dels := free.flatMap Done.names
    match runOpV E call all o { fr with tmps := copyT fr.tmps (o.looksAt all) .nil } (tinyH H fp dels) with
    | some (.ret v, K) => bif Nat.blt K.next H.next then none else runDraw E call all b (i + 1) rest (⟨i, fp, H.next, K.next⟩ :: done) (fr.put o.dst v) (joinH H K fp dels)
    | _ => none

/-- What is asked of such a region's text: operations that are not ordered share no temporary; what an operation stands behind comes before it. -/
def drawStatic (ops : Array Oper) : Bool :=
  ops.toList.zipIdx.all fun (o, i) => o.after.all (fun e => !Region.binds .any e || Nat.blt e.on i) && (match o.op with | .select .. => false | _ => true) &&
    ops.toList.zipIdx.all fun (p, k) => Nat.ble i k || ((Region.before ops).getD i 0).testBit k || (p.apart ops o)

def codeOk : Code → Bool
  | .region _ ops draw => !draw || drawStatic ops
  | .seq a b => codeOk a && codeOk b
  | .cond _ a b => codeOk a && codeOk b
  | .block _ a | .loop a | .scope a => codeOk a
  | .rangeFunc _ _ a b => codeOk a && codeOk b
  | _ => true

def iter {σ : Type} (step : σ → Option (Bool × σ)) : Nat → σ → Option σ
  | 0, _ => none
  | n + 1, s => match step s with
    | some (true, s') => iter step n s'
    | some (false, s') => some s'
    | none => none

/-- What a round leaves to be done behind its loop. -/
def pendingEx : Option Code → Option Ex
  | none => some .normal
  | some .ret => some .ret
  | some (.exit id) => some (.exit id)
  | _ => none

/-- The record of the deferred calls of a loop's rounds: that of the loop around it, or a new one. -/
def enterV (round : Option Nat) (H : Heap) : Option (List Dfr × Heap × Nat) :=
  match round with
  | none => some ([Dfr.mark H.next], H.new .dfr, H.next)
  | some l => match H.get l with
    | some (.loop _ _ _ _ _ _ _ d) => some ([], H, d)
    | _ => none

/-- The end of a range over a function. -/
def endLoopV (H : Heap) (l : Nat) : Option (Ex × Heap) :=
  match H.get l with
  | some (.loop st pending lt ln lp la lb ld) => match st with
    | .busy => none
    | _ => (H.upd l (.loop .exhausted pending lt ln lp la lb ld)).bind fun H' => (pendingEx pending).map fun ex => (ex, H')
  | _ => none

def hasBody (E : Env) (f : Nat) : Bool :=
  match E.funcs f with
  | some fi => fi.body.isSome
  | none => false

def evCode (E : Env) (call : Call) (fn : FuncId) (round : Option Nat) (fuel : Nat) : Code → Fr → Heap → Option (Ex × Fr × Heap)
  | .skip, fr, H => some (.normal, fr, H)
  | .label _, fr, H => some (.normal, fr, H)
  | .exit id, fr, H => some (.exit id, fr, H)
  | .goto l, fr, H => some (.goto l, fr, H)
  | .ret, fr, H => some (.ret, fr, H)
  | .seq a b, fr, H => match evCode E call fn round fuel a fr H with
    | some (.normal, fr', H') => evCode E call fn round fuel b fr' H'
    | r => r
  | .cond c a b, fr, H => match opd fr H c with
    | some (.bool true) => evCode E call fn round fuel a fr H
    | some (.bool false) => evCode E call fn round fuel b fr H
    | _ => none
  | .block id c, fr, H => match evCode E call fn round fuel c fr H with
    | some (.exit id', fr', H') => bif Nat.beq id' id then some (.normal, fr', H') else some (.exit id', fr', H')
    | r => r
  | .scope c, fr, H => match evCode E call fn round fuel c fr H with
    | some (.goto _, _, _) => none
    | r => r
  | .loop c, fr, H => iter (fun (s : Ex × Fr × Heap) => match evCode E call fn round fuel c s.2.1 s.2.2 with
      | some (.normal, fr', H') => some (true, .normal, fr', H')
      | some r => some (false, r)
      | none => none) fuel (.normal, fr, H)
  | .region _ ops draw, fr, H => bif draw then
      (runDraw E call ops (Region.before ops) 0 ops.toList [] fr H).map fun r => (.normal, r.1, r.2)
    else runOps E call round.isNone ops ops.toList fr H
  | .rangeFunc f params assign body, fr, H => (enterV round H).bind fun z =>
    match (opd fr H f).bind fun f => callOut f [.func (.yield z.2.1.next) [] []] with
    | some (.call (.func g) args) =>
      bif hasBody E g then
        match call (.func g) args (z.2.1.new (.loop .ready none fr.tmps fr.n params.toList assign body z.2.2)) with
        | some (.ret _, H3) => (endLoopV H3 z.2.1.next).map fun y => (y.1, { fr with defers := z.1 ++ fr.defers }, y.2)
        | some (.panic ch, H3) => some (.panic ch, { fr with defers := z.1 ++ fr.defers }, H3)
        | none => none
      else none
    | _ => none
  | .refuse _, _, _ => none

def resultsV (E : Env) (fr : Fr) (H : Heap) : List ResultVar → Option (List V)
  | [] => some []
  | .tmp t :: rs => (fr.tmp t).bind fun v => (resultsV E fr H rs).map fun vs => v :: vs
  | .cell a t :: rs => (E.types t).bind fun ti => (fr.tmp a).bind fun p => (loadV H ti p).bind fun v => (resultsV E fr H rs).map fun vs => v :: vs

def enterTmps (args : List V) : Tree V := Tree.ofList args

def putParams (n : Nat) : List Tmp → List V → Tree V → Option (Tree V)
  | [], [], t => some t
  | p :: ps, v :: vs, t => bif Nat.blt p n then putParams n ps vs (t.set p v) else none
  | _, _, _ => none

/-- The library's functions that have no body. -/
def extV (ext : Nat) (args : List V) : Option V :=
  match ext, args with
  | 1, [.str s, .int .u8 c] => some (.int .i64 (match s.findIdx? (fun b => b == c.toNat.toUInt8) with | some i => (i : Int) | none => -1))
  | 2, [.str s, .int .u8 c] => some (.int .i64 (s.countP (fun b => b == c.toNat.toUInt8) : Nat))
  | 4, [x] => some x
  | _, _ => none

/-- In which way an activation is under way out: returning; with a panic; with a panic that is recovered. -/
inductive Md where
  | returning
  | panicking (v : V)
  | recovered (v : V)

def isRecover (o : Oper) : Bool :=
  match o.op with
  | .call c => match c.callee with
    | .builtin .recover => Nat.beq c.args.size 0
    | _ => false
  | _ => false

/-- The operations of a deferred function's region that asks for what is recovered. -/
def runOpsS (E : Env) (all : Array Oper) : List Oper → Md → Fr → Heap → Option (Ex × Md × Fr × Heap)
  | [], md, fr, H => some (.normal, md, fr, H)
  | o :: rest, md, fr, H => match wantV o all fr with
    | some true => bif isRecover o then (match md with
        | .panicking v => runOpsS E all rest (.recovered v) (fr.put o.dst v) H
        | md => runOpsS E all rest md (fr.put o.dst .nili) H)
      else (match evOp E o fr H with
        | some (.val v, H') => runOpsS E all rest md (fr.put o.dst v) H'
        | some (.skip, H') => runOpsS E all rest md (fr.put o.dst undefV) H'
        | _ => none)
    | some false => runOpsS E all rest md (fr.put o.dst undefV) H
    | none => none

def hasRecover : Code → Bool
  | .region _ ops _ => ops.toList.any isRecover
  | .seq a b => hasRecover a || hasRecover b
  | .cond _ a b => hasRecover a || hasRecover b
  | .block _ a | .loop a | .scope a => hasRecover a
  | .rangeFunc _ _ a b => hasRecover a || hasRecover b
  | _ => false

def evLeafS (E : Env) (call : Call) (fn : FuncId) (fuel : Nat) (c : Code) (md : Md) (fr : Fr) (H : Heap) : Option (Ex × Md × Fr × Heap) :=
  bif hasRecover c then (match c with
    | .region _ ops false => runOpsS E ops ops.toList md fr H
    | _ => none)
  else (evCode E call fn none fuel c fr H).map fun x => (x.1, md, x.2)

/-- The code of a function that is deferred. -/
def evCodeS (E : Env) (call : Call) (fn : FuncId) (fuel : Nat) : Code → Md → Fr → Heap → Option (Ex × Md × Fr × Heap)
  | .seq a b, md, fr, H => match evCodeS E call fn fuel a md fr H with
    | some (.normal, md', fr', H') => evCodeS E call fn fuel b md' fr' H'
    | x => x
  | .cond c a b, md, fr, H => match opd fr H c with
    | some (.bool true) => evCodeS E call fn fuel a md fr H
    | some (.bool false) => evCodeS E call fn fuel b md fr H
    | _ => none
  | c, md, fr, H => evLeafS E call fn fuel c md fr H

def settleV : Md → Md
  | .recovered _ => .returning
  | md => md

/-- A deferred call, carried out. -/
def deferredCall (E : Env) (call : Call) (fuel : Nat) (d : D) (md : Md) (H : Heap) : Option (Md × Heap) :=
  match d.fn with
  | .func f => (E.funcs f).bind fun fi => match fi.body with
    | some c => (evCodeS E call f fuel c md { tmps := enterTmps (d.args ++ d.captured), n := max (d.args ++ d.captured).length fi.ntmps, defers := [] } H).bind fun x =>
      match x.1, x.2.2.1.defers with
      | .normal, [] | .ret, [] => (resultsV E x.2.2.1 x.2.2.2 fi.results).map fun _ => (x.2.1, x.2.2.2)
      | _, _ => none
    | none => none
  | _ => none

/-- What is deferred, carried out; the marks of the loops of an activation, taken off. -/
def leave (E : Env) (call : Call) (fuel : Nat) : List Dfr → Md → Heap → Option (Md × Heap)
  | [], md, H => some (md, H)
  | .mark nm :: ds, md, H => match H.get nm with
    | some .dfr => (H.upd nm .gone).bind fun H' => leave E call fuel ds md H'
    | _ => none
  | .call d :: ds, md, H => (deferredCall E call fuel d md H).bind fun r => leave E call fuel ds (settleV r.1) r.2

/-- The way out of a function's body. -/
def wayOut (E : Env) (call : Call) (fuel : Nat) (x : Ex × Fr × Heap) : Option (Md × Fr × Heap) :=
  match x.1 with
  | .normal | .ret => (leave E call fuel x.2.1.defers .returning x.2.2).map fun r => (r.1, x.2.1, r.2)
  | .panic [⟨v, false, false⟩] => (leave E call fuel x.2.1.defers (.panicking v) x.2.2).map fun r => (r.1, x.2.1, r.2)
  | _ => none

/-- The end of a round of a range over a function. -/
def endRoundV (H : Heap) (l : Nat) (jump : Option Code) : Option (CR × Heap) :=
  match H.get l with
  | some (.loop _ _ lt ln lp la lb ld) => (H.upd l (.loop (if jump.isNone then .ready else .done) jump lt ln lp la lb ld)).map fun H' => (.ret (.bool jump.isNone), H')
  | _ => none

def roundOut (l : Nat) (x : Ex × Fr × Heap) : Option (CR × Heap) :=
  match x.1 with
  | .normal => endRoundV x.2.2 l none
  | .ret => endRoundV x.2.2 l (some .ret)
  | .exit id => endRoundV x.2.2 l (some (.exit id))
  | _ => none

/-- A round begins. -/
def beginV (H : Heap) (l : Nat) : Option Heap :=
  match H.get l with
  | some (.loop .ready pending lt ln lp la lb ld) => H.upd l (.loop .busy pending lt ln lp la lb ld)
  | _ => none

def oneOf : List V → V
  | [v] => v
  | vs => .tuple vs

def handBack (E : Env) (rs : List ResultVar) (x : Md × Fr × Heap) : Option (CR × Heap) :=
  match x.1 with
  | .returning => (resultsV E x.2.1 x.2.2 rs).map fun vs => (.ret (oneOf vs), x.2.2)
  | .panicking v => some (.panic [⟨v, false, false⟩], x.2.2)
  | .recovered _ => none

def callFn (E : Env) : Nat → Call
  | 0, _, _, _ => none
  | n + 1, .func f, args, H => match (match E.spec f with
      | some s => s args H
      | none => none) with
    | some r => some r
    | none => (E.funcs f).bind fun fi => match fi.body with
    | some c => (evCode E (callFn E n) f none (n + 1) c { tmps := enterTmps args, n := max args.length fi.ntmps, defers := [] } H).bind fun x =>
        (wayOut E (callFn E n) (n + 1) x).bind fun y => handBack E fi.results y
    | none => (extV fi.ext args).map fun v => (.ret v, H)
  | n + 1, .round l, args, H => match H.get l with
    | some (.loop _ _ lt ln lp la lb _) => (putParams ln lp args lt).bind fun t =>
      match evCode E (callFn E n) 0 (some l) (n + 1) la { tmps := t, n := ln, defers := [] } H with
      | some (.normal, fr, H1) => (beginV H1 l).bind fun H2 => (evCode E (callFn E n) 0 (some l) (n + 1) lb fr H2).bind fun x => roundOut l x
      | _ => none
    | _ => none

/-! ### The tables of a program -/
def plainEq (P : Program) : Nat → TypeId → Bool
  | 0, _ => false
  | d + 1, t => match P.underlying t with
    | some (.int _) | some .string | some .bool => true
    | some (.struct fs) => !P.stoodInHeld t && !P.eqGuardType P.depth t && fs.all fun f => f.name != "_" && plainEq P d f.type
    | _ => false

def isAggD : TypeDesc → Bool
  | .struct _ | .array .. => true
  | _ => false

def typeOf (P : Program) (t : Nat) : Option TI :=
  match P.info? t, P.underlying t with
  | some i, some u => (i.zero.bind (absV 1000)).bind fun z => bif Nat.beq z.cells.length i.size then some { under := u, size := i.size, bytes := i.bytes, zero := z, isAgg := isAggD u } else none
  | _, _ => none

def extOf (name : String) : Nat :=
  if name == "internal/bytealg.IndexByteString" then 1 else if name == "internal/bytealg.CountString" then 2 else if name == "internal/abi.NoEscape" then 4 else 0

def funcOf (P : Program) (f : Nat) : Option FI :=
  match P.funcs[f]? with
  | some fn => bif fn.name == "runtime.NumGoroutine" then none else
    match fn.body with
    | some c => some { body := some c, ext := 0, ntmps := fn.ntmps, results := fn.results.toList }
    | none => some { body := none, ext := extOf fn.name, ntmps := 0, results := [] }
  | none => none

def envOf (P : Program) (spec : Nat → Option (List V → Heap → Option (CR × Heap))) : Env :=
  { types := typeOf P, funcs := funcOf P, spec, eqOk := plainEq P 20, lies := fun e n off u => liesAt P P.depth e n off u 1 }

end Go.E2
