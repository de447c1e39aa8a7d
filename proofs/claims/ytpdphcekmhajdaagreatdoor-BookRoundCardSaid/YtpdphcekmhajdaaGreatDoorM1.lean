/- A VERIFIED EVALUATOR, texts E2a, E2b, E2c, E2d, E2e, E2f, E2g, E2h, E2i, E2j, E2k, E2l, E2m, E2w, E2n in one. -/
import GoSem.Step
import Derived.Orders
import Derived.KernelRfl
import Derived.RangeFuncIn
import Derived.OrdersIn
import Derived.WalkKit
import Derived.Lib.UnsafeStr
import Derived.Laws.BytesArg
namespace Go
abbrev ZB := List UInt8
theorem zI {α β : Type _} {o : Option α} {f : α -> Option β} {b : β} : o.bind f = some b ↔ ∃ a, o = some a ∧ f a = some b := Option.bind_eq_some_iff
theorem zM {α β : Type _} {o : Option α} {f : α -> β} {b : β} : o.map f = some b ↔ ∃ a, o = some a ∧ f a = b := Option.map_eq_some_iff
theorem zS {α : Type _} (a b : α) : (some a = some b) = (a = b) := Option.some.injEq a b
theorem zP {α β : Type _} (a : α) (b : β) (c : α) (d : β) : ((a, b) = (c, d)) = (a = c ∧ b = d) := Prod.mk.injEq a b c d
theorem zN (n : Nat) : n ≤ n := Nat.le_refl n
theorem zA (a b : Bool) : ((a && b) = true) = (a = true ∧ b = true) := Bool.and_eq_true a b
theorem zE {n m : Nat} (h : Nat.beq n m = true) : n = m := Nat.eq_of_beq_eq_true h
theorem zL {n m k : Nat} (h : n < m) (a : m ≤ k) : n < k := Nat.lt_of_lt_of_le h a
theorem zC {α : Type _} {a : α} {l : List α} : a ∈ a :: l := List.mem_cons_self
theorem zD {α : Type _} {a b : α} {l : List α} : a ∈ b :: l ↔ a = b ∨ a ∈ l := List.mem_cons
theorem zB {α β : Type _} (a : α) (f : α -> Option β) : (some a).bind f = f a := Option.bind_some a f
theorem zF {c : Prop} {h : Decidable c} (n : ¬c) {α : Sort _} {t e : α} : ite c t e = e := if_neg n
theorem zT {c : Prop} {h : Decidable c} (n : c) {α : Sort _} {t e : α} : ite c t e = t := if_pos n
theorem zG {α : Type _} (y : α) {a : α} {l : List α} (h : a ∈ l) : a ∈ y :: l := List.mem_cons_of_mem y h
theorem zH {α β : Type _} (a : α) (f : α -> β) : (some a).map f = some (f a) := Option.map_some a f
theorem zJ {α : Type _} (l : List α) : l ++ [] = l := List.append_nil l
theorem zK (a : Int) : a ≤ a := Int.le_refl a
theorem zO {α : Sort _} {a b : α} : cond true a b = a := rfl
theorem zQ {α : Sort _} {a b : α} : cond false a b = b := rfl
theorem zR {n m k : Nat} (h : n ≤ m) (a : m ≤ k) : n ≤ k := Nat.le_trans h a
theorem zU {m n : Nat} (k : Nat) (h : m ≤ n) : m * k ≤ n * k := Nat.mul_le_mul_right k h
end Go
/- THE MACHINE E2: an executable big-step machine over memory with names, for programs of the model. Definitions alone; nothing is proved here of the model. -/
namespace Go.E2
inductive Tree (α:Type) where
 | nil
 | node (v:Option α) (l r:Tree α)
def Tree.get {α:Type}:Tree α->Nat->Option α
 | .nil,_=>none
 | .node v l r,n=>bif Nat.beq n 0 then v else bif Nat.beq (n % 2) 1 then l.get (n / 2) else r.get (n / 2-1)
def Tree.q0p {α:Type} (a:α):Nat->Tree α->Nat->Tree α
 | 0,t,_=>t
 | f+1,.nil,n=>bif Nat.beq n 0 then .node (some a) .nil .nil
   else bif Nat.beq (n % 2) 1 then .node none (Tree.q0p a f .nil (n / 2)) .nil else .node none .nil (Tree.q0p a f .nil (n / 2-1))
 | f+1,.node v l r,n=>bif Nat.beq n 0 then .node (some a) l r
   else bif Nat.beq (n % 2) 1 then .node v (Tree.q0p a f l (n / 2)) r else .node v l (Tree.q0p a f r (n / 2-1))
def Tree.set {α:Type} (t:Tree α) (n:Nat) (a:α):Tree α:=Tree.q0p a (n+1) t n
def Tree.del {α:Type}:Tree α->Nat->Tree α
 | .nil,_=>.nil
 | .node v l r,n=>bif Nat.beq n 0 then .node none l r else bif Nat.beq (n % 2) 1 then .node v (l.del (n / 2)) r else .node v l (r.del (n / 2-1))
def ke {α:Type} (src:Tree α):List Nat->Tree α->Tree α
 | [],t=>t
 | n::l,t=>ke src l (match src.get n with
  | some a=>t.set n a
  | none=>t.del n)
def Tree.ofList {α:Type} (l:List α):Tree α:=(l.foldl (λ(s:Tree α×Nat) a=>(s.1.set s.2 a,s.2+1)) (.nil,0)).1
inductive V where
 | int (k:IntKind) (n:Int)
 | bool (b:Bool)
 | str (s:List UInt8)
 | ptr (nm g off lim:Nat)
 | nilp
 | slice (nm g off len sz:Nat) (cap:Option Nat)
 | nils
 | func (fn:Fn) (first captured:List V)
 | nilf
 | iface (t:TypeId) (v:V)
 | nili
 | agg (cells:List V)
 | tuple (vs:List V)
 | map (nm:Nat)
 | nilm
def je:V:=.tuple []
def V.cells:V->List V
 | .agg cs=>cs
 | v=>[v]
mutual
def qoq:Nat->Value->Option V
 | 0,_=>none
 | n+1,v=>match v with
  | .int k i=>some (.int k i)
  | .bool b=>some (.bool b)
  | .string s=>some (.str s.data.toList)
  | .pointer none=>some .nilp
  | .slice none 0 0=>some .nils
  | .map none=>some .nilm
  | .func (.func f) first d=>(q7m n first.toList).bind λa=>(q7m n d.toList).map λc=>.func (.func f) a c
  | .nilFunc=>some .nilf
  | .iface t v=>(qoq n v).map λx=>.iface t x
  | .nilIface=>some .nili
  | .agg cs=>(q7m n cs.toList).map .agg
  | .tuple e=>(q7m n e.toList).map .tuple
  | _=>none
def q7m:Nat->List Value->Option (List V)
 | 0,_=>none
 | n+1,l=>match l with
  | []=>some []
  | v::a=>(qoq n v).bind λx=>(q7m n a).map λb=>x::b
end
inductive O where
 | row (cells:List V) (elem:TypeId) (gen floor frz:Nat) (exact:Bool)
 | map (es:List (V×V×Nat)) (clock:Nat)
 | loop (st:LoopState) (pending:Option Code) (tmps:Tree V) (n:Nat) (params:List Tmp) (assign body:Code) (defers:Nat)
 | dfr
 | gone
structure Heap where
 qbq:Tree O
 next:Nat
 ro:Nat
 zf:Nat
def Heap.get (H:Heap) (n:Nat):Option O:=H.qbq.get n
def Heap.new (H:Heap) (o:O):Heap:=
 match H with
 | ⟨t,n,r,g⟩=>⟨t.set n o,n+1,r,g⟩
def Heap.upd (H:Heap) (n:Nat) (o:O):Option Heap:=
 match H with
 | ⟨t,k,r,g⟩=>bif Nat.blt n r then none else some ⟨t.set n o,k,r,g⟩
structure TI where
 under:TypeDesc
 size:Nat
 bytes:Nat
 zero:V
 isAgg:Bool
structure FI where
 body:Option Code
 ext:Nat
 ntmps:Nat
 results:List ResultVar
inductive Tgt where
 | func (f:FuncId)
 | round (l:Nat)
structure PE where
 v:V
 recovered:Bool
 goexit:Bool
inductive CR where
 | ret (v:V)
 | panic (chain:List PE)
structure Env where
 types:Nat->Option TI
 funcs:Nat->Option FI
 spec:Nat->Option (List V->Heap->Option (CR×Heap))
 eqOk:TypeId->Bool
 lies:TypeId->Nat->Nat->TypeId->Bool
inductive Dfr where
 | mark (nm:Nat)
structure Fr where
 tmps:Tree V
 n:Nat
 defers:List Dfr
def Fr.put (fr:Fr) (dst:Option Tmp) (v:V):Fr:=
 match dst with
 | some d=>match fr with
  | ⟨t,n,a⟩=>bif Nat.blt d n then ⟨t.set d v,n,a⟩ else ⟨t,n,a⟩
 | none=>fr
def Fr.tmp (fr:Fr) (t:Nat):Option V:=fr.tmps.get t
def opd (fr:Fr) (H:Heap):Operand->Option V
 | .tmp t=>fr.tmp t
 | .const v=>qoq 1000 v
 | .global g=>bif Nat.blt g H.zf then match H.get g with
  | some (.row cells _ 0 _ _ _)=>some (.ptr g 0 0 cells.length)
  | _=>none else none
 | .func f=>some (.func (.func f) [] [])
def qcy (fr:Fr) (H:Heap):List Operand->Option (List V)
 | []=>some []
 | x::a=>(opd fr H x).bind λv=>(qcy fr H a).map λb=>v::b
inductive Out where
 | val (v:V)
 | skip
 | call (t:Tgt) (args:List V)
 | panic (v:V)
inductive Ex where
 | normal
 | exit (id:Nat)
 | goto (l:Nat)
 | ret
 | panic (chain:List PE)
def qn6 (ti:TI) (cs:List V) (off:Nat):Option V:=
 bif ti.isAgg then (bif Nat.ble (off+ti.size) cs.length then some (.agg ((cs.drop off).take ti.size)) else none)
 else cs[off]?
def setCells (cs:List V) (off:Nat) (a:List V):List V:=cs.take off++a++cs.drop (off+a.length)
def qhx (place:Nat->Option (Nat×Nat)):List V->List (Nat×V)->Option (List V)
 | cells,[]=>some cells
 | cells,(i,v)::rest=>match place i with
  | none=>none
  | some (off,a)=>bif Nat.beq v.cells.length a&&Nat.ble (off+a) cells.length then qhx place (setCells cells off v.cells) rest else none
def qdh (o:Oper) (all:Array Oper) (fr:Fr):Option Bool:=
 match o.guard with
 | none=>some true
 | some (j,a)=>match (all[j]?).bind (·.dst) with
  | none=>some false
  | some d=>match fr.tmp d with
   | some (.bool b)=>some (b == a)
   | some _=>some false
   | none=>none
def isHole:V->Bool
 | .tuple [.slice _ _ _ _ 0 _]=>true
 | _=>false
def ql3 (cs:List V):Option (List V):=bif cs.any isHole then none else some cs
def jb (H:Heap) (size:Nat):V->Option (List V)
 | .ptr nm g off lim=>match H.get nm with
  | some (.row cells _ _ a _ _)=>
   bif Nat.ble a g&&Nat.ble (off+size) lim&&Nat.ble lim cells.length then ql3 ((cells.drop off).take size) else none
  | _=>none
 | _=>none
def qjk (H:Heap) (ti:TI) (p:V):Option V:=
 (jb H ti.size p).bind λcs=>bif ti.isAgg then some (.agg cs) else match cs with
   | [v]=>some v
   | _=>none
def V.j7:V->Bool
 | .agg _ | .tuple _=>false
 | _=>true
def qb1 (H:Heap) (a:List V):V->Option Heap
 | .ptr nm g off lim=>match H.get nm with
  | some (.row cells elem gen _ frz exact)=>
   bif Nat.beq g gen&&Nat.ble (off+a.length) lim&&Nat.ble lim cells.length&&Nat.ble frz off&&a.all V.j7
   then H.upd nm (.row (setCells cells off a) elem gen gen frz exact) else none
  | _=>none
 | _=>none
def qjg (H:Heap) (ti:TI) (p v:V):Option Heap:=
 bif Nat.beq v.cells.length ti.size then qb1 H v.cells p else none
def qj7 (H:Heap) (cells:List V) (elem:TypeId):Heap:=H.new (.row cells elem 0 0 0 true)
def V.qd1 (sz:Nat):V->V
 | .slice nm g off len z cap=>match cap with
  | some c=>bif Nat.beq c 0 then .slice nm g off len sz cap else .slice nm g off len z cap
  | none=>.slice nm g off len z cap
 | v=>v
def qcm (H:Heap) (sz:Nat):V->Option (Nat×List V)
 | .nils=>some (0,[])
 | .slice nm g off len a _=>bif Nat.beq sz a then (jb H (len * sz) (.ptr nm g off (off+len * sz))).map λcs=>(len,cs) else none
 | .str s=>bif Nat.beq sz 1 then some (s.length,s.map λb=>.int .u8 b.toNat) else none
 | _=>none
def k7 (H:Heap) (sz:Nat) (x:V):Option (Nat×List V):=qcm H sz (x.qd1 sz)
def room:Nat:=140737488355328
def qbi (H:Heap) (elem:TypeId) (sz bytes:Nat) (s x:V):Option (V×Heap):=
 (k7 H sz x).bind λ(n,a)=>
 match s with
 | .nils=>bif Nat.beq n 0 then some (.nils,H)
   else bif Nat.ble (n * bytes) room&&Nat.ble n room then some (.slice H.next 0 0 n sz none,H.new (.row a elem 0 0 0 false)) else none
 | .slice nm g off len f cap=>
  bif !Nat.beq sz f then none else
  bif Nat.beq n 0 then some (s,H) else
  bif !(Nat.ble ((len+n) * bytes) room&&Nat.ble (len+n) room) then none else
  bif !a.all V.j7 then none else
  match H.get nm with
  | some (.row cells e gen b d _)=>
   match cap with
   | some c=>
    bif Nat.ble (len+n) c then
     (qb1 H a (.ptr nm g (off+len * sz) (off+(len+n) * sz))).map λH'=>(.slice nm g off (len+n) sz cap,H')
    else (k7 H sz s).map λ(_,old)=>(.slice H.next 0 0 (len+n) sz none,H.new (.row (old++a) elem 0 0 0 false))
   | none=>
    bif Nat.beq g gen&&Nat.beq (off+len * sz) cells.length&&Nat.ble d cells.length&&Nat.ble b gen&&!Nat.beq sz 0&&Nat.beq e elem then
     (H.upd nm (.row (cells++a) e (gen+1) b d false)).map λH'=>(.slice nm (gen+1) off (len+n) sz none,H')
    else none
  | _=>none
 | _=>none
def qbs (H:Heap) (elem:TypeId) (sz bytes:Nat) (s x:V):Option (V×Heap):=qbi H elem sz bytes (s.qd1 sz) x
def qbw:List UInt8->List UInt8->Bool
 | _,[]=>false
 | [],_::_=>true
 | a::x,b::y=>a<b || (a == b&&qbw x y)
def qh8 (op:BinOp) (k:IntKind) (a b:Int):Option V:=
 match op with
 | .add=>some (.int k (k.wrap (a+b)))
 | .sub=>some (.int k (k.wrap (a-b)))
 | .mul=>some (.int k (k.wrap (a * b)))
 | .quo=>if b=0 then none else some (.int k (k.wrap (a.tdiv b)))
 | .rem=>if b=0 then none else some (.int k (a.tmod b))
 | .and=>some (.int k (k.wrap (BitVec.ofInt k.bits a &&&BitVec.ofInt k.bits b).toNat))
 | .or=>some (.int k (k.wrap (BitVec.ofInt k.bits a ||| BitVec.ofInt k.bits b).toNat))
 | .xor=>some (.int k (k.wrap (BitVec.ofInt k.bits a ^^^ BitVec.ofInt k.bits b).toNat))
 | .andNot=>some (.int k (k.wrap (BitVec.ofInt k.bits a &&&~~~ BitVec.ofInt k.bits b).toNat))
 | .eql=>some (.bool (a == b))
 | .neq=>some (.bool (a != b))
 | .lss=>some (.bool (a<b))
 | .leq=>some (.bool (a<=b))
 | .gtr=>some (.bool (a > b))
 | .geq=>some (.bool (a>=b))
 | _=>none
def qvb (op:BinOp) (k:IntKind) (a b:Int):Option V:=
 if b<0 then none else
  let n:=min b.toNat k.bits
  match op with
  | .shl=>some (.int k (k.wrap (a * 2 ^ n)))
  | .shr=>some (.int k (a.fdiv (2 ^ n)))
  | _=>none
def qmm (op:BinOp) (x y:List UInt8):Option V:=
 match op with
 | .add=>bif Nat.ble (x.length+y.length) room then some (.str (x++y)) else none
 | .eql=>some (.bool (x == y))
 | .neq=>some (.bool (!(x == y)))
 | .lss=>some (.bool (qbw x y))
 | .leq=>some (.bool (qbw x y || x == y))
 | .gtr=>some (.bool (!(qbw x y || x == y)))
 | .geq=>some (.bool (!qbw x y))
 | _=>none
mutual
def eqV (E:Env):Nat->TypeId->V->V->Option Bool
 | 0,_,_,_=>none
 | d+1,t,x,y=>match E.types t with
  | none=>none
  | some ti=>match ti.under,x,y with
   | .int _,.int k a,.int h b=>if k=h then some (a == b) else none
   | .string,.str a,.str b=>some (a == b)
   | .bool,.bool a,.bool b=>some (a == b)
   | .struct i,.agg j,.agg l=>bif E.eqOk t then eqFields E d i.toList j l else none
   | .slice _,.nils,.nils=>some true
   | .slice _,.nils,.slice .. | .slice _,.slice ..,.nils=>some false
   | .func ..,.nilf,.nilf=>some true
   | .func ..,.nilf,.func .. | .func ..,.func ..,.nilf=>some false
   | .map ..,.nilm,.nilm=>some true
   | .map ..,.nilm,.map _ | .map ..,.map _,.nilm=>some false
   | .pointer _,.nilp,.nilp=>some true
   | .pointer _,.nilp,.ptr .. | .pointer _,.ptr ..,.nilp=>some false
   | .pointer e,.ptr nm g off _,.ptr f m c _=>(E.types e).bind λn=>bif !Nat.beq n.size 0&&(Nat.beq nm f&&Nat.beq g m) then some (Nat.beq off c) else none
   | .interface _,.iface ..,.nili | .interface _,.nili,.iface ..=>some false
   | .interface _,.nili,.nili=>some true
   | _,_,_=>none
def eqFields (E:Env):Nat->List Field->List V->List V->Option Bool
 | 0,_,_,_=>none
 | d+1,c,e,g=>match c with
  | []=>some true
  | f::c=>match E.types f.type with
   | none=>none
   | some ti=>(qn6 ti e f.offset).bind λa=>(qn6 ti g f.offset).bind λb=>
    (eqV E d f.type a b).bind λr=>bif r then eqFields E d c e g else some false
end
def qbj (E:Env) (op:BinOp) (t:TypeId) (x y:V):Option V:=
 match op,x,y with
 | .shl,.int k a,.int _ b=>qvb .shl k a b
 | .shr,.int k a,.int _ b=>qvb .shr k a b
 | op,.int k a,.int c b=>if k=c then qh8 op k a b else none
 | op,.str a,.str b=>qmm op a b
 | .eql,x,y=>(eqV E 1000 t x y).map .bool
 | .neq,x,y=>(eqV E 1000 t x y).map λb=>.bool (!b)
 | _,_,_=>none
def zay (op:UnOp) (x:V):Option V:=
 match op,x with
 | .neg,.int k n=>some (.int k (k.wrap (0-n)))
 | .xor,.int k n=>some (.int k (k.wrap (BitVec.ofInt k.bits (if k.signed then -1 else k.max) ^^^ BitVec.ofInt k.bits n).toNat))
 | .not,.bool b=>some (.bool !b)
 | _,_=>none
def qao (lo hi:Nat):Option V->Nat->Option Nat
 | none,d=>some d
 | some (.int _ i),_=>if (lo:Int)<=i/\i<=hi then some i.toNat else none
 | some _,_=>none
def qit (a:Nat) (x:V) (lo hi b:Option V):Option V:=
 match x with
 | .str s=>match b with
  | some _=>none
  | none=>(qao 0 s.length hi s.length).bind λh=>(qao 0 h lo 0).map λl=>.str ((s.take h).drop l)
 | .nils=>(qao 0 0 b 0).bind λm=>(qao 0 m hi 0).bind λh=>(qao 0 h lo 0).map λ_=>.nils
 | .slice nm g off len sz cap=>
  bif !Nat.beq a sz then none else
  match b with
  | some _=>
   let c:=cap.getD len
   (qao 0 c b c).bind λm=>(qao 0 m hi len).bind λh=>(qao 0 h lo 0).map λl=>
     .slice nm g (off+l * sz) (h-l) sz (some (m-l))
  | none=>
   let c:=cap.getD len
   (qao 0 c hi len).bind λh=>(qao 0 h lo 0).map λl=>.slice nm g (off+l * sz) (h-l) sz (cap.map (· - l))
 | _=>none
def qfv (a:Nat) (x:V) (lo hi b:Option V):Option V:=qit a (x.qd1 a) lo hi b
def qgf (a:Nat) (x i:V):Option V:=
 match x,i with
 | .slice nm g off len sz _,.int _ i=>if Nat.beq a sz=true/\0<=i/\i<len then some (.ptr nm g (off+i.toNat * sz) (off+len * sz)) else none
 | _,_=>none
def qh7 (n:Nat):V:=.int .i64 n
def qlg:TypeDesc->V->V->Option Bool
 | .int _,.int k a,.int c b=>if k=c then some (a == b) else none
 | .string,.str a,.str b=>some (a == b)
 | .bool,.bool a,.bool b=>some (a == b)
 | _,_,_=>none
def plainKey:TypeDesc->Bool
 | .int _ | .string | .bool=>true
 | _=>false
def qo3 (a:TypeDesc) (k:V):List (V×V×Nat)->Nat->Option (Option (Nat×V))
 | [],_=>some none
 | (b,v,_)::c,i=>match qlg a k b with
  | some true=>some (some (i,v))
  | some false=>qo3 a k c (i+1)
  | none=>none
def qku (E:Env) (b:TypeId) (a:TypeDesc) (k:V) (es:List (V×V×Nat)):Option (Option (Nat×V)):=
 bif plainKey a then qo3 a k es 0 else none
def qe9 (f:V) (args:List V):Option Out:=
 match f with
 | .func (.func f) first a=>some (.call (.func f) (first++args++a))
 | .func (.yield l) first _=>some (.call (.round l) (first++args))
 | _=>none
def qg9 (ti:TI) (k:Nat):Option Field:=
 match ti.under with
 | .struct a=>a[k]?
 | _=>none
def qmi (fr:Fr) (H:Heap):Option Operand->Option (Option V)
 | none=>some none
 | some x=>(opd fr H x).map some
def q58 (c:Bool):V->List V->Option V
 | x,[]=>some x
 | .int k a,.int _ b::rest=>q58 c (.int k (if (if c then b > a else b<a) then b else a)) rest
 | _,_=>none
def qc8:List V->Option (List UInt8)
 | []=>some []
 | .int .u8 n::a=>if 0<=n/\n<256 then (qc8 a).map λl=>UInt8.ofNat n.toNat::l else none
 | _=>none
def jj (E:Env) (b:Builtin) (a:List TypeId) (args:List V) (H:Heap):Option (Out×Heap):=
 match b,args with
 | .len,[x]=>match a with
  | [t]=>(E.types t).bind λti=>match ti.under,x with
   | .array n _,_=>some (.val (qh7 n),H)
   | .string,.str s=>some (.val (qh7 s.length),H)
   | .slice _,.nils=>some (.val (qh7 0),H)
   | .slice _,.slice _ _ _ len _ _=>some (.val (qh7 len),H)
   | .map ..,.nilm=>some (.val (qh7 0),H)
   | .map ..,.map nm=>match H.get nm with
    | some (.map d _)=>some (.val (qh7 d.length),H)
    | _=>none
   | _,_=>none
  | _=>none
 | .append,[s,x]=>match a with
  | [t,u]=>(E.types t).bind λti=>(E.types u).bind λf=>match ti.under,f.under with
   | .slice e,.slice _ | .slice e,.string=>(E.types e).bind λc=>(qbs H e c.size c.bytes s x).map λr=>(.val r.1,r.2)
   | _,_=>none
  | _=>none
 | .unsafeSliceData,[x]=>match x with
  | .nils=>some (.val .nilp,H)
  | .slice nm g off len sz _=>bif Nat.blt 0 len then some (.val (.ptr nm g off (off+len * sz)),H) else none
  | _=>none
 | .unsafeString,[p,.int .i64 n]=>match a with
  | [h,_]=>match p with
   | .nilp=>if n=0 then some (.val (.str []),H) else none
   | .ptr nm g 0 lim=>(E.types h).bind λti=>match ti.under,H.get nm with
    | .pointer e,some (.row cells elem gen floor frz exact)=>(E.types elem).bind λc=>
     if e=elem/\c.size=1/\0<n/\n<=140737488355328/\g=gen then
      (jb H n.toNat (.ptr nm g 0 lim)).bind λcs=>(qc8 cs).bind λl=>
        (H.upd nm (.row cells elem gen floor (max frz n.toNat) exact)).map λH'=>(.val (.str l),H')
     else none
    | _,_=>none
   | _=>none
  | _=>none
 | .min,x::rest=>(q58 false x rest).map λv=>(.val v,H)
 | .max,x::rest=>(q58 true x rest).map λv=>(.val v,H)
 | _,_=>none
def kc (E:Env) (o:Oper) (fr:Fr) (H:Heap):Option (Out×Heap):=
 let v (x:Option V):Option (Out×Heap):=x.map λx=>(.val x,H)
 match o.op with
 | .move x | .assign x=>v (opd fr H x)
 | .pick c a b=>match opd fr H c with
  | some (.bool c)=>v (opd fr H (if c then a else b))
  | _=>none
 | .alloc e=>(E.types e).map λti=>(.val (.ptr H.next 0 0 ti.zero.cells.length),qj7 H ti.zero.cells e)
 | .box e x=>(opd fr H x).bind λx=>some (.val (.ptr H.next 0 0 x.cells.length),qj7 H x.cells e)
 | .build t parts=>(E.types t).bind λti=>(qcy fr H (parts.toList.map (·.2))).bind λw=>
  match ti.under with
  | .struct I=>bif !I.toList.all (λf=>(E.types f.type).isSome) then none else v ((qhx (λi=>(I[i]?).bind λf=>(E.types f.type).map λA=>(f.offset,A.size)) ti.zero.cells ((parts.toList.map (·.1)).zip w)).map .agg)
  | .array _ e=>(E.types e).bind λd=>v ((qhx (λi=>some (i * d.size,d.size)) ti.zero.cells ((parts.toList.map (·.1)).zip w)).map .agg)
  | _=>none
 | .buildSlice t len parts=>(E.types t).bind λti=>(qcy fr H (parts.toList.map (·.2))).bind λw=>
  match ti.under with
  | .slice e=>(E.types e).bind λd=>
   bif Nat.ble (len * d.size) 16777216 then
    (qhx (λi=>some (i * d.size,d.size)) (List.replicate len d.zero.cells).flatten ((parts.toList.map (·.1)).zip w)).map λcells=>
      (.val (.slice H.next 0 0 len d.size (some len)),qj7 H cells e)
   else none
  | _=>none
 | .load t p=>(E.types t).bind λti=>(opd fr H p).bind λp=>v (qjk H ti p)
 | .store t p x=>(E.types t).bind λti=>(opd fr H p).bind λp=>(opd fr H x).bind λx=>(qjg H ti p x).map λH'=>(.skip,H')
 | .nilCheck x=>match opd fr H x with
  | some .nilp | some .nili | some .nilf | some (.func (.method _) _ _) | none=>none
  | some x=>some (.val x,H)
 | .binOp C t x y _=>(opd fr H x).bind λa=>(opd fr H y).bind λb=>
  match a,b with
  | .nili,.nili=>match x,y with
   | .const _,_ | _,.const _=>v (qbj E C t a b)
   | _,_=>none
  | _,_=>v (qbj E C t a b)
 | .unOp C _ x=>(opd fr H x).bind λx=>v (zay C x)
 | .convert F dst x=>(E.types F).bind λJ=>(E.types dst).bind λK=>(opd fr H x).bind λx=>
  match J.under,K.under,x with
  | .int _,.int k,.int _ n=>some (.val (.int k (k.wrap n)),H)
  | .string,.string,.str s=>some (.val (.str s),H)
  | .slice e,.string,x=>match x with
   | .str _=>none
   | _=>(E.types e).bind λd=>match d.under with
    | .int .u8=>(k7 H 1 x).bind λr=>(qc8 r.2).map λl=>(.val (.str l),H)
    | _=>none
  | .pointer e,.unsafePointer,.ptr nm g off lim=>(E.types e).bind λd=>match H.get nm with
   | some (.row _ _ _ h _ _)=>bif Nat.ble h g&&Nat.blt 0 d.size&&Nat.ble (off+1) lim then some (.val (.ptr nm g off lim),H) else none
   | _=>none
  | .unsafePointer,.pointer e,.ptr nm g off lim=>(E.types e).bind λd=>match H.get nm with
   | some (.row cells u _ h _ true)=>(E.types u).bind λL=>bif Nat.ble h g&&Nat.blt 0 d.size&&E.lies u (cells.length / L.size) off e then some (.val (.ptr nm g off lim),H) else none
   | _=>none
  | _,_,_=>none
 | .makeInterface t x=>(E.types t).bind λti=>match ti.under with
  | .interface _=>none
  | _=>v ((opd fr H x).map (.iface t))
 | .makeFunc (.func M) first q=>(qcy fr H first.toList).bind λa=>(qcy fr H q.toList).map λc=>(.val (.func (.func M) a c),H)
 | .makeMap t r=>(E.types t).bind λti=>match ti.under,r with
  | .map ..,none=>some (.val (.map H.next),H.new (.map [] 0))
  | .map ..,some r=>(opd fr H r).bind λr=>match r with
   | .int ..=>some (.val (.map H.next),H.new (.map [] 0))
   | _=>none
  | _,_=>none
 | .slice t x lo hi none=>(E.types t).bind λti=>(opd fr H x).bind λx=>(qmi fr H lo).bind λlo=>(qmi fr H hi).bind λhi=>
  match ti.under with
  | .slice e=>match x with
   | .str _=>none
   | _=>(E.types e).bind λd=>v (qfv d.size x lo hi none)
  | .string=>match x with
   | .str _=>v (qfv 1 x lo hi none)
   | _=>none
  | .array n e=>(E.types e).bind λd=>match x with
   | .ptr nm g off lim=>match H.get nm with
    | some (.row _ _ _ h _ _)=>bif Nat.ble h g&&Nat.ble (off+n * d.size) lim then v (qfv d.size (.slice nm g off n d.size (some n)) lo hi none) else none
    | _=>none
   | _=>none
  | _=>none
 | .slice t x lo (some hi) (some G)=>(E.types t).bind λti=>(opd fr H x).bind λx=>(qmi fr H lo).bind λlo=>(opd fr H hi).bind λhi=>(opd fr H G).bind λG=>
  match ti.under,x with
  | .slice e,.slice nm g off len sz cap=>(E.types e).bind λd=>v (qfv d.size (.slice nm g off len sz cap) lo (some hi) (some G))
  | _,_=>none
 | .fieldAddr s x k=>(E.types s).bind λti=>(qg9 ti k).bind λf=>(E.types f.type).bind λA=>
  bif Nat.beq A.size 0 then none else (opd fr H x).bind λx=>
  match x with
  | .ptr nm g off lim=>some (.val (.ptr nm g (off+f.offset) lim),H)
  | _=>none
 | .field t x k=>(E.types t).bind λti=>(qg9 ti k).bind λf=>(E.types f.type).bind λA=>(opd fr H x).bind λx=>
  match x with
  | .agg cs=>v (qn6 A cs f.offset)
  | _=>none
 | .indexAddr t x i=>(E.types t).bind λti=>(opd fr H x).bind λx=>(opd fr H i).bind λi=>
  match ti.under with
  | .slice e=>(E.types e).bind λd=>v (qgf d.size x i)
  | .array n e=>(E.types e).bind λd=>match x,i with
   | .ptr nm g off lim,.int _ i=>if 0<=i/\i<n then some (.val (.ptr nm g (off+i.toNat * d.size) lim),H) else none
   | _,_=>none
  | _=>none
 | .index t x i=>(E.types t).bind λti=>(opd fr H x).bind λx=>(opd fr H i).bind λi=>
  match ti.under,x,i with
  | .string,.str s,.int _ i=>if 0<=i then (s[i.toNat]?).map λb=>(.val (.int .u8 b.toNat),H) else none
  | .array n e,.agg cs,.int _ i=>(E.types e).bind λd=>if 0<=i/\i<n then v (qn6 d cs (i.toNat * d.size)) else none
  | _,_,_=>none
 | .extract t i=>(opd fr H t).bind λt=>match t with
  | .tuple w=>v w[i]?
  | _=>none
 | .call c=>(qcy fr H c.args.toList).bind λargs=>match c.callee with
  | .value f=>(opd fr H f).bind λf=>(qe9 f args).map λo=>(o,H)
  | .builtin b=>jj E b c.argTypes.toList args H
  | .invoke ..=>none
 | .lookup t m k ok=>(E.types t).bind λti=>(opd fr H m).bind λm=>(opd fr H k).bind λk=>
  match ti.under with
  | .map z N=>(E.types z).bind λD=>(E.types N).bind λd=>(match m with
    | .nilm=>qku E z D.under k []
    | .map nm=>match H.get nm with
     | some (.map B _)=>qku E z D.under k B
     | _=>none
    | _=>none:Option (Option (Nat×V))).map λr=>match r with
     | some (_,x)=>(.val (if ok then .tuple [x,.bool true] else x),H)
     | none=>(.val (if ok then .tuple [d.zero,.bool false] else d.zero),H)
  | _=>none
 | .mapUpdate t m k x | .insert t m k x=>(E.types t).bind λti=>(opd fr H m).bind λm=>(opd fr H k).bind λk=>(opd fr H x).bind λx=>
  match ti.under,m with
  | .map z _,.map nm=>(E.types z).bind λD=>match H.get nm with
   | some (.map B j)=>(qku E z D.under k B).bind λr=>match r with
    | some (i,_)=>(H.upd nm (.map (B.modify i λe=>(k,x,e.2.2)) j)).map λH'=>(.skip,H')
    | none=>(H.upd nm (.map (B++[(k,x,j)]) (j+1))).map λH'=>(.skip,H')
   | _=>none
  | _,_=>none
 | .panic x=>(opd fr H x).bind λx=>match x with
  | .iface t x=>some (.panic (.iface t x),H)
  | _=>none
 | _=>none
abbrev Call:=Tgt->List V->Heap->Option (CR×Heap)
def qft (E:Env) (call:Call) (all:Array Oper) (o:Oper) (fr:Fr) (H:Heap):Option (CR×Heap):=
 match qdh o all fr with
 | some true=>match kc E o fr H with
  | some (.val v,H')=>some (.ret v,H')
  | some (.skip,H')=>some (.ret je,H')
  | some (.call t args,H')=>call t args H'
  | some (.panic v,H')=>some (.panic [⟨v,false,false⟩],H')
  | _=>none
 | some false=>some (.ret je,H)
 | none=>none
def qhr (E:Env) (call:Call) (a:Bool) (all:Array Oper):List Oper->Fr->Heap->Option (Ex×Fr×Heap)
 | [],fr,H=>some (.normal,fr,H)
 | o::rest,fr,H=>match qft E call all o fr H with
  | some (.ret v,H')=>qhr E call a all rest (fr.put o.dst v) H'
  | some (.panic b,H')=>some (.panic b,fr,H')
  | none=>none
inductive FP where
 | none
 | reads (l:List Nat)
 | writes (l:List Nat)
 | call
 | lone
def V.nm:V->List Nat
 | .ptr nm _ _ _ | .slice nm _ _ _ _ _ | .map nm=>[nm]
 | _=>[]
def qnq (fr:Fr):Operand->List Nat
 | .tmp t=>match fr.tmp t with
  | some v=>v.nm
  | none=>[]
 | .global g=>[g]
 | _=>[]
def qav (fr:Fr) (l:List Operand):List Nat:=l.flatMap (qnq fr)
def qge:Operand->List Nat
 | .global g=>[g]
 | _=>[]
def z6 (E:Env) (op:Op):Bool:=
 match op with
 | .load .. | .store .. | .lookup .. | .mapUpdate .. | .insert .. | .next .. | .convert ..=>true
 | .call c=>match c.callee with
  | .builtin .min | .builtin .max | .builtin .unsafeSliceData=>c.args.any λ| .global _=>true | _=>false
  | .builtin .len=>match c.argTypes.toList with
   | t::_=>match E.types t with
    | some {under:=.map ..,..} | none=>true
    | _=>c.args.any λ| .global _=>true | _=>false
   | _=>true
  | _=>true
 | .slice t x lo hi a=>(match E.types t with
   | some {under:=.array ..,..} | none=>true
   | _=>false) || (Op.slice t x lo hi a).operands.any λ| .global _=>true | _=>false
 | op=>op.operands.any λ| .global _=>true | _=>false
def V.many:V->Option Nat
 | .nils=>some 0
 | .slice _ _ _ len _ _=>some len
 | .str s=>some s.length
 | _=>none
def q6i (fr:Fr):Operand->Option V
 | .tmp t=>fr.tmp t
 | .const v=>qoq 1000 v
 | _=>none
def qs6 (fr:Fr):List Operand->Bool
 | [a,x]=>match q6i fr a,(q6i fr x).bind V.many with
  | some .nils,some _=>true
  | some (.slice _ _ _ len _ (some c)),some n=>Nat.beq n 0 || !Nat.ble (len+n) c
  | _,_=>false
 | _=>false
def qha (E:Env) (o:Oper) (fr:Fr):FP:=
 bif !z6 E o.op then .none else
 match o.op with
 | .store _ a x=>.writes (qnq fr a++qge x)
 | .mapUpdate _ m k x | .insert _ m k x=>.writes (qnq fr m++qge k++qge x)
 | .next i _=>.writes (qnq fr i)
 | .call c=>match c.callee with
  | .builtin b=>match b with
   | .append=>bif qs6 fr c.args.toList then .reads (qav fr c.args.toList) else .writes (qav fr c.args.toList)
   | .copy | .clear | .unsafeString=>.writes (qav fr c.args.toList)
   | _=>.reads (qav fr c.args.toList)
  | _=>.call
 | op=>.reads (qav fr op.operands.toList)
def zsu (all:Array Oper) (i:Nat) (o:Oper):Bool:=
 match o.op with
 | .load _ (.tmp t)=>all.toList.any λp=>(match p.dst with | some d=>Nat.beq d t | none=>false)&&(match p.op with
   | .indexAddr _ (.tmp u) _=>all.toList.zipIdx.any λ(q,j)=>(match q.dst with | some d=>Nat.beq d u | none=>false)&&Nat.blt i j&&(match q.op with | .buildSlice ..=>true | _=>false)
   | _=>false)
 | _=>false
def quv (E:Env) (all:Array Oper) (b:Array Nat) (i:Nat):Bool:=
 all.toList.zipIdx.all λ(o,k)=>Nat.beq k i || !z6 E o.op || (b.getD (max i k) 0).testBit (min i k) || zsu all i o
structure Done where
 i:Nat
 fp:FP
 lo:Nat
 hi:Nat
 dels:List Nat
def qcp (d:Done) (dels:List Nat) (fp:FP):Bool:=
 match d.fp,fp with
 | .none,_ | _,.none=>false
 | .lone,.reads l | .lone,.writes l | .call,.writes l=>l.any λn=>Nat.blt n d.lo&&!d.dels.any λm=>Nat.beq n m
 | .reads l,.lone | .writes l,.lone | .writes l,.call=>l.any λn=>!dels.any λm=>Nat.beq n m
 | .lone,.lone | .lone,.call | .call,.lone=>true
 | .writes w,.writes l | .writes w,.reads l | .reads l,.writes w=>w.any λn=>l.any λm=>Nat.beq n m
 | .reads _,.reads _ | .reads _,.call | .call,.reads _ | .call,.call=>false
def Done.names (d:Done):List Nat:=List.range' d.lo (d.hi-d.lo)
def zo (H:Heap) (fp:FP) (dels:List Nat):Heap:=
 let ok (n:Nat):Bool:=Nat.blt n H.next&&!dels.any λm=>Nat.beq n m
 match fp with
 | .none=>{H with qbq:=.nil,ro:=H.next}
 | .reads l=>{H with qbq:=ke H.qbq (l.filter ok) .nil,ro:=H.next}
 | .writes l=>{H with qbq:=ke H.qbq (l.filter ok) .nil}
 | .call=>{H with qbq:=ke .nil dels H.qbq,ro:=H.next}
 | .lone=>{H with qbq:=ke .nil dels H.qbq}
def qb4 (H K:Heap) (fp:FP) (dels:List Nat):Heap:=
 let ok (n:Nat):Bool:=Nat.blt n H.next&&!dels.any λm=>Nat.beq n m
 {qbq:=match fp with
    | .none | .reads _ | .call=>ke K.qbq (List.range' H.next (K.next-H.next)) H.qbq
    | .writes l=>ke K.qbq (l.filter ok++List.range' H.next (K.next-H.next)) H.qbq
    | .lone=>ke H.qbq dels K.qbq,
   next:=K.next,ro:=H.ro,zf:=H.zf}
def qc6 (E:Env) (call:Call) (all:Array Oper) (b:Array Nat):Nat->List Oper->List Done->Fr->Heap->Option (Fr×Heap)
 | _,[],_,fr,H=>some (fr,H)
 | i,o::rest,done,fr,H=>(qdh o all fr).bind λa=>
  let fp:=bif a then (match qha E o fr with
   | .call=>bif quv E all b i then .lone else .call
   | x=>x) else .none
  let free:=done.filter λd=>!(b.getD i 0).testBit d.i;let dels:=free.flatMap Done.names
  bif free.any (λd=>qcp d dels fp) then none else
  match qft E call all o {fr with tmps:=ke fr.tmps (o.looksAt all) .nil} (zo H fp dels) with
  | some (.ret v,K)=>bif Nat.blt K.next H.next then none else qc6 E call all b (i+1) rest (⟨i,fp,H.next,K.next,dels⟩::done) (fr.put o.dst v) (qb4 H K fp dels)
  | _=>none
def qyl (ops:Array Oper):Bool:=
 ops.toList.zipIdx.all λ(o,i)=>o.after.all (λe=>!Region.binds .any e || Nat.blt e.on i)&&(match o.op with | .select ..=>false | _=>true)&&
  ops.toList.zipIdx.all λ(p,k)=>Nat.ble i k || ((Region.before ops).getD i 0).testBit k || (p.apart ops o)
def codeOk:Code->Bool
 | .region _ d c=>!c || qyl d
 | .seq a b=>codeOk a&&codeOk b
 | .cond _ a b=>codeOk a&&codeOk b
 | .block _ a | .loop a | .scope a=>codeOk a
 | .rangeFunc _ _ a b=>codeOk a&&codeOk b
 | _=>true
def iter {σ:Type} (step:σ->Option (Bool×σ)):Nat->σ->Option σ
 | 0,_=>none
 | n+1,s=>match step s with
  | some (true,a)=>iter step n a
  | some (false,a)=>some a
  | none=>none
def qfi:Option Code->Option Ex
 | none=>some .normal
 | some .ret=>some .ret
 | some (.exit id)=>some (.exit id)
 | _=>none
def qud (round:Option Nat) (H:Heap):Option (List Dfr×Heap×Nat):=
 match round with
 | none=>some ([Dfr.mark H.next],H.new .dfr,H.next)
 | some l=>match H.get l with
  | some (.loop _ _ _ _ _ _ _ d)=>some ([],H,d)
  | _=>none
def qfy (H:Heap) (l:Nat):Option (Ex×Heap):=
 match H.get l with
 | some (.loop st a lt ln b c d e)=>match st with
  | .busy=>none
  | _=>(H.upd l (.loop .exhausted a lt ln b c d e)).bind λH'=>(qfi a).map λex=>(ex,H')
 | _=>none
def qnj (E:Env) (f:Nat):Bool:=
 match E.funcs f with
 | some a=>a.body.isSome
 | none=>false
def zk (E:Env) (call:Call) (fn:FuncId) (round:Option Nat) (fuel:Nat):Code->Fr->Heap->Option (Ex×Fr×Heap)
 | .skip,fr,H=>some (.normal,fr,H)
 | .label _,fr,H=>some (.normal,fr,H)
 | .exit id,fr,H=>some (.exit id,fr,H)
 | .goto l,fr,H=>some (.goto l,fr,H)
 | .ret,fr,H=>some (.ret,fr,H)
 | .seq a b,fr,H=>match zk E call fn round fuel a fr H with
  | some (.normal,fr',H')=>zk E call fn round fuel b fr' H'
  | r=>r
 | .cond c a b,fr,H=>match opd fr H c with
  | some (.bool true)=>zk E call fn round fuel a fr H
  | some (.bool false)=>zk E call fn round fuel b fr H
  | _=>none
 | .block id c,fr,H=>match zk E call fn round fuel c fr H with
  | some (.exit i,fr',H')=>bif Nat.beq i id then some (.normal,fr',H') else some (.exit i,fr',H')
  | r=>r
 | .scope c,fr,H=>match zk E call fn round fuel c fr H with
  | some (.goto _,_,_)=>none
  | r=>r
 | .loop c,fr,H=>iter (λ(s:Ex×Fr×Heap)=>match zk E call fn round fuel c s.2.1 s.2.2 with
   | some (.normal,fr',H')=>some (true,.normal,fr',H')
   | some r=>some (false,r)
   | none=>none) fuel (.normal,fr,H)
 | .region _ d j,fr,H=>bif j then
   (qc6 E call d (Region.before d) 0 d.toList [] fr H).map λr=>(.normal,r.1,r.2)
  else qhr E call round.isNone d d.toList fr H
 | .rangeFunc f e h body,fr,H=>(qud round H).bind λz=>
  match (opd fr H f).bind λf=>qe9 f [.func (.yield z.2.1.next) [] []] with
  | some (.call (.func g) args)=>
   bif qnj E g then
    match call (.func g) args (z.2.1.new (.loop .ready none fr.tmps fr.n e.toList h body z.2.2)) with
    | some (.ret _,k)=>(qfy k z.2.1.next).map λy=>(y.1,{fr with defers:=z.1++fr.defers},y.2)
    | some (.panic m,k)=>some (.panic m,{fr with defers:=z.1++fr.defers},k)
    | none=>none
   else none
  | _=>none
 | .refuse _,_,_=>none
def jo (E:Env) (fr:Fr) (H:Heap):List ResultVar->Option (List V)
 | []=>some []
 | .tmp t::rs=>(fr.tmp t).bind λv=>(jo E fr H rs).map λb=>v::b
 | .cell a t::rs=>(E.types t).bind λti=>(fr.tmp a).bind λp=>(qjk H ti p).bind λv=>(jo E fr H rs).map λb=>v::b
def qgs (args:List V):Tree V:=Tree.ofList args
def qee (n:Nat):List Tmp->List V->Tree V->Option (Tree V)
 | [],[],t=>some t
 | p::ps,v::a,t=>bif Nat.blt p n then qee n ps a (t.set p v) else none
 | _,_,_=>none
def zhu (ext:Nat) (args:List V):Option V:=
 match ext,args with
 | 1,[.str s,.int .u8 c]=>some (.int .i64 (match s.findIdx? (λb=>b == c.toNat.toUInt8) with | some i=>(i:Int) | none=>-1))
 | 2,[.str s,.int .u8 c]=>some (.int .i64 (s.countP (λb=>b == c.toNat.toUInt8):Nat))
 | 4,[x]=>some x
 | _,_=>none
inductive Md where
 | returning
 | panicking (v:V)
def leave (E:Env) (call:Call) (fuel:Nat):List Dfr->Md->Heap->Option (Md×Heap)
 | [],md,H=>some (md,H)
 | .mark nm::a,md,H=>match H.get nm with
  | some .dfr=>(H.upd nm .gone).bind λH'=>leave E call fuel a md H'
  | _=>none
def q68 (E:Env) (call:Call) (fuel:Nat) (x:Ex×Fr×Heap):Option (Md×Fr×Heap):=
 match x.1 with
 | .normal | .ret=>(leave E call fuel x.2.1.defers .returning x.2.2).map λr=>(r.1,x.2.1,r.2)
 | .panic [⟨v,false,false⟩]=>(leave E call fuel x.2.1.defers (.panicking v) x.2.2).map λr=>(r.1,x.2.1,r.2)
 | _=>none
def qh4 (H:Heap) (l:Nat) (jump:Option Code):Option (CR×Heap):=
 match H.get l with
 | some (.loop _ _ lt ln a b c d)=>(H.upd l (.loop (if jump.isNone then .ready else .done) jump lt ln a b c d)).map λH'=>(.ret (.bool jump.isNone),H')
 | _=>none
def qpw (l:Nat) (x:Ex×Fr×Heap):Option (CR×Heap):=
 match x.1 with
 | .normal=>qh4 x.2.2 l none
 | .ret=>qh4 x.2.2 l (some .ret)
 | .exit id=>qh4 x.2.2 l (some (.exit id))
 | _=>none
def qx5 (H:Heap) (l:Nat):Option Heap:=
 match H.get l with
 | some (.loop .ready a lt ln b c d e)=>H.upd l (.loop .busy a lt ln b c d e)
 | _=>none
def oneOf:List V->V
 | [v]=>v
 | a=>.tuple a
def qs7 (E:Env) (rs:List ResultVar) (x:Md×Fr×Heap):Option (CR×Heap):=
 match x.1 with
 | .returning=>(jo E x.2.1 x.2.2 rs).map λa=>(.ret (oneOf a),x.2.2)
 | .panicking v=>some (.panic [⟨v,false,false⟩],x.2.2)
def qax (E:Env):Nat->Call
 | 0,_,_,_=>none
 | n+1,.func f,args,H=>match (match E.spec f with
   | some s=>s args H
   | none=>none) with
  | some r=>some r
  | none=>(E.funcs f).bind λa=>match a.body with
  | some c=>(zk E (qax E n) f none (n+1) c {tmps:=qgs args,n:=max args.length a.ntmps,defers:=[]} H).bind λx=>
    (q68 E (qax E n) (n+1) x).bind λy=>qs7 E a.results y
  | none=>(zhu a.ext args).map λv=>(.ret v,H)
 | n+1,.round l,args,H=>match H.get l with
  | some (.loop _ _ lt ln b d e _)=>(qee ln b args lt).bind λt=>
   match zk E (qax E n) 0 (some l) (n+1) d {tmps:=t,n:=ln,defers:=[]} H with
   | some (.normal,fr,H1)=>(qx5 H1 l).bind λg=>(zk E (qax E n) 0 (some l) (n+1) e fr g).bind λx=>qpw l x
   | _=>none
  | _=>none
def qhq (P:Program):Nat->TypeId->Bool
 | 0,_=>false
 | d+1,t=>match P.underlying t with
  | some (.int _) | some .string | some .bool=>true
  | some (.struct a)=>!P.stoodInHeld t&&!P.eqGuardType P.depth t&&a.all λf=>f.name != "_" && qhq P d f.type
  | _=>false
def zmj:TypeDesc->Bool
 | .struct _ | .array ..=>true
 | _=>false
def typeOf (P:Program) (t:Nat):Option TI:=
 match P.info? t,P.underlying t with
 | some i,some u=>(i.zero.bind (qoq 1000)).bind λz=>bif Nat.beq z.cells.length i.size then some {under:=u,size:=i.size,bytes:=i.bytes,zero:=z,isAgg:=zmj u} else none
 | _,_=>none
def qvz (name:String):Nat:=
 if name == "internal/bytealg.IndexByteString" then 1 else if name == "internal/bytealg.CountString" then 2 else if name == "internal/abi.NoEscape" then 4 else 0
def funcOf (P:Program) (f:Nat):Option FI:=
 match P.funcs[f]? with
 | some a=>bif a.name == "runtime.NumGoroutine" then none else
  match a.body with
  | some c=>some {body:=some c,ext:=0,ntmps:=a.ntmps,results:=a.results.toList}
  | none=>some {body:=none,ext:=qvz a.name,ntmps:=0,results:=[]}
 | none=>none
def zj (P:Program) (spec:Nat->Option (List V->Heap->Option (CR×Heap))):Env:=
 {types:=typeOf P,funcs:=funcOf P,spec,eqOk:=qhq P 20,lies:=λe n off u=>liesAt P P.depth e n off u 1}
end Go.E2
/- E2's memory and values against the model's: the relation, and what keeps it. -/
namespace Go.E2
open Go
theorem Tree.qs5 {α:Type} (v:Option α) (l r:Tree α) (m:Nat) :
  (Tree.node v l r).get m=if m=0 then v else if m % 2=1 then l.get (m / 2) else r.get (m / 2-1):=by
 simp only [Tree.get,cond_eq_ite,Nat.beq_eq]
theorem Tree.zjb {α:Type} (a:α) (f:Nat) (t:Tree α) (n:Nat) :
  ∃ v l r,(∀ m,t.get m=(Tree.node v l r).get m)/\Tree.q0p a (f+1) t n=(if n=0 then .node (some a) l r
   else if n % 2=1 then .node v (Tree.q0p a f l (n / 2)) r else .node v l (Tree.q0p a f r (n / 2-1))):=by
 cases t with
 | nil=>exact ⟨none,.nil,.nil,λm=>by rw [Tree.qs5];simp [Tree.get],by simp only [Tree.q0p,cond_eq_ite,Nat.beq_eq]⟩
 | node v l r=>exact ⟨v,l,r,λ_=>rfl,by simp only [Tree.q0p,cond_eq_ite,Nat.beq_eq]⟩
theorem Tree.zl7 {α:Type} (a:α):∀ (f:Nat) (t:Tree α) (n m:Nat),n<f->
  (Tree.q0p a f t n).get m=if m=n then some a else t.get m:=by
 intro f
 induction f with
 | zero=>intro t n m h;omega
 | succ f g=>
  intro t n m h;obtain ⟨v,l,r,k,e⟩:=Tree.zjb a f t n;rw [e,k m];by_cases i:n=0
  .subst i;simp only [if_true,Tree.qs5];by_cases o:m=0<;>simp [o]
  .simp only [i,if_false];by_cases j:n % 2=1
   .simp only [j,if_true,Tree.qs5];rw [g l (n / 2) (m / 2) (by omega)];by_cases b:m=0
    .subst b;simp;intro h;omega
    .simp only [b,if_false];by_cases c:m % 2=1
     .simp only [c,if_true];by_cases d:m=n
      .subst d;simp
      .have:¬ m / 2=n / 2:=by omega
       simp [d,this]
     .have:¬ m=n:=by omega
      simp [c,this]
   .simp only [j,if_false,Tree.qs5];rw [g r (n / 2-1) (m / 2-1) (by omega)];by_cases b:m=0
    .subst b;simp;intro h;omega
    .simp only [b,if_false];by_cases c:m % 2=1
     .have:¬ m=n:=by omega
      simp [c,this]
     .simp only [c,if_false];by_cases d:m=n
      .subst d;simp
      .have:¬ m / 2-1=n / 2-1:=by omega
       simp [d,this]
theorem Tree.kv {α:Type} (t:Tree α) (n:Nat) (a:α) (m:Nat):(t.set n a).get m=if m=n then some a else t.get m:=
 Tree.zl7 a (n+1) t n m (by omega)
theorem Tree.qy8 {α:Type}:∀ (l:List α) (t:Tree α) (k:Nat) (m:Nat),
  ((l.foldl (λ(s:Tree α×Nat) a=>(s.1.set s.2 a,s.2+1)) (t,k)).1).get m=if k<=m/\m<k+l.length then l[m-k]? else t.get m:=by
 intro l
 induction l with
 | nil=>intro t k m;simp;intro c b;omega
 | cons a l e=>
  intro t k m;simp only [List.foldl_cons,List.length_cons];rw [e];by_cases c:k+1<=m/\m<k+1+l.length
  .have b:k<=m/\m<k+(l.length+1):=by omega
   rw [zT c,zT b];have:m-k=(m-(k+1))+1:=by omega
   rw [this,List.getElem?_cons_succ]
  .rw [zF c,Tree.kv];by_cases d:m=k
   .subst d;simp
   .have b:¬ (k<=m/\m<k+(l.length+1)):=by omega
    rw [zF b,zF d]
theorem Tree.qrq {α:Type} (l:List α) (m:Nat):(Tree.ofList l).get m=l[m]?:=by
 unfold Tree.ofList;rw [Tree.qy8];by_cases h:m<l.length
 .simp [h]
 .simp only [Nat.zero_le,true_and,Nat.zero_add,h,if_false,Tree.get];exact (List.getElem?_eq_none (by omega)).symm
abbrev qe:=Nat->Nat->Option (Nat×Nat×Nat)
def qjs (G:qe) (b:Nat):Prop:=∀ nm g a n,G nm g≠some (b,a,n)
def qlk (G:qe) (f a:Fn):Prop:=
 match f with
 | .yield l=>∃ b c n,G l 0=some (b,c,n)/\a=.yield b
 | f=>a=f
mutual
def Rel (G:qe) (w:World):V->Value->Prop
 | .int k n,v=>v=.int k n
 | .bool b,v=>v=.bool b
 | .str s,v=>v=.string ⟨s.toArray⟩
 | .ptr nm g off lim,v=>∃ b f n,G nm g=some (b,f,n)/\f<=off/\lim<=n/\v=.pointer (some ⟨b,off-f,none⟩)
 | .nilp,v=>v=.pointer none
 | .slice nm g off len sz cap,v=>∃ b f n ro c e m ad,G nm g=some (b,f,n)/\v=.slice (some ad) len c/\(c=0∨ad=⟨b,ro,none⟩)/\len<=c/\f<=off/\
   off+len * sz<=n/\(ro+f=off∨c=0)/\(∀ k,cap=some k->c=k/\off+k * sz<=n)/\w.shape? b=some (e,m)/\ro+c * sz<=m
 | .nils,v=>v=.slice none 0 0
 | .func i first d,v=>∃ h a c,v=.func h a c/\qlk G i h/\qi G w first a.toList/\qi G w d c.toList
 | .nilf,v=>v=.nilFunc
 | .iface t x,v=>∃ y,v=.iface t y/\Rel G w x y
 | .nili,v=>v=.nilIface
 | .agg cs,v=>∃ a,v=.agg a/\qi G w cs a.toList
 | .tuple j,v=>∃ a,v=.tuple a/\qi G w j a.toList
 | .map nm,v=>∃ b f n,G nm 0=some (b,f,n)/\v=.map (some b)
 | .nilm,v=>v=.map none
def qi (G:qe) (w:World):List V->List Value->Prop
 | [],l=>l=[]
 | v::b,l=>∃ x a,l=x::a/\Rel G w v x/\qi G w b a
end
theorem V.qgz {nm g off len sz:Nat} {cap:Option Nat}:V.qd1 sz (.slice nm g off len sz cap)=.slice nm g off len sz cap:=by
 cases cap with
 | none=>rfl
 | some c=>simp only [V.qd1];cases Nat.beq c 0<;>rfl
theorem V.qe3 {nm g off len z sz:Nat} {cap:Option Nat}:V.qd1 sz (.slice nm g off len z cap)=.slice nm g off len z cap∨(cap=some 0/\V.qd1 sz (.slice nm g off len z cap)=.slice nm g off len sz cap):=by
 cases cap with
 | none=>exact .inl rfl
 | some c=>cases c with
  | zero=>exact .inr ⟨rfl,rfl⟩
  | succ c=>exact .inl rfl
theorem V.zi3 {sz:Nat} {v:V}:(v.qd1 sz).qd1 sz=v.qd1 sz:=by
 cases v with
 | slice nm g off len z cap=>
  rcases V.qe3 (nm:=nm) (g:=g) (off:=off) (len:=len) (z:=z) (sz:=sz) (cap:=cap) with e | ⟨_,e⟩
  .rw [e,e]
  .rw [e,V.qgz]
 | _=>rfl
theorem qvy {H:Heap} {sz:Nat} {v:V}:k7 H sz (v.qd1 sz)=k7 H sz v:=by unfold k7;rw [V.zi3]
theorem V.q6s {sz:Nat} {v:V}:(v.qd1 sz).nm=v.nm:=by
 cases v with
 | slice nm g off len z cap=>
  rcases V.qe3 (nm:=nm) (g:=g) (off:=off) (len:=len) (z:=z) (sz:=sz) (cap:=cap) with e | ⟨_,e⟩
  .rw [e]
  .rw [e];rfl
 | _=>rfl
theorem V.zov {sz:Nat} {v:V} {s:List UInt8} (h:v.qd1 sz=.str s):v=.str s:=by
 cases v with
 | slice nm g off len z cap=>rcases V.qe3 (nm:=nm) (g:=g) (off:=off) (len:=len) (z:=z) (sz:=sz) (cap:=cap) with e | ⟨_,e⟩<;>rw [e] at h<;>cases h
 | _=>exact h
theorem Rel.qd1 {G:qe} {w:World} {v:V} {a:Value} (sz:Nat) (h:Rel G w v a):Rel G w (v.qd1 sz) a:=by
 cases v with
 | slice nm g off len z cap=>
  rcases V.qe3 (nm:=nm) (g:=g) (off:=off) (len:=len) (z:=z) (sz:=sz) (cap:=cap) with e | ⟨rfl,e⟩
  .rw [e];exact h
  .rw [e];simp only [Rel] at h ⊢;obtain ⟨b,d,n,ro,c,f,m,ad,i,j,s,l,o,t,u,p,q,x⟩:=h;obtain ⟨rfl,_⟩:=p 0 rfl;obtain rfl:len=0:=by omega
   exact ⟨b,d,n,ro,0,f,m,ad,i,j,.inl rfl,l,o,by omega,.inr rfl,λk r=>by cases r;exact ⟨rfl,by omega⟩,q,by omega⟩
 | _=>exact h
theorem qi.length {G:qe} {w:World}:∀ {a:List V} {l:List Value},qi G w a l->a.length=l.length
 | [],_,h=>by simp [qi] at h;simp [h]
 | v::a,_,h=>by
  simp only [qi] at h;obtain ⟨x,c,rfl,_,b⟩:=h;simp [qi.length b]
theorem qi.cons {G:qe} {w:World} {v:V} {a:List V} {x:Value} {xs:List Value} (b:Rel G w v x) (c:qi G w a xs):qi G w (v::a) (x::xs):=by
 simp only [qi];exact ⟨x,xs,rfl,b,c⟩
theorem qi.nil {G:qe} {w:World}:qi G w [] []:=by simp [qi]
theorem qi.q74 {G:qe} {w:World} {v:V} {c:List V} {x:Value} {xs:List Value}:qi G w (v::c) (x::xs)↔Rel G w v x/\qi G w c xs:=by
 simp only [qi];constructor
 .rintro ⟨y,d,h,a,b⟩;cases h;exact ⟨a,b⟩
 .rintro ⟨a,b⟩;exact ⟨x,xs,rfl,a,b⟩
theorem qi.append {G:qe} {w:World}:∀ {b:List V} {l:List Value} {a:List V} {d:List Value},qi G w b l->qi G w a d->qi G w (b++a) (l++d)
 | [],_,_,_,h,c=>by simp [qi] at h;simpa [h] using c
 | v::b,_,_,_,h,c=>by
  simp only [qi] at h;obtain ⟨x,g,rfl,e,f⟩:=h;exact qi.cons e (qi.append f c)
theorem qi.take {G:qe} {w:World}:∀ {a:List V} {l:List Value} (n:Nat),qi G w a l->qi G w (a.take n) (l.take n)
 | [],_,n,h=>by simp [qi] at h;simp [h,qi]
 | v::a,_,0,h=>by simp [qi]
 | v::a,_,n+1,h=>by
  simp only [qi] at h;obtain ⟨x,d,rfl,b,c⟩:=h;exact qi.cons b (qi.take n c)
theorem qi.drop {G:qe} {w:World}:∀ {a:List V} {l:List Value} (n:Nat),qi G w a l->qi G w (a.drop n) (l.drop n)
 | [],_,n,h=>by simp [qi] at h;simp [h,qi]
 | v::a,_,0,h=>by simpa using h
 | v::a,_,n+1,h=>by
  simp only [qi] at h;obtain ⟨x,c,rfl,d,b⟩:=h;simpa using qi.drop n b
theorem qi.get {G:qe} {w:World}:∀ {a:List V} {l:List Value} {i:Nat} {v:V},qi G w a l->a[i]? = some v->∃ x,l[i]? = some x/\Rel G w v x
 | [],_,_,_,_,h=>by simp at h
 | u::a,_,0,_,h,hi=>by
  simp only [qi] at h;obtain ⟨x,d,rfl,b,c⟩:=h;simp at hi;subst hi;exact ⟨x,rfl,b⟩
 | u::a,_,i+1,_,h,hi=>by
  simp only [qi] at h;obtain ⟨x,d,rfl,b,c⟩:=h;have e:=qi.get (i:=i) c (by simpa using hi);simpa using e
structure Ext (r:Nat) (G:qe) (w:World) (G':qe) (w':World):Prop where
 sub:∀ nm g x,G nm g=some x->G' nm g=some x
 frg:∀ b,b<w.heap.size->qjs G b->w'.heap[b]? = w.heap[b]?/\qjs G' b
 size:w.heap.size<=w'.heap.size
 shp:∀ b x,w.shape? b=some x->w'.shape? b=some x
 ro:∀ nm g b sh n,nm<r->G nm g=some (b,sh,n)->w'.heap[b]? = w.heap[b]?
 out:w'.os=w.os/\w'.output=w.output
theorem Ext.refl (r:Nat) (G:qe) (w:World):Ext r G w G w:=
 ⟨λ_ _ _ h=>h,λ_ _ h=>⟨rfl,h⟩,zN _,λ_ _ h=>h,λ_ _ _ _ _ _ _=>rfl,rfl,rfl⟩
theorem Ext.trans {r:Nat} {G f c:qe} {w w' d:World} (h:Ext r G w f w') (a:Ext r f w' c d):Ext r G w c d:=
 ⟨λnm g x e=>a.sub nm g x (h.sub nm g x e),
  λb i o=>by
   have j:=h.frg b i o;have k:=a.frg b (zL i h.size) j.2;exact ⟨k.1.trans j.1,k.2⟩,
  zR h.size a.size,λb x e=>a.shp b x (h.shp b x e),
  λnm g b l n m e=>(a.ro nm g b l n m (h.sub _ _ _ e)).trans (h.ro nm g b l n m e),a.out.1.trans h.out.1,a.out.2.trans h.out.2⟩
theorem Ext.mono {r a:Nat} {G c:qe} {w w':World} (h:Ext r G w c w') (d:a<=r):Ext a G w c w':=
 ⟨h.sub,h.frg,h.size,h.shp,λnm g b f n i e=>h.ro nm g b f n (zL i d) e,h.out⟩
structure Up (G:qe) (w:World) (G':qe) (w':World):Prop where
 sub:∀ nm g x,G nm g=some x->G' nm g=some x
 shp:∀ b x,w.shape? b=some x->w'.shape? b=some x
theorem Ext.up {r:Nat} {G a:qe} {w w':World} (h:Ext r G w a w'):Up G w a w':=⟨h.sub,h.shp⟩
theorem qlk.ext {G a:qe} (d:∀ nm g x,G nm g=some x->a nm g=some x) {f c:Fn} (h:qlk G f c):qlk a f c:=by
 unfold qlk at *;cases f with
 | yield l=>obtain ⟨b,i,n,e,r⟩:=h;exact ⟨b,i,n,d _ _ _ e,r⟩
 | _=>exact h
theorem qez {w:World} {b:Nat} {o:Obj} (h:w.heap[b]? = some o):b<w.heap.size:=by
 rw [Array.getElem?_eq_some_iff] at h;exact h.1
mutual
theorem Rel.up {G p:qe} {w w':World} (h:Up G w p w'):∀ {v:V} {x:Value},Rel G w v x->Rel p w' v x
 | .int _ _,_,e | .bool _,_,e | .str _,_,e | .nilp,_,e | .nils,_,e | .nilf,_,e | .nili,_,e | .nilm,_,e=>by simpa [Rel] using e
 | .ptr nm g off lim,_,e=>by
  simp only [Rel] at e ⊢;obtain ⟨b,j,n,d,f⟩:=e;exact ⟨b,j,n,h.sub _ _ _ d,f⟩
 | .slice nm g off len sz cap,_,e=>by
  simp only [Rel] at e ⊢;obtain ⟨b,j,n,ro,c,q,m,ad,d,f,r,k,l,s,u,z,A,B⟩:=e;exact ⟨b,j,n,ro,c,q,m,ad,h.sub _ _ _ d,f,r,k,l,s,u,z,h.shp _ _ A,B⟩
 | .func C first i,_,e=>by
  simp only [Rel] at e ⊢;obtain ⟨o,a,c,d,f,k,l⟩:=e;exact ⟨o,a,c,d,f.ext h.sub,qi.up h k,qi.up h l⟩
 | .iface t x,_,e=>by
  simp only [Rel] at e ⊢;obtain ⟨y,d,f⟩:=e;exact ⟨y,d,Rel.up h f⟩
 | .agg cs,_,e=>by
  simp only [Rel] at e ⊢;obtain ⟨a,d,f⟩:=e;exact ⟨a,d,qi.up h f⟩
 | .tuple cs,_,e=>by
  simp only [Rel] at e ⊢;obtain ⟨a,d,f⟩:=e;exact ⟨a,d,qi.up h f⟩
 | .map nm,_,e=>by
  simp only [Rel] at e ⊢;obtain ⟨b,j,n,d,f⟩:=e;exact ⟨b,j,n,h.sub _ _ _ d,f⟩
theorem qi.up {G b:qe} {w w':World} (h:Up G w b w'):∀ {a:List V} {l:List Value},qi G w a l->qi b w' a l
 | [],_,e=>by simpa [qi] using e
 | v::a,_,e=>by
  simp only [qi] at e ⊢;obtain ⟨x,c,d,f,g⟩:=e;exact ⟨x,c,d,Rel.up h f,qi.up h g⟩
end
theorem Rel.ext {r:Nat} {G a:qe} {w w':World} (h:Ext r G w a w') {v:V} {x:Value} (e:Rel G w v x):Rel a w' v x:=Rel.up h.up e
theorem qi.ext {r:Nat} {G a:qe} {w w':World} (h:Ext r G w a w') {b:List V} {l:List Value} (e:qi G w b l):qi a w' b l:=qi.up h.up e
def kl (G:qe) (w:World):List V->List Value->Prop
 | [],l=>l=[]
 | v::b,l=>∃ x a,l=x::a/\(isHole v=true∨Rel G w v x)/\kl G w b a
theorem qi.c {G:qe} {w:World}:∀ {a:List V} {l:List Value},qi G w a l->kl G w a l
 | [],_,h=>by simp [qi] at h;simp [kl,h]
 | v::a,_,h=>by
  simp only [qi] at h;obtain ⟨x,b,rfl,d,e⟩:=h;simp only [kl];exact ⟨x,b,rfl,.inr d,e.c⟩
theorem kl.l {G:qe} {w:World}:∀ {a:List V} {l:List Value},kl G w a l->a.any isHole=false->qi G w a l
 | [],_,h,_=>by simp [kl] at h;simp [qi,h]
 | v::a,_,h,b=>by
  simp only [kl] at h;obtain ⟨x,c,rfl,d,e⟩:=h;simp only [List.any_cons,Bool.or_eq_false_iff] at b;simp only [qi];refine ⟨x,c,rfl,d.resolve_left (by rw [b.1];exact Bool.false_ne_true),e.l b.2⟩
theorem kl.length {G:qe} {w:World}:∀ {a:List V} {l:List Value},kl G w a l->a.length=l.length
 | [],_,h=>by simp [kl] at h;simp [h]
 | v::a,_,h=>by
  simp only [kl] at h;obtain ⟨x,c,rfl,_,b⟩:=h;simp [kl.length b]
theorem kl.append {G:qe} {w:World}:∀ {b:List V} {l:List Value} {a:List V} {d:List Value},kl G w b l->kl G w a d->kl G w (b++a) (l++d)
 | [],_,_,_,h,c=>by simp [kl] at h;simpa [h] using c
 | v::b,_,_,_,h,c=>by
  simp only [kl] at h;obtain ⟨x,g,rfl,e,f⟩:=h;simp only [List.cons_append,kl];exact ⟨x,_,rfl,e,kl.append f c⟩
theorem kl.take {G:qe} {w:World}:∀ {a:List V} {l:List Value} (n:Nat),kl G w a l->kl G w (a.take n) (l.take n)
 | [],_,n,h=>by simp [kl] at h;simp [h,kl]
 | v::a,_,0,h=>by simp [kl]
 | v::a,_,n+1,h=>by
  simp only [kl] at h;obtain ⟨x,d,rfl,b,c⟩:=h;simp only [List.take_succ_cons,kl];exact ⟨x,_,rfl,b,kl.take n c⟩
theorem kl.drop {G:qe} {w:World}:∀ {a:List V} {l:List Value} (n:Nat),kl G w a l->kl G w (a.drop n) (l.drop n)
 | [],_,n,h=>by simp [kl] at h;simp [h,kl]
 | v::a,_,0,h=>by simpa using h
 | v::a,_,n+1,h=>by
  simp only [kl] at h;obtain ⟨x,c,rfl,d,b⟩:=h;simpa using kl.drop n b
theorem kl.up {G b:qe} {w w':World} (h:Up G w b w'):∀ {a:List V} {l:List Value},kl G w a l->kl b w' a l
 | [],_,e=>by simpa [kl] using e
 | v::a,_,e=>by
  simp only [kl] at e ⊢;obtain ⟨x,c,d,f,g⟩:=e;exact ⟨x,c,d,f.imp id (Rel.up h),kl.up h g⟩
theorem kl.ext {r:Nat} {G a:qe} {w w':World} (h:Ext r G w a w') {b:List V} {l:List Value} (e:kl G w b l):kl a w' b l:=kl.up h.up e
theorem qnr {cs a:List V} (h:ql3 cs=some a):a=cs/\cs.any isHole=false:=by
 unfold ql3 at h;cases b:cs.any isHole with
 | true=>rw [b] at h;cases h
 | false=>rw [b] at h;cases h;exact ⟨rfl,rfl⟩
def ZS (u:V):Prop:=∃ nm g off len cap,u=.slice nm g off len 0 cap
theorem qrv {v:V}:isHole v=true↔∃ u,v=.tuple [u]/\ZS u:=by
 unfold isHole;split
 .exact ⟨λ_=>⟨_,rfl,_,_,_,_,_,rfl⟩,λ_=>rfl⟩
 .rename_i h;exact ⟨λh=>(by cases h),λ⟨u,a,nm,g,off,len,cap,b⟩=>(h nm g off len cap (by rw [a,b])).elim⟩
theorem qi5 {cs:List V} (h:∀ v ∈ cs,isHole v=false):ql3 cs=some cs:=by
 unfold ql3;have:cs.any isHole=false:=by
  rw [<-Bool.not_eq_true,List.any_eq_true];rintro ⟨v,b,a⟩;rw [h v b] at a;cases a
 rw [this];rfl
theorem Tree.qs4 {α:Type}:∀ (t:Tree α) (n m:Nat),(t.del n).get m=if m=n then none else t.get m
 | .nil,n,m=>by simp [Tree.del,Tree.get]
 | .node v l r,n,m=>by
  simp only [Tree.del,cond_eq_ite,Nat.beq_eq];by_cases d:n=0
  .subst d;simp only [if_true,Tree.get,cond_eq_ite,Nat.beq_eq];by_cases b:m=0<;>simp [b]
  .rw [zF d];by_cases e:n % 2=1
   .rw [zT e];simp only [Tree.get,cond_eq_ite,Nat.beq_eq,Tree.qs4 l];by_cases b:m=0
    .simp [b,Ne.symm d]
    .by_cases c:m % 2=1
     .simp only [b,if_false,c,if_true];by_cases a:m=n
      .subst a;simp
      .have:¬ m / 2=n / 2:=by omega
       simp [a,this]
     .have a:m≠n:=by intro a;subst a;exact c e
      simp [b,c,a]
   .rw [zF e];simp only [Tree.get,cond_eq_ite,Nat.beq_eq,Tree.qs4 r];by_cases b:m=0
    .simp [b,Ne.symm d]
    .by_cases c:m % 2=1
     .have a:m≠n:=by intro a;subst a;exact e c
      simp [b,c,a]
     .simp only [b,if_false,c];by_cases a:m=n
      .subst a;simp
      .have:¬ m / 2-1=n / 2-1:=by omega
       simp [a,this]
theorem js {α:Type} (src:Tree α):∀ (l:List Nat) (t:Tree α) (m:Nat),(ke src l t).get m=if m ∈ l then src.get m else t.get m
 | [],t,m=>by simp [ke]
 | n::l,t,m=>by
  simp only [ke];rw [js src l];by_cases h:m ∈ l
  .simp [h]
  .simp only [h,if_false,zD,or_false];by_cases b:m=n
   .subst b;cases c:src.get m with
    | none=>simp [Tree.qs4]
    | some a=>simp [Tree.kv]
   .rw [zF b];cases c:src.get n with
    | none=>simp [Tree.qs4,b]
    | some a=>simp [Tree.kv,b]
end Go.E2
/- E2's memory against the model's: what holds of every name, and how a step keeps it. -/
namespace Go.E2
open Go
def q1l (G:qe) (w:World) (t:Tree V) (arr:Array Value):Prop:=∀ k v,t.get k=some v->Rel G w v (arr.getD k undef)
def qa9 (G:qe) (w:World):List (V×V×Nat)->List MapEntry->Prop
 | [],l=>l=[]
 | (k,v,b)::c,l=>∃ x a,l=x::a/\Rel G w k x.key/\Rel G w v x.val/\x.born=b/\qa9 G w c a
def qef (G:qe) (w:World) (nm:Nat) (o:O):Prop:=
 match o with
 | .row cells elem gen floor frz exact=>floor<=gen/\(exact=true->gen=0)/\∀ g b c n,G nm g=some (b,c,n)->
   g<=gen/\c<=n/\n<=cells.length/\(g=gen->n=cells.length)/\(exact=true->c=0)/\
   (floor<=g->∃ e fz,w.heap[b]? = some (.cells e elem fz)/\n-c<=e.size/\kl G w ((cells.take n).drop c) (e.toList.take (n-c))/\
     (g=gen->∀ i,frz<=i+c->i<fz.2->False)/\(exact=true->e.size=cells.length))
 | .map r j=>∀ g b c n,G nm g=some (b,c,n)->g=0/\∃ k,w.heap[b]? = some (.map k j)/\qa9 G w r k.toList
 | .loop st d l n f a body h=>∀ g b c m,G nm g=some (b,c,m)->g=0/\
   ∃ L,w.heap[b]? = some (.loop L)/\L.state=st/\L.pending=d/\L.params.toList=f/\L.assign=a/\L.body=body/\codeOk a=true/\codeOk body=true/\
    L.tmps.size=n/\q1l G w l L.tmps/\∃ q p s,G h 0=some (q,p,s)/\L.defers=q
 | .dfr=>∀ g b c n,G nm g=some (b,c,n)->g=0/\w.heap[b]? = some (.deferred (some []))
 | .gone=>True
structure Sim (H:Heap) (G:qe) (w:World):Prop where
 lt:∀ nm g b sh n,G nm g=some (b,sh,n)->b<w.heap.size/\nm<H.next
 inj:∀ nm g b sh n nm' g' sh' n',G nm g=some (b,sh,n)->G nm' g'=some (b,sh',n')->nm=nm'/\sh=sh'
 obj:∀ nm o,nm<H.next->H.get nm=some o->qef G w nm o
 ro:H.ro<=H.next
 zf:H.zf<=H.ro
 globs:∀ g o,g<H.zf->H.get g=some o->∃ n,G g 0=some (g,0,n)
theorem q1l.up {G a:qe} {w w':World} (h:Up G w a w') {t:Tree V} {arr:Array Value} (e:q1l G w t arr):q1l a w' t arr:=
 λk v b=>Rel.up h (e k v b)
theorem q1l.ext {r:Nat} {G a:qe} {w w':World} (h:Ext r G w a w') {t:Tree V} {arr:Array Value} (e:q1l G w t arr):q1l a w' t arr:=e.up h.up
theorem qa9.up {G c:qe} {w w':World} (h:Up G w c w'):∀ {a:List (V×V×Nat)} {l:List MapEntry},qa9 G w a l->qa9 c w' a l
 | [],_,e=>by simpa [qa9] using e
 | (k,v,b)::a,_,e=>by
  simp only [qa9] at e ⊢;obtain ⟨x,d,f,g,i,j,m⟩:=e;exact ⟨x,d,f,Rel.up h g,Rel.up h i,j,qa9.up h m⟩
theorem qa9.ext {r:Nat} {G a:qe} {w w':World} (h:Ext r G w a w') {es:List (V×V×Nat)} {l:List MapEntry} (e:qa9 G w es l):qa9 a w' es l:=e.up h.up
theorem qef.up {G r:qe} {w w':World} {nm:Nat} {o:O} (h:Up G w r w') (k:∀ g x,r nm g=some x->G nm g=some x)
  (hw:∀ g b c n,G nm g=some (b,c,n)->w'.heap[b]? = w.heap[b]?) (e:qef G w nm o):qef r w' nm o:=by
 cases o with
 | row cells elem gen floor frz exact=>
  refine ⟨e.1,e.2.1,λg b c n d=>?_⟩;have a:=k _ _ d;obtain ⟨f,i,s,t,u,v⟩:=e.2.2 g b c n a;refine ⟨f,i,s,t,u,λI=>?_⟩;obtain ⟨y,fz,J,K,M,N⟩:=v I;exact ⟨y,fz,(hw _ _ _ _ a).trans J,K,kl.up h M,N⟩
 | map V z=>
  intro g b c n d;have a:=k _ _ d;obtain ⟨A,B,f,i⟩:=e g b c n a;exact ⟨A,B,(hw _ _ _ _ a).trans f,qa9.up h i⟩
 | loop st j H n l p body q=>
  intro g b c m d;have a:=k _ _ d;obtain ⟨A,L,f,i,s,t,v,P,Q,C,R,S,T,D,U,E,F⟩:=e g b c m a;exact ⟨A,L,(hw _ _ _ _ a).trans f,i,s,t,v,P,Q,C,R,S.up h,T,D,U,h.sub _ _ _ E,F⟩
 | dfr=>
  intro g b c n d;have a:=k _ _ d;exact ⟨(e g b c n a).1,(hw _ _ _ _ a).trans (e g b c n a).2⟩
 | gone=>trivial
theorem qef.ext {r:Nat} {G a:qe} {w w':World} {nm:Nat} {o:O} (h:Ext r G w a w') (c:∀ g x,a nm g=some x->G nm g=some x)
  (hw:∀ g b d n,G nm g=some (b,d,n)->w'.heap[b]? = w.heap[b]?) (e:qef G w nm o):qef a w' nm o:=e.up h.up c hw
structure Step (H:Heap) (G:qe) (w:World) (H':Heap) (G':qe) (w':World):Prop where
 ext:Ext H.ro G w G' w'
 sim:Sim H' G' w'
 next:H.next<=H'.next
 ro:H'.ro=H.ro
 zf:H'.zf=H.zf
 keep:∀ nm,nm<H.ro->H'.get nm=H.get nm
 newG:∀ nm g x,G' nm g=some x->nm<H.ro->G nm g=some x
 frame:∀ nm,nm<H.next->H.get nm=none->H'.get nm=none/\(∀ g b sh n,G nm g=some (b,sh,n)->w'.heap[b]? = w.heap[b]?)/\∀ g x,G' nm g=some x->G nm g=some x
theorem Step.refl {H:Heap} {G:qe} {w:World} (h:Sim H G w):Step H G w H G w:=
 ⟨Ext.refl _ _ _,h,zN _,rfl,rfl,λ_ _=>rfl,λ_ _ _ h _=>h,λ_ _ h=>⟨h,λ_ _ _ _ _=>rfl,λ_ _ h=>h⟩⟩
theorem Step.trans {H H' d:Heap} {G j e:qe} {w w' f:World} (h:Step H G w H' j w') (a:Step H' j w' d e f):Step H G w d e f:=by
 refine ⟨h.ext.trans (h.ro ▸ a.ext),a.sim,zR h.next a.next,a.ro.trans h.ro,a.zf.trans h.zf,λnm c=>?_,λnm g x i c=>?_,λnm c m=>?_⟩
 .rw [a.keep nm (h.ro.symm ▸ c),h.keep nm c]
 .exact h.newG nm g x (a.newG nm g x i (h.ro.symm ▸ c)) c
 .obtain ⟨o,p,q⟩:=h.frame nm c m;obtain ⟨r,s,t⟩:=a.frame nm (zL c h.next) o;exact ⟨r,λg b k n l=>(s g b k n (h.ext.sub _ _ _ l)).trans (p g b k n l),λg x i=>q g x (t g x i)⟩
theorem Sim.turn {H H':Heap} {G v:qe} {w w':World} (f:Sim H G w) (a:Nat) (o:O)
  (R:∀ nm,H'.get nm=if nm=a then some o else H.get nm) (k:H.next<=H'.next) (T:∀ nm,nm<H'.next->nm≠a->nm<H.next) (B:H'.ro=H.ro) (l:H'.zf=H.zf) (Y:H.ro<=a) (U:a<H'.next) (V:H.next<=a∨H.get a≠none)
  (C:∀ nm g x,G nm g=some x->v nm g=some x) (h:∀ nm g x,v nm g=some x->nm≠a->G nm g=some x)
  (p:w.heap.size<=w'.heap.size)
  (e:∀ g b d n,v a g=some (b,d,n)->b<w'.heap.size/\(w.heap.size<=b∨∃ q r,G a q=some (b,d,r)))
  (D:∀ g b d n q i r,v a g=some (b,d,n)->v a q=some (b,i,r)->w.heap.size<=b->d=i)
  (hw:∀ b,b<w.heap.size->(∀ g d n,G a g≠some (b,d,n))->w'.heap[b]? = w.heap[b]?)
  (E:∀ b x,w.shape? b=some x->w'.shape? b=some x)
  (F:Ext H.ro G w v w'->qef v w' a o) (I:w'.os=w.os/\w'.output=w.output:=by exact ⟨rfl,rfl⟩):Step H G w H' v w':=by
 have J:∀ b,b<w.heap.size->qjs G b->qjs v b:=by
  intro b z K nm g d n j;by_cases c:nm=a
  .subst c;rcases (e g b d n j).2 with s | ⟨q,r,s⟩
   .omega
   .exact K _ _ _ _ s
  .exact K _ _ _ _ (h _ _ _ j c)
 have t:Ext H.ro G w v w':=by
  refine ⟨C,λb z K=>⟨hw b z (λg d n=>K a g d n),J b z K⟩,p,E,λnm g b d n hr j=>?_,I⟩;have W:=f.lt nm g b d n j;refine hw b W.1 (λq i r L=>?_);have:=(f.inj nm g b d n a q i r j L).1;omega
 refine ⟨t,⟨λnm g b d n j=>?_,λnm g b d n M q i r s N=>?_,λnm X P A=>?_,by rw [B];exact zR f.ro k,by rw [l,B];exact f.zf,λg X j A=>?_⟩,k,B,l,λnm S=>?_,λnm g x Q S=>?_,λnm S u=>?_⟩
 .by_cases c:nm=a
  .subst c;exact ⟨(e g b d n j).1,U⟩
  .have:=f.lt _ _ _ _ _ (h _ _ _ j c);exact ⟨zL this.1 p,zL this.2 k⟩
 .by_cases c:nm=a
  .by_cases m:M=a
   .subst c;subst m;refine ⟨rfl,?_⟩;rcases (e g b d n s).2 with y | ⟨Z,n3,y⟩
    .exact D _ _ _ _ _ _ _ s N y
    .rcases (e q b i r N).2 with h4 | ⟨g4,n4,h4⟩
     .have:=(f.lt _ _ _ _ _ y).1;omega
     .exact (f.inj _ _ _ _ _ _ _ _ _ y h4).2
   .exfalso;subst c;have z:=h _ _ _ N m;rcases (e g b d n s).2 with y | ⟨Z,n3,y⟩
    .have:=(f.lt _ _ _ _ _ z).1;omega
    .exact m (f.inj _ _ _ _ _ _ _ _ _ z y).1
  .by_cases m:M=a
   .exfalso;subst m;have z:=h _ _ _ s c;rcases (e q b i r N).2 with y | ⟨Z,n3,y⟩
    .have:=(f.lt _ _ _ _ _ z).1;omega
    .exact c (f.inj _ _ _ _ _ _ _ _ _ z y).1
   .exact f.inj _ _ _ _ _ _ _ _ _ (h _ _ _ s c) (h _ _ _ N m)
 .rw [R] at A;by_cases c:nm=a
  .subst c;rw [zT rfl] at A;cases A;exact F t
  .rw [zF c] at A;refine (f.obj nm X (T nm P c) A).ext t (λg x Q=>h _ _ _ Q c) (λg b d n j=>?_);exact hw b (f.lt _ _ _ _ _ j).1 (λq i r L=>c (f.inj _ _ _ _ _ _ _ _ _ j L).1)
 .rw [l] at j;have:=f.zf;rw [R,zF (by omega)] at A;obtain ⟨n,S⟩:=f.globs g X j A;exact ⟨n,C _ _ _ S⟩
 .rw [R,zF (by omega)]
 .exact h _ _ _ Q (by omega)
 .have c:nm≠a:=by
   intro c;subst c;rcases V with s | s
   .omega
   .exact s u
  refine ⟨by rw [R,zF c];exact u,λg b d n j=>?_,λg x Q=>h _ _ _ Q c⟩;exact hw b (f.lt _ _ _ _ _ j).1 (λq i r L=>c (f.inj _ _ _ _ _ _ _ _ _ j L).1)
def qh0 (G:qe) (nm g:Nat) (x:Nat×Nat×Nat):qe:=λa b=>if a=nm/\b=g then some x else G a b
theorem qc7 (G:qe) (nm g:Nat) (x):qh0 G nm g x nm g=some x:=by simp [qh0]
def push (w:World) (o:Obj):World:={w with heap:=w.heap.push o}
theorem qda (w:World) (o:Obj):(push w o).heap[w.heap.size]? = some o:=Array.getElem?_push_size
theorem size_push (w:World) (o:Obj):(push w o).heap.size=w.heap.size+1:=Array.size_push _
theorem q0r {w:World} {o:Obj} {b:Nat} {x} (h:w.shape? b=some x):(push w o).shape? b=some x:=by
 unfold World.shape? at *;simp only [push];by_cases a:b<w.heap.size
 .rw [Array.getElem?_push_lt a,<-Array.getElem?_eq_getElem a];exact h
 .rw [Array.getElem?_eq_none (by omega)] at h;simp at h
theorem qnk {w:World} {o:Obj} {b:Nat} (a:b<w.heap.size):(push w o).heap[b]? = w.heap[b]?:=by
 simp only [push];rw [Array.getElem?_push_lt a,<-Array.getElem?_eq_getElem a]
theorem Heap.q5t (H:Heap) (o:O) (nm:Nat):(H.new o).get nm=if nm=H.next then some o else H.get nm:=by
 simp only [Heap.get,Heap.new,Tree.kv]
theorem Sim.fresh {H:Heap} {G:qe} {w:World} (a:Sim H G w) (g:Nat):G H.next g=none:=by
 cases h:G H.next g with
 | none=>rfl
 | some x=>have:=(a.lt _ _ _ _ _ h).2;omega
theorem Sim.new {H:Heap} {G:qe} {w:World} (d:Sim H G w) (o:O) (j:Obj) (n:Nat)
  (f:Ext H.ro G w (qh0 G H.next 0 (w.heap.size,0,n)) (push w j)->qef (qh0 G H.next 0 (w.heap.size,0,n)) (push w j) H.next o) :
  Step H G w (H.new o) (qh0 G H.next 0 (w.heap.size,0,n)) (push w j):=by
 refine d.turn H.next o (Heap.q5t H o) (by simp [Heap.new]) (λnm a e=>by simp only [Heap.new] at a;omega) rfl rfl d.ro (by simp [Heap.new]) (.inl (zN _)) (λnm g x c=>?_) (λnm g x c s=>?_) (by simp [size_push])
  (λg b l m i=>?_) (λg b l m p q t a e _=>?_) (λb r _=>qnk r) (λb x h=>q0r h) f
 .simp only [qh0];by_cases h:nm=H.next/\g=0
  .rw [h.1,d.fresh] at c;simp at c
  .rw [zF h];exact c
 .simp only [qh0] at c;rw [zF (by omega)] at c;exact c
 .simp only [qh0] at i;by_cases h:g=0
  .rw [zT ⟨trivial,h⟩] at i;cases i;exact ⟨by simp [size_push],.inl (zN _)⟩
  .rw [zF (λx=>h x.2),d.fresh] at i;simp at i
 .simp only [qh0] at a e;by_cases h:g=0
  .by_cases k:p=0
   .rw [zT ⟨trivial,h⟩] at a;rw [zT ⟨trivial,k⟩] at e;cases a;cases e;rfl
   .rw [zF (λx=>k x.2),d.fresh] at e;simp at e
  .rw [zF (λx=>h x.2),d.fresh] at a;simp at a
def qpy (w:World) (b:Nat) (a:Obj):World:={w with heap:=w.heap.setIfInBounds b a}
theorem qo8 {w:World} {b:Nat} {c a:Obj} (h:w.heap[b]? = some c):(qpy w b a).heap[b]? = some a:=by
 have d:b<w.heap.size:=by rw [Array.getElem?_eq_some_iff] at h;exact h.1
 simp only [qpy];exact Array.getElem?_setIfInBounds_self_of_lt d
theorem qs8 {w:World} {b a:Nat} {c:Obj} (h:a≠b):(qpy w b c).heap[a]? = w.heap[a]?:=by
 simp only [qpy];exact Array.getElem?_setIfInBounds_ne (Ne.symm h)
theorem Sim.setObj {H:Heap} {G:qe} {w:World} (i:Sim H G w) {nm b s n:Nat} {o:O} (k:O) (u:H.get nm=some o) (t:G nm 0=some (b,s,n)) (l:H.ro<=nm) {v:Obj} (a:Obj) (B:w.heap[b]? = some v)
  (p:w.shape? b=none) (c:Ext H.ro G w G (qpy w b a)->qef G (qpy w b a) nm k) :
  Step H G w {H with qbq:=H.qbq.set nm k} G (qpy w b a):=by
 have d:(qpy w b a).heap.size=w.heap.size:=by simp [qpy]
 refine i.turn nm k (λm=>by simp only [Heap.get,Tree.kv]) (zN _) (λ_ h _=>h) rfl rfl l (i.lt _ _ _ _ _ t).2 (.inr (by rw [u];simp)) (λ_ _ _ h=>h) (λ_ _ _ h _=>h) (by rw [d];exact zN _)
  (λC q y D f=>⟨by rw [d];exact (i.lt _ _ _ _ _ f).1,.inr ⟨_,_,f⟩⟩) (λ_ _ _ _ _ _ _ z A _=>(i.inj _ _ _ _ _ _ _ _ _ z A).2) (λq _ r=>qs8 (λe=>r 0 s n (e ▸ t))) (λq x j=>?_) c
 by_cases g:q=b
 .subst g;rw [p] at j;cases j
 .simp only [World.shape?,qs8 g] at j ⊢;exact j
end Go.E2
/- E2's reads and writes of cells against the model's. -/
namespace Go.E2
open Go
theorem qht {α:Type} (l:List α) (n o s:Nat) (h:o+s<=n):((l.take n).drop o).take s=(l.drop o).take s:=by
 rw [List.drop_take,List.take_take,Nat.min_eq_left (by omega)]
theorem qes (b o j:Nat):(⟨b,o,none⟩:Addr).add j=⟨b,o+j,none⟩:=by unfold Addr.add;split<;>simp_all
theorem Rel.j7 {G:qe} {w:World} {v:V} {x:Value} (h:Rel G w v x):x.oneCell'=v.j7:=by
 cases v<;>simp only [Rel] at h<;>first
  | (subst h;rfl)
  | (obtain ⟨a,rfl,d⟩:=h;rfl)
  | (obtain ⟨b,g,n,i,d,j,rfl⟩:=h;rfl)
  | (obtain ⟨b,g,n,ro,c,e,m,ad,i,rfl,d⟩:=h;rfl)
  | (obtain ⟨b,o,c,f,e,fz,rfl,d⟩:=h;rfl)
  | (obtain ⟨b,o,f,e,fz,rfl,d⟩:=h;rfl)
  | (obtain ⟨a,b,c,rfl,d⟩:=h;rfl)
  | (obtain ⟨b,g,n,i,rfl⟩:=h;rfl)
theorem qi.j7 {G:qe} {w:World}:∀ {b:List V} {l:List Value},qi G w b l->b.all V.j7=true->∀ x ∈ l,x.oneCell'=true
 | [],_,h,_,x,a=>by simp [qi] at h;simp [h] at a
 | v::b,_,h,c,x,a=>by
  simp only [qi] at h;obtain ⟨y,f,rfl,d,e⟩:=h;simp only [List.all_cons,zA] at c;rcases zD.1 a with rfl | a
  .rw [d.j7];exact c.1
  .exact qi.j7 e c.2 x a
def qvn (w:World) (a:Addr) (l:List Value):Prop:=∀ j v,l[j]? = some v->w.cell? (a.add j)=some v
theorem qvn.of_heap {w w':World} {a:Addr} {l:List Value} (h:qvn w a l) (e:w'.heap=w.heap):qvn w' a l:=by
 intro j v b;have:=h j v b;simpa only [World.cell?,e] using this
theorem qvn.run {w:World} {a:Addr} {l:List Value} (h:qvn w a l) (P:Program):(loadCells a l.length).run P w=.ok l.toArray w:=
 run_loadCells_list w a l h
theorem q83 {w:World} {b:Nat} {arr:Array Value} {e:TypeId} {fz:Nat×Nat} (h:w.heap[b]? = some (.cells arr e fz)) (o s:Nat):qvn w ⟨b,o,none⟩ ((arr.toList.drop o).take s):=by
 intro j v a;rw [qes];simp only [World.cell?,h,Option.isSome_none,Bool.false_eq_true,if_false];rw [List.getElem?_take] at a;split at a
 .rw [List.getElem?_drop] at a;simpa using a
 .cases a
theorem qfu (P:Program) (g o:Nat) (t:TypeId) (fz:Nat×Nat):∀ (d:List Value) (i:Nat) (a:Array Value) (w:World),w.heap[g]? = some (.cells a t fz)->
  (∀ j,o+i<=j->fz.1<=j->j<fz.2->False)->o+i+d.length<=a.size->(∀ v ∈ d,v.oneCell'=true)->
  (storeCells ⟨g,o,none⟩ d i).run P w=.ok () (w.setRow g (a.toList.take (o+i)++d++a.toList.drop (o+i+d.length)).toArray)
 | [],i,a,w,c,_,_,_=>by
  simp only [storeCells,zJ,List.length_nil,Nat.add_zero,List.take_append_drop,Array.toArray_toList];rw [setRow_self w g a t fz c];rfl
 | v::rest,i,a,w,c,f,l,h=>by
  have hi:o+i<a.size:=by simp at l;omega
  have b:w.cell? ⟨g,o+i,none⟩=some a[o+i]:=by simp [World.cell?,c,hi]
  have k:w.frozen? ⟨g,o+i,none⟩=false:=by
   obtain ⟨lo,n⟩:=fz;simp only [World.frozen?,c,Bool.and_eq_false_iff,decide_eq_false_iff_not];have:=f (o+i) (zN _);by_cases h:lo<=o+i
   .exact .inr (this h)
   .exact .inl h
  have m:(store ((⟨g,o,none⟩:Addr).add i) v).run P w=.ok () (w.setRow g (a.setIfInBounds (o+i) v)):=by
   rw [qes,run_store P w _ v _ (h v (by simp)),b];simp [k,setCell_eq_setRow w g (o+i) a t fz v c]
  have p:=qfu P g o t fz rest (i+1) (a.setIfInBounds (o+i) v) (w.setRow g (a.setIfInBounds (o+i) v)) (setRow_heap w g a _ t _ c) (λj r=>f j (by omega)) (by simp at l ⊢;omega) (λx q=>h x (by simp [q]));simp only [storeCells,Sem.run_bind,m,Result.andThen_ok,p,setRow_setRow];congr 3;have e:=list_seg_step a.toList (o+i) v rest (by simp at l ⊢;omega);simpa [Array.toList_setIfInBounds,Nat.add_assoc] using e
theorem q14 {H:Heap} {G:qe} {w:World} (f:Sim H G w) {nm g off lim size:Nat} {h:Value} (i:Rel G w (.ptr nm g off lim) h) {cells:List V} {elem:TypeId} {gen floor d:Nat} {exact:Bool} (k:H.get nm=some (.row cells elem gen floor d exact))
  (m:floor<=g) (u:off+size<=lim) (v:lim<=cells.length):∃ a l,h=.pointer (some a)/\qvn w a l/\kl G w ((cells.drop off).take size) l/\((cells.drop off).take size).length=size:=by
 simp only [Rel] at i;obtain ⟨b,c,n,j,x,y,rfl⟩:=i;have e:=f.obj nm _ (f.lt _ _ _ _ _ j).2 k;obtain ⟨z,A,o⟩:=e;obtain ⟨r1,B,C,D,p,q⟩:=o g b c n j;obtain ⟨r,fz,s,E,t,F⟩:=q m;refine ⟨_,_,rfl,q83 s (off-c) size,?_,by simp;omega⟩;have:=(t.drop (off-c)).take size;rw [List.drop_drop,show c+(off-c)=off by omega,qht _ _ _ _ (by omega),qht _ _ _ _ (by omega)] at this;exact this
theorem qf9 {H:Heap} {G:qe} {w:World} (i:Sim H G w) {p:V} {j:Value} (k:Rel G w p j) {size:Nat} {cs:List V} (h:jb H size p=some cs) :
  ∃ a l,j=.pointer (some a)/\qvn w a l/\qi G w cs l/\cs.length=size:=by
 cases p with
 | ptr nm g off lim=>
  simp only [Rel] at k;obtain ⟨b,c,n,m,A,B,rfl⟩:=k;simp only [jb] at h;split at h
  .rename_i cells o gen d q exact r;have e:=i.obj nm _ (i.lt _ _ _ _ _ m).2 r;obtain ⟨C,D,s⟩:=e;obtain ⟨r1,E,F,I,t,u⟩:=s g b c n m;simp only [cond_eq_ite,zA,Nat.ble_eq] at h;split at h
   .rename_i v;obtain ⟨rfl,f⟩:=qnr h;obtain ⟨x,fz,y,J,z,K⟩:=u v.1.1;refine ⟨_,_,rfl,q83 y (off-c) size,?_,by simp;omega⟩;have:=(z.drop (off-c)).take size;rw [List.drop_drop,show c+(off-c)=off by omega,qht _ _ _ _ (by omega),qht _ _ _ _ (by omega)] at this;exact this.l f
   .cases h
  .cases h
 | _=>simp [jb] at h
theorem qi9 {H H':Heap} {n:Nat} {o:O} (h:H.upd n o=some H'):H.ro<=n/\H' = {H with qbq:=H.qbq.set n o}:=by
 simp only [Heap.upd,cond_eq_ite,Nat.blt_eq] at h;split at h
 .cases h
 .cases h;exact ⟨by omega,rfl⟩
theorem qw8 {H:Heap} {n:Nat} {o:O} (nm:Nat):({H with qbq:=H.qbq.set n o}:Heap).get nm=if nm=n then some o else H.get nm:=by
 simp only [Heap.get,Tree.kv]
theorem qex {w:World} {g b:Nat} {c:Array Value} (h:b≠g):(w.setRow g c).heap[b]? = w.heap[b]?:=by
 unfold World.setRow;simp only [Array.getElem?_modify];rw [zF (λe=>h e.symm)]
theorem qd8 {cs a:List V} {off:Nat} (h:off+a.length<=cs.length):(setCells cs off a).length=cs.length:=by
 simp [setCells];omega
theorem q17 (cs b:List V) (off a:Nat) (c:a<=off) (d:off+b.length<=cs.length) :
  (setCells cs off b).drop a=(cs.drop a).take (off-a)++b++(cs.drop a).drop (off-a+b.length):=by
 unfold setCells;rw [List.append_assoc,List.drop_append_of_le_length (by simp;omega),List.drop_drop,show a+(off-a+b.length)=off+b.length by omega,List.append_assoc,List.drop_take]
theorem q1v {α:Type} (l x:List α) (o n:Nat) (a:o+x.length<=n) (b:n<=l.length) :
  (l.take o++x++l.drop (o+x.length)).take n=(l.take n).take o++x++(l.take n).drop (o+x.length):=by
 rw [List.take_append,List.take_append,List.take_take,List.take_take];simp only [List.length_append,List.length_take];rw [Nat.min_eq_left (by omega:o<=l.length),Nat.min_comm n o,List.take_of_length_le (l:=x) (by omega),List.drop_take]
theorem Sim.store {H:Heap} {G:qe} {w:World} (j:Sim H G w) {nm g b q n off:Nat} {cells:List V} {elem:TypeId} {floor k:Nat} {exact:Bool}
  (N:H.get nm=some (.row cells elem g floor k exact)) (r:G nm g=some (b,q,n)) {B:List V} {l:List Value} (O:qi G w B l)
  (C:q<=off) (o:off+B.length<=cells.length) (D:H.ro<=nm)
  {arr:Array Value} {fz:Nat×Nat} (E:w.heap[b]? = some (.cells arr elem fz)) (arr':Array Value)
  (p:arr'.toList=arr.toList.take (off-q)++l++arr.toList.drop (off-q+l.length)) (d:arr'.size=arr.size) :
  Step H G w {H with qbq:=H.qbq.set nm (.row (setCells cells off B) elem g g k exact)} G (w.setRow b arr'):=by
 obtain ⟨U,W,P⟩:=j.obj nm _ (j.lt _ _ _ _ _ r).2 N;obtain ⟨r1,r2,r3,X,Y,Z⟩:=P g b q n r;obtain ⟨Q,a6,t,R,F,a4,a5⟩:=Z U;rw [E] at t;cases t;have hn:=X rfl;have u:=O.length;have hb:b<w.heap.size:=(j.lt _ _ _ _ _ r).1;have v:(w.setRow b arr').heap.size=w.heap.size:=by unfold World.setRow;simp
 have i:=setRow_heap w b arr arr' elem fz E;refine j.turn nm (.row (setCells cells off B) elem g g k exact) (λm=>qw8 m) (zN _) (λ_ h _=>h) rfl rfl D (j.lt _ _ _ _ _ r).2 (.inr (by rw [N];simp)) (λ_ _ _ h=>h) (λ_ _ _ h _=>h) (by rw [v];exact zN _)
  (λI y z S a=>⟨by rw [v];exact (j.lt _ _ _ _ _ a).1,.inr ⟨_,_,a⟩⟩) (λ_ _ _ _ _ _ _ C o _=>(j.inj _ _ _ _ _ _ _ _ _ C o).2) (λy a7 J=>qex (λe=>J g q n (e ▸ r))) ?_ ?_
 .intro y x s;by_cases A:y=b
  .subst A;simp only [World.shape?,E,i,d] at s ⊢;exact s
  .simp only [World.shape?,qex A] at s ⊢;exact s
 .intro f;refine ⟨zN _,W,λI y z S a=>?_⟩;obtain ⟨T,s2,s3,s4,K,s5⟩:=P I y z S a;refine ⟨T,s2,by rw [qd8 o];exact s3,λe=>by rw [qd8 o];exact s4 e,K,λL=>?_⟩;have M:I=g:=Nat.le_antisymm T L;subst M;rw [r] at a;cases a;refine ⟨arr',fz,i,by rw [d];exact R,?_,a4,λs=>by rw [d,qd8 o];exact a5 s⟩;rw [List.take_of_length_le (by rw [qd8 o];omega),q17 _ _ _ _ C o,p,q1v _ _ _ _ (by omega) (by simpa using R),u];rw [List.take_of_length_le (by omega)] at F;exact kl.append (kl.append (kl.ext f (F.take _)) (qi.ext f O).c) (kl.ext f (F.drop _))
theorem qm6 {H H':Heap} {G:qe} {w:World} (e:Sim H G w) {p:V} {o:Value} (q:Rel G w p o) {r:List V} {l:List Value} (f:qi G w r l)
  (h:qb1 H r p=some H') (P:Program) :
  ∃ a w',o=.pointer (some a)/\(storeCells a l).run P w=.ok () w'/\Step H G w H' G w':=by
 cases p with
 | ptr nm g off lim=>
  simp only [Rel] at q;obtain ⟨b,s,n,i,x,M,rfl⟩:=q;simp only [qb1] at h;split at h
  .rename_i cells c gen k y exact t;obtain ⟨z,N,A⟩:=e.obj nm _ (e.lt _ _ _ _ _ i).2 t;obtain ⟨r1,O,Q,B,C,D⟩:=A g b s n i;simp only [cond_eq_ite,zA,Nat.ble_eq,Nat.beq_eq] at h;split at h
   .rename_i E;obtain ⟨⟨⟨⟨F,R⟩,S⟩,T⟩,I⟩:=E;subst F;obtain ⟨m,fz,u,U,W,J,X⟩:=D z;have Y:=B rfl;obtain ⟨K,rfl⟩:=qi9 h;have v:=f.length;have d:=qfu P b (off-s) c fz l 0 m w u (λj Z _ L=>J rfl j (by omega) L) (by omega) (qi.j7 f I);simp only [Nat.add_zero] at d;exact ⟨_,_,rfl,d,e.store t i f x (by omega) K u _ rfl (by simp;omega)⟩
   .cases h
  .cases h
 | _=>simp [qb1] at h
end Go.E2
/- E2: new rows, loads, stores, appends against the model's. -/
namespace Go.E2
open Go
mutual
theorem qkp (G:qe) (w:World):∀ (n:Nat) (v:Value) (x:V),qoq n v=some x->Rel G w x v
 | 0,_,_,h=>by simp [qoq] at h
 | n+1,v,x,h=>by
  unfold qoq at h;split at h<;>try (cases h;done)
  all_goals try (cases h;simp [Rel];done)
  .simp only [zI,zM] at h;obtain ⟨a,b,c,d,rfl⟩:=h;simp only [Rel,qlk];exact ⟨_,_,_,rfl,rfl,qko G w n _ _ b,qko G w n _ _ d⟩
  .simp only [zM] at h;obtain ⟨y,b,rfl⟩:=h;simp only [Rel];exact ⟨_,rfl,qkp G w n _ _ b⟩
  .simp only [zM] at h;obtain ⟨y,b,rfl⟩:=h;simp only [Rel];exact ⟨_,rfl,qko G w n _ _ b⟩
  .simp only [zM] at h;obtain ⟨y,b,rfl⟩:=h;simp only [Rel];exact ⟨_,rfl,qko G w n _ _ b⟩
theorem qko (G:qe) (w:World):∀ (n:Nat) (l:List Value) (x:List V),q7m n l=some x->qi G w x l
 | 0,_,_,h=>by simp [q7m] at h
 | n+1,l,x,h=>by
  unfold q7m at h;split at h
  .cases h;exact qi.nil
  .simp only [zI,zM] at h;obtain ⟨a,b,c,d,rfl⟩:=h;exact qi.cons (qkp G w n _ _ b) (qko G w n _ _ d)
end
theorem qgn {G:qe} {w:World} {v:V} {x:Value} (h:Rel G w v x):qi G w v.cells x.cells.toList:=by
 cases v with
 | agg cs=>
  simp only [Rel] at h;obtain ⟨a,rfl,b⟩:=h;simpa [V.cells,Value.cells] using b
 | _=>
  have c:x.cells = #[x]:=by
   have:=h.j7;cases x with
   | agg a=>
    exfalso
    first
     | (simp only [V.j7,Value.oneCell',reduceCtorEq] at this;done)
     | (simp only [Rel] at h;obtain ⟨a,d,b⟩:=h;cases d;done)
   | _=>rfl
  rw [c];simp only [V.cells];exact qi.cons h qi.nil
theorem qo {P:Program} {t:Nat} {ti:TI} (h:typeOf P t=some ti) :
  P.underlying t=some ti.under/\ti.isAgg=zmj ti.under/\∃ i z,P.info? t=some i/\i.size=ti.size/\i.bytes=ti.bytes/\i.zero=some z/\qoq 1000 z=some ti.zero/\
   ti.zero.cells.length=ti.size/\z.cells.size=ti.size:=by
 unfold typeOf at h;split at h
 .rename_i i u hi d;simp only [zI,cond_eq_ite,Nat.beq_eq] at h;obtain ⟨z,⟨e,f,b⟩,a⟩:=h;split at a
  .rename_i c;cases a;refine ⟨d,rfl,i,e,hi,rfl,rfl,f,b,c,?_⟩;have:=(qgn (qkp (λ_ _=>none) default _ _ _ b)).length;simpa [c] using this.symm
  .cases a
 .cases h
section
variable {P:Program}
theorem ku {t:Nat} {ti:TI} (h:typeOf P t=some ti) (w:World):(sizeOf t).run P w=.ok ti.size w:=by
 obtain ⟨_,_,i,z,hi,a,_⟩:=qo h;simp [sizeOf,typeInfo,hi,a]
theorem qe4 {t:Nat} {ti:TI} (h:typeOf P t=some ti) (w:World):∃ z,(zeroValue t).run P w=.ok z w/\(P.info? t).bind (·.zero)=some z/\∀ G w,Rel G w ti.zero z:=by
 obtain ⟨_,_,i,z,hi,_,_,a,b,_⟩:=qo h;exact ⟨z,by simp [zeroValue,typeInfo,hi,a],by simp [hi,a],λG w=>qkp G w _ _ _ b⟩
theorem qr6 {t:Nat} {ti:TI} (h:typeOf P t=some ti) (w:World):(isAgg t).run P w=.ok ti.isAgg w:=by
 obtain ⟨a,b,_⟩:=qo h;simp only [isAgg,Sem.run_bind,run_underlying a,Result.andThen_ok,b];cases ti.under<;>rfl
theorem Step.same {H:Heap} {G:qe} {w w':World} (h:Sim H G w) (e:w'.heap=w.heap) (c:w'.os=w.os/\w'.output=w.output):Step H G w H G w':=by
 have a:Ext H.ro G w G w':=⟨λ_ _ _ h=>h,λb _ d=>⟨by rw [e],d⟩,by rw [e];exact zN _,λb x f=>by simpa only [World.shape?,e] using f,λ_ _ _ _ _ _ _=>by rw [e],c⟩;refine ⟨a,⟨λnm g b i n j=>by rw [e];exact h.lt nm g b i n j,h.inj,λnm o k l=>(h.obj nm o k l).ext a (λ_ _ h=>h) (λ_ _ _ _ _=>by rw [e]),h.ro,h.zf,h.globs⟩,zN _,rfl,rfl,λ_ _=>rfl,λ_ _ _ h _=>h,λ_ _ h=>⟨h,λ_ _ _ _ _=>by rw [e],λ_ _ h=>h⟩⟩
theorem Rel.same {G:qe} {w w':World} (e:w'.heap=w.heap) {v:V} {x:Value} (h:Rel G w v x):Rel G w' v x:=
 Rel.up ⟨λ_ _ _ h=>h,λb x a=>by simpa only [World.shape?,e] using a⟩ h
theorem qi.same {G:qe} {w w':World} (e:w'.heap=w.heap) {v:List V} {x:List Value} (h:qi G w v x):qi G w' v x:=
 qi.up ⟨λ_ _ _ h=>h,λb x a=>by simpa only [World.shape?,e] using a⟩ h
theorem kl.same {G:qe} {w w':World} (e:w'.heap=w.heap) {v:List V} {x:List Value} (h:kl G w v x):kl G w' v x:=
 kl.up ⟨λ_ _ _ h=>h,λb x a=>by simpa only [World.shape?,e] using a⟩ h
theorem Sim.newRow {H:Heap} {G:qe} {w:World} (f:Sim H G w) {cells:List V} {l:List Value} (j:qi G w cells l) (rest:List Value) (elem:TypeId) (exact:Bool) (m:exact=true->rest=[]) :
  Step H G w (H.new (.row cells elem 0 0 0 exact)) (qh0 G H.next 0 (w.heap.size,0,cells.length)) (push w (.cells (l++rest).toArray elem)):=by
 refine f.new _ _ _ (λa=>?_);refine ⟨zN _,λ_=>rfl,λg b p n d=>?_⟩;simp only [qh0] at d;by_cases h:g=0
 .rw [zT ⟨trivial,h⟩] at d;cases d;subst h;have k:=j.length;refine ⟨zN _,Nat.zero_le _,zN _,λ_=>rfl,λ_=>rfl,λ_=>⟨(l++rest).toArray,(0,0),qda _ _,by simp;omega,?_,λ_ i _ o=>by simp at o,λe=>by simp [m e,k]⟩⟩;have:(l++rest).toArray.toList.take (cells.length-0)=l:=by simp [k]
  rw [this];simpa using (qi.ext a j).c
 .rw [zF (λx=>h x.2),f.fresh] at d;simp at d
theorem zc2 {G:qe} {nm b n:Nat} {w':World}:Rel (qh0 G nm 0 (b,0,n)) w' (.ptr nm 0 0 n) (.pointer (some ⟨b,0,none⟩)):=by
 simp only [Rel];exact ⟨b,0,n,qc7 _ _ _ _,zN _,zN _,rfl⟩
theorem qm1 {w:World} {arr:Array Value} {e:TypeId}:(push w (.cells arr e)).shape? w.heap.size=some (e,arr.size):=by
 simp only [World.shape?,qda]
theorem qk5 {H:Heap} {G:qe} {w:World} (n:Sim H G w) {t:Nat} {ti:TI} (j:typeOf P t=some ti) {p v:V} {k:Value} (o:Rel G w p k) (h:qjk H ti p=some v) :
  ∃ x a,k=.pointer (some a)/\(loadVar t a).run P w=.ok x w/\Rel G w v x:=by
 simp only [qjk,zI] at h;obtain ⟨cs,q,e⟩:=h;obtain ⟨a,l,rfl,f,d,r⟩:=qf9 n o q;have g:=d.length;simp only [loadVar,Sem.run_bind,qr6 j,Result.andThen_ok];cases b:ti.isAgg with
 | true=>
  simp only [b,zO,zS] at e;subst e;have c:=f.run P;rw [<-g,r] at c;refine ⟨.agg l.toArray,a,rfl,by simp [ku j,c],?_⟩;simp only [Rel];exact ⟨_,rfl,by simpa using d⟩
 | false=>
  simp only [b,zQ] at e;split at e
  .rename_i u;cases e;have i:=d.length
   match l,d,f,i with
   | [x],d,f,_=>
    rw [qi.q74] at d;have m:=f 0 x rfl;simp only [Addr.add_zero'] at m;refine ⟨x,a,rfl,?_,d.1⟩;simp only [Bool.false_eq_true,if_false];rw [run_load,m]
  .cases e
theorem zaq {H H':Heap} {G:qe} {w:World} (g:Sim H G w) {t:Nat} {ti:TI} (i:typeOf P t=some ti) {p v:V} {e x:Value} (j:Rel G w p e) (k:Rel G w v x) (h:qjg H ti p v=some H') :
  ∃ a w',e=.pointer (some a)/\(storeVar t a x).run P w=.ok () w'/\Step H G w H' G w':=by
 simp only [qjg,cond_eq_ite,Nat.beq_eq] at h;split at h
 .rename_i l;have b:=qgn k;obtain ⟨a,w',rfl,d,c⟩:=qm6 g j b h P;have f:=b.length;simp only [Array.length_toList] at f;refine ⟨a,w',rfl,?_,c⟩;simp [storeVar,ku i,<-f,l,d]
 .cases h
end
end Go.E2
/- E2: append against the model's. -/
namespace Go.E2
open Go
section
variable {P:Program}
theorem q5m {H:Heap} {G:qe} {w:World} (u:Sim H G w) {sz n:Nat} {x:V} {rx:Value} {cs:List V} (i:Rel G w x rx) (h:qcm H sz x=some (n,cs)) :
  ∃ l,qi G w cs l/\cs.length=n * sz/\∀ w',w'.heap=w.heap->(Builtin.lenOf rx).run P w'=.ok n w'/\(Builtin.firstCells sz n rx).run P w'=.ok l.toArray w':=by
 cases x with
 | nils=>
  simp only [qcm,zS,zP] at h;obtain ⟨rfl,rfl⟩:=h;simp only [Rel] at i;subst i;exact ⟨[],qi.nil,by simp,λw' _=>⟨by simp [Builtin.lenOf],by simp [Builtin.firstCells]⟩⟩
 | slice nm g off len y cap=>
  simp only [qcm,cond_eq_ite,Nat.beq_eq] at h;split at h
  .rename_i p;subst p;simp only [zM,zP] at h;obtain ⟨z,A,rfl,rfl⟩:=h;simp only [Rel] at i;obtain ⟨b,o,m,ro,c,e,L,ad,q,rfl,j,M,B,C,d,N,O,Q⟩:=i;have D:Rel G w (.ptr nm g off (off+len * sz)) (.pointer (some ⟨b,off-o,none⟩)):=by
    simp only [Rel];exact ⟨b,o,m,q,B,C,rfl⟩
   obtain ⟨a,l,E,F,v,r⟩:=qf9 u D A;cases E;have t:=v.length;refine ⟨l,v,r,λw' k=>⟨by simp [Builtin.lenOf],?_⟩⟩;simp only [Builtin.firstCells];have d:(ro+o=off/\ad=⟨b,ro,none⟩)∨c=0:=by
    rcases d with d | d
    .rcases j with j | j
     .exact .inr j
     .exact .inl ⟨d,j⟩
    .exact .inr d
   rcases d with ⟨d,rfl⟩ | d
   .have:ro=off-o:=by omega
    subst this;have f:=(F.of_heap k).run P;rw [<-t,r] at f;exact f
   .have I:len=0:=by omega
    subst I;simp only [Nat.zero_mul] at r;have:l=[]:=List.length_eq_zero_iff.1 (by omega);subst this;simp [loadCells,loadCellsFrom]
  .cases h
 | str s=>
  simp only [qcm,cond_eq_ite,Nat.beq_eq] at h;split at h
  .rename_i J;subst J;simp only [zS,zP] at h;obtain ⟨rfl,rfl⟩:=h;simp only [Rel] at i;subst i;refine ⟨s.map λb=>.int .u8 b.toNat,?_,by simp,λw' k=>⟨by simp [Builtin.lenOf,ByteArray.size],?_⟩⟩
   .clear u
    induction s with
    | nil=>exact qi.nil
    | cons a s K=>exact qi.cons (by simp [Rel]) K
   .have q:(ByteArray.extract ⟨s.toArray⟩ 0 s.length)=(⟨s.toArray⟩:ByteArray):=by
     have:=ByteArray.extract_zero_size (b:=⟨s.toArray⟩);simpa [ByteArray.size] using this
    simp [Builtin.firstCells,q]
  .cases h
 | _=>simp [qcm] at h
theorem qo0 {H:Heap} {G:qe} {w:World} (a:Sim H G w) {sz n:Nat} {x:V} {rx:Value} {cs:List V} (b:Rel G w x rx) (h:k7 H sz x=some (n,cs)) :
  ∃ l,qi G w cs l/\cs.length=n * sz/\∀ w',w'.heap=w.heap->(Builtin.lenOf rx).run P w'=.ok n w'/\(Builtin.firstCells sz n rx).run P w'=.ok l.toArray w':=
 q5m a (b.qd1 sz) h
theorem qrm {H:Heap} {sz nm g off len z n:Nat} {cap:Option Nat} {cs:List V} (h:k7 H sz (.slice nm g off len z cap)=some (n,cs)):n=len:=by
 unfold k7 at h;rcases V.qe3 (nm:=nm) (g:=g) (off:=off) (len:=len) (z:=z) (sz:=sz) (cap:=cap) with e | ⟨_,e⟩
 all_goals
  rw [e] at h;simp only [qcm,cond_eq_ite,Nat.beq_eq] at h;split at h
  .simp only [zM,zP] at h;obtain ⟨_,_,h,_⟩:=h;exact h.symm
  .cases h
theorem run_append_fits {w w':World} {t u ty e:TypeId} {c:TypeDesc} {i:TypeInfo} (h:P.underlying t=some (.slice e)) (hu:P.underlying u=some c) (d:(∃ j,c=.slice j)∨c=.string)
  (hi:P.info? e=some i) {base:Option Addr} {sLen sCap n:Nat} {x:Value} {l:List Value} (hlen:(Builtin.lenOf x).run P w=.ok n w) (k:(Builtin.firstCells i.size n x).run P w=.ok l.toArray w)
  (b:sLen+n<=sCap) (f:∀ a,base=some a->(storeCells (a.add (sLen * i.size)) l).run P w=.ok () w') (g:base=none->w'=w) :
  (Builtin.append_ #[t,u] ty #[.slice base sLen sCap,x]).run P w=.ok (.slice base (sLen+n) sCap) w':=by
 rcases d with ⟨j,rfl⟩ | rfl
 all_goals
  cases base with
  | none=>
   have:=g rfl;subst this;simp [Builtin.append_,run_underlying h,run_underlying hu,sizeOf,typeInfo,hi,hlen,k,b]
  | some a=>
   simp [Builtin.append_,run_underlying h,run_underlying hu,sizeOf,typeInfo,hi,hlen,k,b,f a rfl]
theorem qii {w:World} {t u ty e:TypeId} {c:TypeDesc} {i:TypeInfo} {z:Value} (h:P.underlying t=some (.slice e)) (hu:P.underlying u=some c) (d:(∃ g,c=.slice g)∨c=.string)
  (hi:P.info? e=some i) (f:i.zero=some z) {base:Option Addr} {sLen sCap n:Nat} {x:Value} {l old:List Value}
  (hlen:∀ w',w'.heap=w.heap->(Builtin.lenOf x).run P w'=.ok n w'/\(Builtin.firstCells i.size n x).run P w'=.ok l.toArray w')
  (hold:∀ w',w'.heap=w.heap->(Builtin.firstCells i.size sLen (.slice base sLen sCap)).run P w'=.ok old.toArray w')
  (j:sCap<sLen+n) (k:(sLen+n) * i.bytes<=room) (hm:sLen+n<=room) :
  ∃ (w1:World) (C:Nat) (rest:List Value),w1.heap=w.heap/\(w1.os=w.os/\w1.output=w.output)/\sLen+n<=C/\rest.length=(C-(sLen+n)) * z.cells.size/\
  (Builtin.append_ #[t,u] ty #[.slice base sLen sCap,x]).run P w=.ok (.slice (some ⟨w.heap.size,0,none⟩) (sLen+n) C) (push w1 (.cells ((old++l)++rest).toArray e)):=by
 have m:¬ (sLen+n<=sCap):=by omega
 have a:¬ (9223372036854775807<((sLen:Int)+(n:Int))):=by unfold room at hm;omega
 have o:=growslice_fits (bytes:=i.bytes) j k;have b:¬ (281474976710656<Builtin.nextslicecap (sLen+n) sCap * i.bytes):=by omega
 have p:=hlen w rfl;have q:=(hlen w.drew rfl).2;have r:=hold w.drew rfl;refine ⟨w.drew,grownCap w (sLen+n) sCap e,(Builtin.zeroCells z.cells (grownCap w (sLen+n) sCap e-(sLen+n))).toList,rfl,⟨rfl,rfl⟩,grownCap_ge w _ _ _,by simp [Builtin.zeroCells],?_⟩;have s:∀ (A:Array Value),((old++l)++A.toList).toArray=old.toArray++l.toArray++A:=by intro A;apply Array.ext';simp
 rw [s];rcases d with ⟨g,rfl⟩ | rfl
 all_goals
  simp [Builtin.append_,run_underlying h,run_underlying hu,sizeOf,typeInfo,zeroValue,hi,f,p.1,m,a,b,Question.forced,newRow,q,r,grownCap];show w.drew.alloc _=w.drew.alloc _;congr 2;apply Array.ext';simp
theorem Step.q0c {H:Heap} {G:qe} {w w1:World} (a:Sim H G w) (e:w1.heap=w.heap) (b:w1.os=w.os/\w1.output=w.output) {H':Heap} {c:qe} {w':World} (h:∀ (_:Sim H G w1),Step H G w1 H' c w'):Step H G w H' c w':=
 (Step.same a e b).trans (h (Step.same a e b).sim)
theorem q1f {H H':Heap} {c:List V} {nm g off lim:Nat} (h:qb1 H c (.ptr nm g off lim)=some H') {cells:List V} {elem:TypeId} {gen floor a:Nat} {exact:Bool}
  (d:H.get nm=some (.row cells elem gen floor a exact)):g=gen/\off+c.length<=lim/\lim<=cells.length:=by
 simp only [qb1,d,cond_eq_ite,zA,Nat.ble_eq,Nat.beq_eq] at h;split at h
 .rename_i b;exact ⟨b.1.1.1.1,b.1.1.1.2,b.1.1.2⟩
 .cases h
theorem qo6 {z:Value} {size a C:Nat} {rest cells:List Value} (b:z.cells.size=size) (c:rest.length=(C-a) * z.cells.size) (d:cells.length=a * size) (e:a<=C) :
  0+C * size<=(cells++rest).toArray.size:=by
 simp only [List.size_toArray,List.length_append,c,d,b,Nat.zero_add];rw [<-Nat.add_mul];exact zU _ (by omega)
section grow
variable {H:Heap} {G:qe} {w:World} {nm g b sh m:Nat}
theorem q29 (b:Sim H G w) {cells:List V} {e:TypeId} {floor a:Nat} {exact:Bool} (d:H.get nm=some (.row cells e g floor a exact)):G nm (g+1)=none:=by
 cases c:G nm (g+1) with
 | none=>rfl
 | some x=>
  obtain ⟨h,i,j⟩:=x;obtain ⟨k,l,f⟩:=b.obj nm _ (b.lt _ _ _ _ _ c).2 d;have:=(f _ _ _ _ c).1;omega
theorem q7n (h:G nm (g+1)=none) (x:Nat×Nat×Nat) (a b:Nat) (y) (c:G a b=some y):qh0 G nm (g+1) x a b=some y:=by
 simp only [qh0];by_cases d:a=nm/\b=g+1
 .rw [d.1,d.2,h] at c;cases c
 .rw [zF d];exact c
theorem q2l (x:Nat×Nat×Nat) (a d:Nat) (y) (b:qh0 G nm (g+1) x a d=some y) (c:a≠nm):G a d=some y:=by
 simp only [qh0] at b;rw [zF (λq=>c q.1)] at b;exact b
theorem qh1 (x:Nat×Nat×Nat) (b:Nat) (y) (a:qh0 G nm (g+1) x nm b=some y):(b=g+1/\y=x)∨G nm b=some y:=by
 simp only [qh0] at a;by_cases c:b=g+1
 .rw [zT ⟨trivial,c⟩] at a;cases a;exact .inl ⟨c,rfl⟩
 .rw [zF (λq=>c q.2)] at a;exact .inr a
theorem Sim.zvx (o:Sim H G w) {cells items:List V} {e:TypeId} {floor v:Nat} {exact:Bool} (I:H.get nm=some (.row cells e g floor v exact)) (s:G nm g=some (b,sh,m))
  {l:List Value} (S:qi G w items l) {arr arr':Array Value} {fz:Nat×Nat} (D:w.heap[b]? = some (.cells arr e fz))
  (f:arr'.toList=arr.toList.take (m-sh)++l++arr.toList.drop (m-sh+l.length)) (p:arr'.size=arr.size) (T:m-sh+l.length<=arr.size) (J:H.ro<=nm) :
  Step H G w {H with qbq:=H.qbq.set nm (.row (cells++items) e (g+1) floor v false)} (qh0 G nm (g+1) (b,sh,m+items.length)) (w.setRow b arr'):=by
 obtain ⟨q1,q0,U⟩:=o.obj nm _ (o.lt _ _ _ _ _ s).2 I;obtain ⟨r1,r2,r3,r4,a6,r5⟩:=U g b sh m s;obtain ⟨W,a7,y,a2,X,a4,a5⟩:=r5 q1;rw [D] at y;cases y;have hm:=r4 rfl;have a8:=S.length;have z:=o.lt _ _ _ _ _ s;have i:=setRow_heap w b arr arr' e fz D;have j:(w.setRow b arr').heap.size=w.heap.size:=by unfold World.setRow;simp
 have A:=q29 o I;refine o.turn nm _ (λK=>qw8 K) (zN _) (λ_ h _=>h) rfl rfl J z.2 (.inr (by rw [I];simp)) (q7n A _) (q2l _) (by rw [j];exact zN _) (λL t B u r=>?_) (λg1 E Y n1 g2 Z n2 h1 h2 aa=>?_)
  (λt ab n=>qex (λq=>n g sh m (q ▸ s))) (λt x F=>?_) (λa=>?_)
 .rcases qh1 _ _ _ r with ⟨rfl,d⟩ | d
  .cases d;exact ⟨by rw [j];exact z.1,.inr ⟨_,_,s⟩⟩
  .exact ⟨by rw [j];exact (o.lt _ _ _ _ _ d).1,.inr ⟨_,_,d⟩⟩
 .rcases qh1 _ _ _ h1 with ⟨rfl,d⟩ | d
  .cases d;omega
  .have:=(o.lt _ _ _ _ _ d).1;omega
 .by_cases k:t=b
  .subst k;simp only [World.shape?,D,i,p] at F ⊢;exact F
  .simp only [World.shape?,qex k] at F ⊢;exact F
 .refine ⟨by omega,by simp,λL t B u r=>?_⟩;rcases qh1 _ _ _ r with ⟨rfl,d⟩ | d
  .cases d;refine ⟨zN _,by omega,by simp;omega,λ_=>by simp;omega,by simp,λ_=>⟨arr',fz,i,by omega,?_,λ_=>a4 rfl,by simp⟩⟩;rw [List.take_of_length_le (by simp;omega),f,List.drop_append_of_le_length (by omega)];have M:(arr.toList.take (m-sh)++l++arr.toList.drop (m-sh+l.length)).take (m+items.length-sh)=arr.toList.take (m-sh)++l:=by
    rw [List.take_append_of_le_length (by simp;omega),List.take_of_length_le (by simp;omega)]
   rw [M];rw [List.take_of_length_le (by omega)] at X;exact (kl.ext a X).append (qi.ext a S).c
  .obtain ⟨Y,Z,s3,s4,ad,s5⟩:=U L t B u d;refine ⟨by omega,Z,by simp;omega,λq=>by omega,by simp,λN=>?_⟩;obtain ⟨C,O,E,b2,b3,b4,b5⟩:=s5 N;rw [List.take_append_of_le_length s3];have P:u-sh<=m-sh:=Nat.sub_le_sub_right (by rw [hm];exact s3) sh;have n:L≠g+1:=Nat.ne_of_lt (Nat.lt_succ_of_le Y);have Q:u-sh<=(arr.toList.take (m-sh)).length:=by rw [List.length_take,Array.length_toList];exact Nat.le_min.2 ⟨P,zR P a2⟩
   by_cases k:t=b
   .subst k;have R:=(o.inj _ _ _ _ _ _ _ _ _ s d).2;subst R;rw [D] at E;cases E;refine ⟨arr',fz,i,by rw [p];exact b2,?_,λq=>absurd q n,by simp⟩;have M:arr'.toList.take (u-sh)=arr.toList.take (u-sh):=by
     rw [f,List.append_assoc,List.take_append_of_le_length Q,List.take_take,Nat.min_eq_left P]
    rw [M];exact kl.ext a b3
   .exact ⟨C,O,(qex k).trans E,b2,kl.ext a b3,λq=>absurd q n,by simp⟩
theorem Sim.zrp (d:Sim H G w) {cells items:List V} {e:TypeId} {floor k off:Nat} {exact:Bool} (u:H.get nm=some (.row cells e g floor k exact)) (D:nm<H.next)
  {l ol:List Value} (E:qi G w items l) (m:kl G w (cells.drop off) ol) (n:off<=cells.length) (rest:List Value) (v:H.ro<=nm) :
  Step H G w {H with qbq:=H.qbq.set nm (.row (cells++items) e (g+1) floor k false)} (qh0 G nm (g+1) (w.heap.size,off,cells.length+items.length)) (push w (.cells ((ol++l)++rest).toArray e)):=by
 obtain ⟨Y,Z,M⟩:=d.obj nm _ D u;have N:=E.length;have o:=m.length;simp only [List.length_drop] at o;have p:=q29 d u;refine d.turn nm _ (λy=>qw8 y) (zN _) (λ_ h _=>h) rfl rfl v D (.inr (by rw [u];simp)) (q7n p _) (q2l _) (by rw [size_push];omega) (λF t r I f=>?_) (λg1 J K n1 g2 L n2 O z P=>?_)
  (λt A _=>qnk A) (λt x Q=>q0r Q) (λb=>?_)
 .rcases qh1 _ _ _ f with ⟨rfl,a⟩ | a
  .cases a;exact ⟨by rw [size_push];omega,.inl (zN _)⟩
  .exact ⟨by rw [size_push];have:=(d.lt _ _ _ _ _ a).1;omega,.inr ⟨_,_,a⟩⟩
 .rcases qh1 _ _ _ O with ⟨rfl,a⟩ | a
  .rcases qh1 _ _ _ z with ⟨rfl,j⟩ | j
   .cases a;cases j;rfl
   .have:=(d.lt _ _ _ _ _ j).1;omega
  .have:=(d.lt _ _ _ _ _ a).1;omega
 .refine ⟨by omega,by simp,λF t r I f=>?_⟩;rcases qh1 _ _ _ f with ⟨rfl,a⟩ | a
  .cases a;refine ⟨zN _,by omega,by simp,λ_=>by simp,by simp,λ_=>⟨_,(0,0),qda _ _,by simp;omega,?_,λ_ i _ z=>by simp at z,by simp⟩⟩;rw [List.take_of_length_le (by simp),List.drop_append_of_le_length n];have R:(((ol++l)++rest).toArray.toList).take (cells.length+items.length-off)=ol++l:=by
    simp only [];rw [List.take_append_of_le_length (by simp;omega),List.take_of_length_le (by simp;omega)]
   rw [R];exact (kl.ext b m).append (qi.ext b E).c
  .obtain ⟨K,L,S,s4,T,U⟩:=M F t r I a;refine ⟨by omega,L,by simp;omega,λq=>by omega,by simp,λB=>?_⟩;obtain ⟨s,C,J,W,X,b4,b5⟩:=U B;rw [List.take_append_of_le_length S];exact ⟨s,C,(qnk (d.lt _ _ _ _ _ a).1).trans J,W,kl.ext b X,λq=>absurd q (Nat.ne_of_lt (Nat.lt_succ_of_le K)),by simp⟩
end grow
theorem zht {H:Heap} {G:qe} {w:World} (s:Sim H G w) {nm g off len sz gen floor n:Nat} {cap:Option Nat} {rx:Value} {cells:List V} {e:TypeId} {exact:Bool} (q:Rel G w (.slice nm g off len sz cap) rx)
  (t:H.get nm=some (.row cells e gen floor n exact)) (u:floor<=g) (v:off+len * sz=cells.length) :
  ∃ r,kl G w (cells.drop off) r/\(cells.drop off).length=len * sz/\∀ w',w'.heap=w.heap->(Builtin.firstCells sz len rx).run P w'=.ok r.toArray w':=by
 simp only [Rel] at q;obtain ⟨b,j,m,ro,c,F,I,ad,x,rfl,h,J,y,z,d,K,L,M⟩:=q;have A:Rel G w (.ptr nm g off (off+len * sz)) (.pointer (some ⟨b,off-j,none⟩)):=by
  simp only [Rel];exact ⟨b,j,m,x,y,z,rfl⟩
 obtain ⟨a,l,B,C,o,k⟩:=q14 s A t u (zN _) (Nat.le_of_eq v);cases B;have i:=o.length;have D:(cells.drop off).take (len * sz)=cells.drop off:=List.take_of_length_le (by simp;omega);rw [D] at o k i;refine ⟨l,o,k,λw' p=>?_⟩;simp only [Builtin.firstCells];have d:(ro+j=off/\ad=⟨b,ro,none⟩)∨c=0:=by
  rcases d with d | d
  .rcases h with h | h
   .exact .inr h
   .exact .inl ⟨d,h⟩
  .exact .inr d
 rcases d with ⟨d,rfl⟩ | d
 .have:ro=off-j:=by omega
  subst this;have f:=(C.of_heap p).run P;rw [<-i,k] at f;exact f
 .have E:len=0:=by omega
  subst E;simp only [Nat.zero_mul] at k;have:l=[]:=List.length_eq_zero_iff.1 (by omega);subst this;simp [loadCells,loadCellsFrom]
theorem q1p {H:Heap} {G:qe} {w:World} (F:Sim H G w) {t u ty e:Nat} {X:TypeDesc} {i:TypeInfo} {z:Value} (ht:P.underlying t=some (.slice e)) (hu:P.underlying u=some X) (I:(∃ O,X=.slice O)∨X=.string)
  (hi:P.info? e=some i) (Y:i.zero=some z) (Z:z.cells.size=i.size) {nm g off len n b f m ro c O Q floor v:Nat} {ad:Addr} {exact:Bool} {cells items:List V} {rx:Value} {l:List Value}
  (ho:H.get nm=some (.row cells e g floor v exact)) (E:G nm g=some (b,f,m)) (R:qi G w items l) (J:items.all V.j7=true) (ag:items.length=n * i.size)
  (o:∀ w',w'.heap=w.heap->(Builtin.lenOf rx).run P w'=.ok n w'/\(Builtin.firstCells i.size n rx).run P w'=.ok l.toArray w')
  (hold:∃ S,kl G w (cells.drop off) S/\(cells.drop off).length=len * i.size/\∀ w',w'.heap=w.heap->(Builtin.firstCells i.size len (.slice (some ad) len c)).run P w'=.ok S.toArray w')
  (T:c=0∨ad=⟨b,ro,none⟩) (hn:n≠0) (c2:off+len * i.size=cells.length) (c3:v<=cells.length) (e2:len<=c) (e3:f<=off) (U:ro+f=off∨c=0) (e7:w.shape? b=some (O,Q)) (e8:ro+c * i.size<=Q)
  (y:(len+n) * i.bytes<=room) (A:len+n<=room) (u1:H.ro<=nm) :
  ∃ rv w' G',(Builtin.append_ #[t,u] ty #[.slice (some ad) len c,rx]).run P w=.ok rv w'/\
   Step H G w {H with qbq:=H.qbq.set nm (.row (cells++items) e (g+1) floor v false)} G' w'/\Rel G' w' (.slice nm (g+1) off (len+n) i.size none) rv:=by
 have p:=F.obj nm _ (F.lt _ _ _ _ _ E).2 ho;have hm:m=cells.length:=(p.2.2 g b f m E).2.2.2.1 rfl;have ah:f<=m:=(p.2.2 g b f m E).2.1;obtain ⟨q,fz,a1,a2,_,a4,_⟩:=(p.2.2 g b f m E).2.2.2.2.2 p.1;clear p;have ab:(len+n) * i.size=len * i.size+n * i.size:=Nat.add_mul _ _ _;have a6:=F.lt _ _ _ _ _ E;have ae:=R.length;have W:Q=q.size:=by
  simp only [World.shape?,a1,zS,zP] at e7;exact e7.2.symm
 by_cases r:len+n<=c
 .clear y A;obtain rfl:ad=⟨b,ro,none⟩:=by
   rcases T with T | T
   .omega
   .exact T
  have K:ro=off-f:=by rcases U with U | U<;>omega
  have af:(len+n) * i.size<=c * i.size:=zU _ r;have L:off-f+len * i.size=m-f:=by omega
  have B:m-f+l.length<=q.size:=by omega
  have M:=qfu P b (m-f) e fz l 0 q w a1 (λj hj _ f2=>a4 rfl j (by omega) f2) (by omega) (qi.j7 R J);simp only [Nat.add_zero] at M;have d:=F.zvx ho E R (arr':=(q.toList.take (m-f)++l++q.toList.drop (m-f+l.length)).toArray) a1 rfl (by simp;omega) B u1;refine ⟨_,_,_,run_append_fits ht hu I hi (o w rfl).1 (o w rfl).2 r (λa ha=>?_) (λh=>by cases h),d,?_⟩
  .cases ha;rw [qes,K,L];exact M
  .have a7:=d.ext.shp _ _ e7;simp only [Rel];exact ⟨b,f,m+items.length,ro,c,O,Q,_,qc7 _ _ _ _,rfl,.inr rfl,r,e3,by omega,U,(λk hk=>by cases hk),a7,e8⟩
 .obtain ⟨S,o1,o2,o3⟩:=hold;obtain ⟨w1,C,rest,s,a8,hC,D,hr⟩:=qii (w:=w) (ty:=ty) ht hu I hi Y (base:=some ad) (sLen:=len) (sCap:=c) (x:=rx) (l:=l) (old:=S) o o3 (by omega) y A;clear y A;have d:=Step.q0c F s a8 (λaa=>aa.zrp ho a6.2 (qi.same s R) (kl.same s o1) (by omega) rest u1);have N:w1.heap.size=w.heap.size:=by rw [s]
  refine ⟨_,_,_,hr,d,?_⟩;have ai:=o1.length;simp only [Rel];exact ⟨w1.heap.size,off,cells.length+items.length,0,C,e,_,⟨w1.heap.size,0,none⟩,qc7 _ _ _ _,by rw [N],.inr rfl,hC,zN _,by omega,.inl (by omega),(λk hk=>by cases hk),qm1,qo6 Z D (by simp;omega) hC⟩
theorem q1q {H H':Heap} {G:qe} {w:World} (A:Sim H G w) {t u ty e:Nat} {du:TypeDesc} {j:TI} (X:P.underlying t=some (.slice e)) (hu:P.underlying u=some du) (y:(∃ e',du=.slice e')∨du=.string)
  (he:typeOf P e=some j) {s x v:V} {rs rx:Value} (B:Rel G w s rs) (ae:Rel G w x rx) (h:qbi H e j.size j.bytes s x=some (v,H')) :
  ∃ rv w' G',(Builtin.append_ #[t,u] ty #[rs,rx]).run P w=.ok rv w'/\Step H G w H' G' w'/\Rel G' w' v rv:=by
 obtain ⟨ak,_,i,z,hi,J,K,L,_,_,M⟩:=qo he;simp only [qbi,zI] at h;obtain ⟨⟨n,o⟩,h1,h⟩:=h;obtain ⟨l,hl,N,d⟩:=qo0 A ae h1;have a1:=hl.length;simp only at h;rw [<-J] at d;cases s with
 | nils=>
  simp only [Rel] at B;subst B;simp only [cond_eq_ite,Nat.beq_eq,zA,Nat.ble_eq] at h;split at h
  .rename_i Y;subst Y;cases h;exact ⟨_,w,G,run_append_fits X hu y hi (d w rfl).1 (d w rfl).2 (zN _) (λ_ h=>by cases h) (λ_=>rfl),Step.refl A,by simp [Rel]⟩
  .rename_i Y;split at h
   .rename_i hc;cases h;obtain ⟨w1,C,rest,q,O,Z,p,hr⟩:=qii (w:=w) (ty:=ty) X hu y hi L (base:=none) (sLen:=0) (sCap:=0) (x:=rx) (l:=l) (old:=[]) d (λw' _=>by simp [Builtin.firstCells]) (by omega) (by rw [Nat.zero_add,K];exact hc.1) (by rw [Nat.zero_add];exact hc.2);simp only [Nat.zero_add,List.nil_append] at hr Z p;have f:=Step.q0c A q O (λQ=>Q.newRow (qi.same q hl) rest e false (by simp));have D:w1.heap.size=w.heap.size:=by rw [q]
    refine ⟨_,_,_,hr,f,?_⟩;simp only [Rel];exact ⟨w1.heap.size,0,o.length,0,C,e,_,⟨w1.heap.size,0,none⟩,qc7 _ _ _ _,by rw [D],.inr rfl,Z,zN _,by rw [Nat.zero_add,N];exact zN _,.inl rfl,(λk hk=>by cases hk),qm1,qo6 M p (by omega) Z⟩
   .cases h
 | slice nm g off len a6 cap=>
  have E:=B;simp only [Rel] at B;obtain ⟨b,R,m,ro,c,e',mm,ad,e1,rfl,e0,e2,e3,e4,e5,e6,e7,e8⟩:=B;simp only [cond_eq_ite,Nat.beq_eq,Bool.not_eq_true',zA,Nat.ble_eq,Bool.and_eq_false_iff] at h;split at h
  .cases h
  rename_i S;have S:j.size=a6:=by
   by_cases hq:j.size=a6
   .exact hq
   .exact absurd (by rw [<-Bool.not_eq_true,Nat.beq_eq];exact hq) S
  subst S;split at h
  .rename_i Y;subst Y;cases h;have af:l=[]:=List.length_eq_zero_iff.1 (by rw [<-a1,N];simp);subst af;exact ⟨_,w,G,run_append_fits X hu y hi (d w rfl).1 (d w rfl).2 e2 (λ_ _=>by simp [storeCells]) (λh=>by cases h),Step.refl A,E⟩
  rename_i Y;split at h
  .cases h
  rename_i hb;have hb:(len+n) * j.bytes<=room/\len+n<=room:=by
   constructor<;>(apply Nat.le_of_not_lt;intro al;apply hb)
   .left;rw [<-Bool.not_eq_true,Nat.ble_eq];omega
   .right;rw [<-Bool.not_eq_true,Nat.ble_eq];omega
  split at h
  .cases h
  rename_i F;have F:o.all V.j7=true:=by
   cases hq:o.all V.j7 with
   | true=>rfl
   | false=>exact absurd hq F
  have a7:∀ cs,k7 H j.size (.slice nm g off len j.size cap)=some (len,cs)->∃ ol,qi G w cs ol/\cs.length=len * j.size/\∀ w',w'.heap=w.heap->(Builtin.firstCells i.size len (.slice (some ad) len c)).run P w'=.ok ol.toArray w':=by
   intro cs ag;obtain ⟨ol,o1,o2,o3⟩:=qo0 (P:=P) A E ag;exact ⟨ol,o1,o2,λw' ah=>by rw [J];exact (o3 w' ah).2⟩
  split at h
  .rename_i cells an gen ai ao exact ho;obtain ⟨q1,q0,q2⟩:=A.obj nm _ (A.lt _ _ _ _ _ e1).2 ho;obtain ⟨r1,r2,r3,r4,aq,r5⟩:=q2 g b R m e1;split at h
   .
    rename_i k;obtain ⟨hk,ar⟩:=e6 k rfl;subst hk;split at h
    .rename_i I;simp only [zM,zP] at h;obtain ⟨H1,T,rfl,rfl⟩:=h;have U:c≠0:=by omega
     obtain rfl:ad=⟨b,ro,none⟩:=by
      rcases e0 with e0 | e0
      .exact absurd e0 U
      .exact e0
     have a8:ro=off-R:=by rcases e5 with e5 | e5<;>omega
     obtain ⟨p1,p2,p3⟩:=q1f T ho;have hm:=r4 p1;have aa:(len+n) * j.size=len * j.size+n * j.size:=Nat.add_mul _ _ _;have hp:Rel G w (.ptr nm g (off+len * j.size) (off+(len+n) * j.size)) (.pointer (some ⟨b,off+len * j.size-R,none⟩)):=by
      simp only [Rel];exact ⟨b,R,m,e1,by omega,by omega,rfl⟩
     obtain ⟨a,w',ha,aj,f⟩:=qm6 A hp hl T P;cases ha;refine ⟨_,w',G,run_append_fits X hu y hi (d w rfl).1 (d w rfl).2 I (λa ha=>?_) (λh=>by cases h),f,?_⟩
     .cases ha;rw [qes,J,a8,show off-R+len * j.size=off+len * j.size-R by omega];exact aj
     .refine Rel.ext f.ext ?_;simp only [Rel];exact ⟨b,R,m,ro,c,e',mm,_,e1,rfl,.inr rfl,I,e3,by omega,e5,e6,e7,e8⟩
    .rename_i I;simp only [zM,zP] at h;obtain ⟨⟨r,old⟩,T,rfl,rfl⟩:=h;have W:r=len:=by
      exact qrm T
     subst W;obtain ⟨ol,o1,o2,o3⟩:=a7 old T;obtain ⟨w1,C,rest,q,O,Z,p,hr⟩:=qii (w:=w) (ty:=ty) X hu y hi L (base:=some ad) (sLen:=r) (sCap:=c) (x:=rx) (l:=l) (old:=ol) d o3 (by omega) (by rw [K];exact hb.1) hb.2;have f:=Step.q0c A q O (λQ=>Q.newRow (qi.same q (o1.append hl)) rest e false (by simp));have D:w1.heap.size=w.heap.size:=by rw [q]
     refine ⟨_,_,_,hr,f,?_⟩;have au:=o1.length;have aa:(r+n) * j.size=r * j.size+n * j.size:=Nat.add_mul _ _ _;simp only [Rel];exact ⟨w1.heap.size,0,(old++o).length,0,C,e,_,⟨w1.heap.size,0,none⟩,qc7 _ _ _ _,by rw [D],.inr rfl,Z,zN _,by simp;omega,.inl rfl,(λk hk=>by cases hk),qm1,qo6 M p (by simp;omega) Z⟩
   .
    split at h
    .rename_i hc;obtain ⟨⟨⟨⟨⟨c1,c2⟩,c3⟩,c4⟩,c5⟩,c6⟩:=hc;subst c1;subst c6;have c5:j.size≠0:=by
      intro h0;rw [h0] at c5;simp at c5
     simp only [zM,zP] at h;obtain ⟨H1,T,rfl,rfl⟩:=h;obtain ⟨u1,rfl⟩:=qi9 T;have ab:=zht (P:=P) A E ho q1 c2;rw [<-J] at *;exact q1p A X hu y hi L M ho e1 hl F N d ab e0 Y c2 c3 e2 e3 e5 e7 e8 (by rw [K];exact hb.1) hb.2 u1
    .cases h
  .cases h
 | _=>simp at h
theorem qe8 {H H':Heap} {G:qe} {w:World} (j:Sim H G w) {t u ty e:Nat} {a:TypeDesc} {b:TI} (k:P.underlying t=some (.slice e)) (hu:P.underlying u=some a) (c:(∃ l,a=.slice l)∨a=.string)
  (he:typeOf P e=some b) {s x v:V} {rs rx:Value} (d:Rel G w s rs) (f:Rel G w x rx) (h:qbs H e b.size b.bytes s x=some (v,H')) :
  ∃ g w' i,(Builtin.append_ #[t,u] ty #[rs,rx]).run P w=.ok g w'/\Step H G w H' i w'/\Rel i w' v g:=
 q1q j k hu c he (d.qd1 _) f h
end
end Go.E2
/- E2: single operations against the model's, first part. -/
namespace Go.E2
open Go
def qbr (G:qe) (w:World):List Dfr->List Deferred->Prop
 | [],l=>l=[]
 | d::c,l=>∃ x a,l=x::a/\qbr G w c a/\match d with
  | .mark nm=>∃ b e n,G nm 0=some (b,e,n)/\x = {target:=.collected b,args:=#[]}
structure SimFr (G:qe) (w:World) (fr:Fr) (a:Act):Prop where
 tmps:q1l G w fr.tmps a.tmps
 n:a.tmps.size=fr.n
 dfr:qbr G w fr.defers a.defers
theorem qbr.up {G c:qe} {w w':World} (h:Up G w c w'):∀ {a:List Dfr} {l:List Deferred},qbr G w a l->qbr c w' a l
 | [],_,e=>by simpa [qbr] using e
 | .mark nm::a,_,e=>by
  simp only [qbr] at e ⊢;obtain ⟨x,d,f,g,b,i,n,j,k⟩:=e;exact ⟨x,d,f,qbr.up h g,b,i,n,h.sub _ _ _ j,k⟩
theorem qbr.ext {r:Nat} {G a:qe} {w w':World} (h:Ext r G w a w') {b:List Dfr} {l:List Deferred} (e:qbr G w b l):qbr a w' b l:=qbr.up h.up e
theorem SimFr.ext {r:Nat} {G b:qe} {w w':World} (h:Ext r G w b w') {fr:Fr} {a:Act} (e:SimFr G w fr a):SimFr b w' fr a:=
 ⟨e.tmps.ext h,e.n,e.dfr.ext h⟩
theorem q34 {G:qe} {w:World}:Rel G w je undef:=by
 simp only [je,undef,Rel];exact ⟨#[],rfl,qi.nil⟩
theorem SimFr.put {G:qe} {w:World} {fr:Fr} {a:Act} (e:SimFr G w fr a) (dst:Option Tmp) {v:V} {x:Value} (h:Rel G w v x):SimFr G w (fr.put dst v) (a.put dst x):=by
 cases dst with
 | none=>exact e
 | some d=>
  simp only [Fr.put,Act.put,cond_eq_ite,Nat.blt_eq];by_cases c:d<fr.n
  .rw [zT c];refine ⟨λk u b=>?_,by simp [e.n],e.dfr⟩;simp only [Tree.kv] at b;by_cases f:k=d
   .subst f;have:(a.tmps.setIfInBounds k x).getD k undef=x:=by
     have g:k<a.tmps.size:=by rw [e.n];exact c
     simp [Array.getElem?_setIfInBounds_self_of_lt g]
    rw [zT rfl] at b;cases b;rw [this];exact h
   .rw [zF f] at b;have:(a.tmps.setIfInBounds d x).getD k undef=a.tmps.getD k undef:=by
     simp [Array.getElem?_setIfInBounds_ne (Ne.symm f)]
    rw [this];exact e.tmps k u b
  .rw [zF c];have:a.tmps.setIfInBounds d x=a.tmps:=Array.setIfInBounds_eq_of_size_le (by rw [e.n];exact Nat.le_of_not_lt c);rw [this];exact ⟨e.tmps,e.n,e.dfr⟩
theorem qm3 {G:qe} {w:World} {fr:Fr} {a:Act} (e:SimFr G w fr a) {t:Nat} {v:V} (h:fr.tmp t=some v):Rel G w v (a.tmps.getD t undef):=e.tmps t v h
theorem qz {H:Heap} {G:qe} {w:World} (b:Sim H G w) {fr:Fr} {a:Act} (e:SimFr G w fr a) {x:Operand} {v:V} (h:opd fr H x=some v):Rel G w v (a.eval x):=by
 cases x with
 | tmp t=>exact qm3 e h
 | const c=>exact qkp G w _ _ _ h
 | global g=>
  simp only [opd,cond_eq_ite,Nat.blt_eq] at h;split at h
  .rename_i j;split at h
   .rename_i cells k fl fz ex i;cases h;obtain ⟨n,d⟩:=b.globs g _ j i;have:=(b.obj g _ (b.lt _ _ _ _ _ d).2 i).2.2 0 g 0 n d;simp only [Rel,Act.eval];exact ⟨g,0,n,d,zN _,Nat.le_of_eq (this.2.2.2.1 rfl).symm,rfl⟩
   .cases h
  .cases h
 | func f=>
  simp only [opd,zS] at h;subst h;simp only [Rel,Act.eval,qlk];exact ⟨_,_,_,rfl,rfl,qi.nil,qi.nil⟩
theorem qie {H:Heap} {G:qe} {w:World} (c:Sim H G w) {fr:Fr} {a:Act} (e:SimFr G w fr a):∀ {l:List Operand} {b:List V},qcy fr H l=some b->qi G w b (l.map a.eval)
 | [],b,h=>by simp only [qcy,zS] at h;subst h;exact qi.nil
 | x::l,b,h=>by
  simp only [qcy,zI,zM] at h;obtain ⟨v,d,us,f,rfl⟩:=h;exact qi.cons (qz c e d) (qie c e f)
def zkl (G:qe) (w:World) (c:Tgt) (args:List V) (t:Target) (a:Array Value):Prop:=
 match c with
 | .func f=>∃ cap,t=.fn (.func f) cap/\qi G w args (a.toList++cap.toList)
 | .round l=>∃ cap b d n,t=.fn (.yield b) cap/\G l 0=some (b,d,n)/\qi G w args a.toList
def ja (P:Program) (o:Oper) (a:Act) (H:Heap) (G:qe) (w:World) (H':Heap) (out:Out):Prop:=
 match out with
 | .val v=>∃ x w' c,(execOp a.eval o).run P w=.ok (.value x) w'/\Step H G w H' c w'/\Rel c w' v x
 | .skip=>∃ w' c,(execOp a.eval o).run P w=.ok .skip w'/\Step H G w H' c w'
 | .call d args=>H'=H/\∃ t b,(execOp a.eval o).run P w=(invoke t b).run P w/\zkl G w d args t b
 | .panic v=>H'=H/\∃ x,(execOp a.eval o).run P w=.halt (.panic x) w/\Rel G w v x
section
variable {P:Program} {o:Oper} {a:Act} {H:Heap} {G:qe} {w:World}
theorem ja.pure (b:Sim H G w) {v:V} {x:Value} (h:(execOp a.eval o).run P w=.ok (.value x) w) (c:Rel G w v x):ja P o a H G w H (.val v):=
 ⟨x,w,G,h,Step.refl b,c⟩
end
end Go.E2
/- E2: single operations against the model's, second part: each operation. -/
namespace Go.E2
open Go
section
variable {P:Program} {o:Oper} {a:Act} {H:Heap} {G:qe} {w:World} {fr:Fr}
theorem zfx (c:Sim H G w) (e:SimFr G w fr a) {x:Operand} (b:o.op=.move x∨o.op=.assign x) {v:V} (h:opd fr H x=some v):ja P o a H G w H (.val v):=by
 refine ja.pure c (x:=a.eval x) ?_ (qz c e h);rcases b with b | b<;>simp [execOp,b]
theorem zss (d:Sim H G w) (e:SimFr G w fr a) {c x y:Operand} (g:o.op=.pick c x y) {b:Bool} {v:V} (i:opd fr H c=some (.bool b)) (h:opd fr H (if b then x else y)=some v):ja P o a H G w H (.val v):=by
 have f:=qz d e i;simp only [Rel] at f;have j:=qz d e h;refine ja.pure d (x:=a.eval (if b then x else y)) ?_ j;simp only [execOp,g,f,asBool];cases b<;>simp
theorem q9s (r:Sim H G w) (e:SimFr G w fr a) {x:Operand} (u:o.op=.nilCheck x) {v:V} (h:opd fr H x=some v)
  (j:match v with | .nilp | .nili | .nilf | .func (.method _) _ _=>False | _=>True):ja P o a H G w H (.val v):=by
 have d:=qz r e h;refine ja.pure r (x:=a.eval x) ?_ d;generalize z:a.eval x=rx at d;simp only [execOp,u,z];cases v with
 | func A f c=>
  simp only [Rel] at d;obtain ⟨B,C,D,rfl,i,_⟩:=d;cases A with
  | method n=>exact j.elim
  | yield l=>obtain ⟨b,k,n,_,rfl⟩:=i;simp
  | func g=>simp only [qlk] at i;subst i;simp
  | methodOf t n=>simp only [qlk] at i;subst i;simp
  | via t p f q=>simp only [qlk] at i;subst i;simp
 | ptr nm g off lim=>simp only [Rel] at d;obtain ⟨b,k,n,_,_,_,rfl⟩:=d;simp
 | slice nm g off len sz cap=>simp only [Rel] at d;obtain ⟨b,k,n,ro,c,e,m,_,_,rfl,_⟩:=d;simp
 | iface t y=>simp only [Rel] at d;obtain ⟨s,rfl,_⟩:=d;simp
 | agg cs=>simp only [Rel] at d;obtain ⟨s,rfl,_⟩:=d;simp
 | tuple cs=>simp only [Rel] at d;obtain ⟨s,rfl,_⟩:=d;simp
 | map nm=>simp only [Rel] at d;obtain ⟨b,k,n,_,rfl⟩:=d;simp
 | nilp=>exact j.elim
 | nili=>exact j.elim
 | nilf=>exact j.elim
 | _=>simp only [Rel] at d;subst d;simp
theorem q3u (d:Sim H G w) {v:V} {x:Value} (e:Rel G w v x) {t:TypeId}
  (c:(execOp a.eval o).run P w=.ok (.value (.pointer (some ⟨w.heap.size,0,none⟩))) (push w (.cells x.cells t))):ja P o a H G w (qj7 H v.cells t) (.val (.ptr H.next 0 0 v.cells.length)):=by
 have b:=d.newRow (qgn e) [] t true (λ_=>rfl);simp only [zJ,Array.toArray_toList] at b;exact ⟨_,_,_,c,b,zc2⟩
theorem znl (b:Sim H G w) {t:TypeId} {ti:TI} (c:o.op=.alloc t) (d:typeOf P t=some ti):ja P o a H G w (qj7 H ti.zero.cells t) (.val (.ptr H.next 0 0 ti.zero.cells.length)):=by
 obtain ⟨z,e,_,f⟩:=qe4 d w;refine q3u b (f G w) ?_;simp [execOp,c,Instr.alloc,e,newVar,Go.newRow];rfl
theorem zwn (b:Sim H G w) (e:SimFr G w fr a) {t:TypeId} {x:Operand} (c:o.op=.box t x) {v:V} (h:opd fr H x=some v):ja P o a H G w (qj7 H v.cells t) (.val (.ptr H.next 0 0 v.cells.length)):=by
 refine q3u b (qz b e h) ?_;simp [execOp,c,Instr.box,newVar,Go.newRow];rfl
theorem zsr (b:Sim H G w) (e:SimFr G w fr a) {t:TypeId} {ti:TI} (c:typeOf P t=some ti) {x:Operand} (d:o.op=.load t x) {p v:V} (f:opd fr H x=some p) (h:qjk H ti p=some v):ja P o a H G w H (.val v):=by
 obtain ⟨y,ad,g,i,j⟩:=qk5 b c (qz b e f) h;refine ja.pure b (x:=y) ?_ j;simp [execOp,d,Instr.loadAt,g,Instr.sureAddr,i]
theorem zno (b:Sim H G w) (e:SimFr G w fr a) {t:TypeId} {ti:TI} (c:typeOf P t=some ti) {x y:Operand} (d:o.op=.store t x y) {p v:V} (f:opd fr H x=some p) (g:opd fr H y=some v) {H':Heap} (h:qjg H ti p v=some H'):ja P o a H G w H' .skip:=by
 obtain ⟨ad,w',i,j,k⟩:=zaq b c (qz b e f) (qz b e g) h;refine ⟨w',G,?_,k⟩;simp [execOp,d,Instr.storeAt,i,Instr.sureAddr,j]
theorem q0l {s:TypeId} {ti:TI} (d:typeOf P s=some ti) {k:Nat} {f:Field} (b:qg9 ti k=some f):∃ a,ti.under=.struct a/\a[k]? = some f/\P.underlying s=some (.struct a):=by
 unfold qg9 at b;split at b
 .rename_i a c;exact ⟨a,c,b,c ▸ (qo d).1⟩
 .cases b
theorem q6g (l:Sim H G w) (e:SimFr G w fr a) {s:TypeId} {ti m:TI} (r:typeOf P s=some ti) {x:Operand} {k:Nat} {f:Field} (t:o.op=.fieldAddr s x k) (u:qg9 ti k=some f) (d:typeOf P f.type=some m)
  (y:m.size≠0) {p v:V} (z:opd fr H x=some p) (h:(match p with | .ptr nm g off lim=>some (.ptr nm g (off+f.offset) lim) | _=>none)=some v) :
  ja P o a H G w H (.val v):=by
 obtain ⟨F,I,A,i⟩:=q0l r u;have q:=qz l e z;have c:∀ b ro,a.eval x=.pointer (some ⟨b,ro,none⟩)->(execOp a.eval o).run P w=.ok (.value (.pointer (some ⟨b,ro+f.offset,none⟩))) w:=by
  intro b ro B;simp [execOp,t,Instr.fieldAt,run_underlying i,A,B,Instr.sureAddr,fieldPlace,ku d,y,qes]
 cases p with
 | ptr nm g off lim=>
  cases h;simp only [Rel] at q;obtain ⟨b,j,n,C,J,D,E⟩:=q;refine ja.pure l (c _ _ E) ?_;simp only [Rel];exact ⟨b,j,n,C,by omega,D,by rw [show off+f.offset-j=off-j+f.offset by omega]⟩
 | _=>cases h
theorem q6h (r:Sim H G w) (e:SimFr G w fr a) {t s:TypeId} {ti d:TI} (F:typeOf P t=some ti) (hu:ti.under=.slice s) (u:typeOf P s=some d) {x i:Operand} (I:o.op=.indexAddr t x i) {p q v:V}
  (J:opd fr H x=some p) (K:opd fr H i=some q) (h:qgf d.size p q=some v):ja P o a H G w H (.val v):=by
 have B:=qz r e J;have C:=qz r e K;have y:P.underlying t=some (.slice s):=hu ▸ (qo F).1;have f:∀ b ro len c k (j:Int),a.eval x=.slice (some ⟨b,ro,none⟩) len c->a.eval i=.int k j->0<=j->j<len->(execOp a.eval o).run P w=.ok (.value (.pointer (some ⟨b,ro+j.toNat * d.size,none⟩))) w:=by
  intro b ro len c k j L D M N;simp [execOp,I,Instr.indexAt,run_underlying y,L,D,asIntOf,ku u,M,N,qes]
 cases p with
 | slice nm g off len sz cap=>
  cases q with
  | int k j=>
   simp only [qgf] at h;split at h
   .rename_i O;obtain ⟨E,Q,R⟩:=O;rw [Nat.beq_eq] at E;subst E;cases h;simp only [Rel] at B C;obtain ⟨b,z,n,ro,c,U,m,ad,r1,S,l,W,X,T,A,Y,Z,r9⟩:=B;have D:j.toNat<len:=by omega
    obtain rfl:ad=⟨b,ro,none⟩:=by
     rcases l with l | l
     .omega
     .exact l
    refine ja.pure r (f _ _ _ _ _ _ S C Q R) ?_;have hm:j.toNat * d.size<=len * d.size:=zU _ (by omega);simp only [Rel];refine ⟨b,z,n,r1,by omega,T,?_⟩;have:ro+z=off:=by rcases A with A | A<;>omega
    rw [show off+j.toNat * d.size-z=ro+j.toNat * d.size by omega]
   .cases h
  | _=>cases h
 | _=>cases q<;>cases h
theorem qw0 (f:Sim H G w) (e:SimFr G w fr a) {t l:TypeId} {n:Nat} {ti c:TI} (B:typeOf P t=some ti) (hu:ti.under=.array n l) (q:typeOf P l=some c) {x i:Operand} (C:o.op=.indexAddr t x i) {p v:V} {k:IntKind} {j:Int}
  (D:opd fr H x=some p) (E:opd fr H i=some (.int k j)) (r:0<=j) (s:j<n)
  (h:(match p with | .ptr nm g off lim=>some (.ptr nm g (off+j.toNat * c.size) lim) | _=>none)=some v):ja P o a H G w H (.val v):=by
 have z:=qz f e D;have A:=qz f e E;simp only [Rel] at A;have u:P.underlying t=some (.array n l):=hu ▸ (qo B).1;have d:∀ b ro,a.eval x=.pointer (some ⟨b,ro,none⟩)->(execOp a.eval o).run P w=.ok (.value (.pointer (some ⟨b,ro+j.toNat * c.size,none⟩))) w:=by
  intro b ro F;simp [execOp,C,Instr.indexAt,run_underlying u,F,A,asIntOf,Instr.sureAddr,ku q,r,s,qes]
 cases p with
 | ptr nm g off lim=>
  cases h;simp only [Rel] at z;obtain ⟨b,y,m,I,L,J,K⟩:=z;refine ja.pure f (d _ _ K) ?_;simp only [Rel];exact ⟨b,y,m,I,by omega,J,by rw [show off+j.toNat * c.size-y=off-y+j.toNat * c.size by omega]⟩
 | _=>cases h
end
end Go.E2
/- E2: single operations against the model's, third part: operators, parts, slices. -/
namespace Go.E2
open Go
section
variable {P:Program} {o:Oper} {a:Act} {H:Heap} {G:qe} {w:World} {fr:Fr}
theorem qnw {t:TypeId} {ti:TI} (c:typeOf P t=some ti) {xs:List V} {b:Array Value} (d:qi G w xs b.toList) {off:Nat} {v:V} (h:qn6 ti xs off=some v) :
  ∃ y,(∀ w',(part t b off).run P w'=.ok y w')/\Rel G w v y:=by
 simp only [qn6,cond_eq_ite] at h;cases a:ti.isAgg with
 | true=>
  simp only [a,if_true,Nat.ble_eq] at h;split at h
  .rename_i e;cases h;refine ⟨.agg (b.extract off (off+ti.size)),λw'=>by simp [part,qr6 c,a,ku c],?_⟩;simp only [Rel];refine ⟨_,rfl,?_⟩;have:=(d.drop off).take ti.size;simpa [Array.toList_extract,List.extract_eq_take_drop] using this
  .cases h
 | false=>
  simp only [a,Bool.false_eq_true,if_false] at h;obtain ⟨y,f,g⟩:=d.get h;refine ⟨y,λw'=>?_,g⟩;simp only [part,Sem.run_bind,qr6 c,Result.andThen_ok,a,Bool.false_eq_true,if_false];have:b[off]? = some y:=by simpa using f
  simp [this]
theorem zs4 {s:List UInt8} {x:Value}:Rel G w (.str s) x↔x=.string ⟨s.toArray⟩:=by simp [Rel]
theorem toList_mk (s:List UInt8):(⟨s.toArray⟩:ByteArray).toList=s:=by rw [ByteArray.toList_eq]
theorem zh1 {op:BinOp} {k:IntKind} {x y:Int} {v:V} (t:TypeId) (h:qh8 op k x y=some v):∃ z,(∀ w',(binOp op t (.int k x) (.int k y)).run P w'=.ok z w')/\Rel G w v z:=by
 cases op<;>simp only [qh8] at h<;>try (cases h;done)
 all_goals try
  (cases h
   exact ⟨_,λw'=>by simp [binOp,Op.intArith,Op.intBits,Op.intCmp];rfl,by simp [Rel]⟩)
 all_goals
  split at h
  .cases h
  .rename_i a;cases h;exact ⟨_,λw'=>by simp [binOp,Op.intDiv,a];rfl,by simp [Rel]⟩
theorem qwk {op:BinOp} {k c:IntKind} {x y:Int} {v:V} (t:TypeId) (a:op=.shl∨op=.shr) (h:qvb op k x y=some v):∃ z,(∀ w',(binOp op t (.int k x) (.int c y)).run P w'=.ok z w')/\Rel G w v z:=by
 simp only [qvb] at h;split at h
 .cases h
 .rename_i b;rcases a with rfl | rfl
  .cases h;exact ⟨_,λw'=>by simp [binOp,Op.shift,b];rfl,by simp [Rel]⟩
  .cases h;exact ⟨_,λw'=>by simp [binOp,Op.shift,b];rfl,by simp [Rel]⟩
theorem qso:∀ x y:List UInt8,Op.bytesLess x y=qbw x y
 | _,[]=>by simp [Op.bytesLess,qbw]
 | [],_::_=>by simp [Op.bytesLess,qbw]
 | a::x,b::y=>by simp only [Op.bytesLess,qbw,qso x y]
theorem zjn {op:BinOp} {x y:List UInt8} {v:V} (t:TypeId) (h:qmm op x y=some v):∃ z,(∀ w',(binOp op t (.string ⟨x.toArray⟩) (.string ⟨y.toArray⟩)).run P w'=.ok z w')/\Rel G w v z:=by
 cases op<;>simp only [qmm] at h<;>try (cases h;done)
 case add=>
  simp only [cond_eq_ite,Nat.ble_eq] at h;split at h
  .rename_i a;cases h;have b:x.length+y.length<=140737488355328:=a;refine ⟨.string (⟨x.toArray⟩++⟨y.toArray⟩),λw'=>?_,?_⟩
   .have:¬ (9223372036854775807<((x.length:Int)+(y.length:Int))):=by omega
    simp [binOp,Op.stringOp,ByteArray.size,this]
   .rw [zs4];congr 1
  .cases h
 all_goals
  cases h;exact ⟨_,λw'=>by simp [binOp,Op.stringOp,qso];rfl,by simp [Rel]⟩
theorem qz9 {n:Nat} {t:TypeId} {a:Array Field} (h:qhq P n t=true) (hu:P.underlying t=some (.struct a)) :
  P.stoodInHeld t=false/\P.eqGuardType P.depth t=false/\∀ f ∈ a.toList,f.name≠ "_" := by
 cases n with
 | zero=>simp [qhq] at h
 | succ n=>
  simp only [qhq,hu,zA,Bool.not_eq_true'] at h;refine ⟨h.1.1,h.1.2,λf b=>?_⟩;have:=(Array.all_eq_true'.1 h.2) f (by simpa using b);simp only [zA,bne_iff_ne] at this;exact this.1
mutual
theorem qyq {E:Env} (s:E.types=typeOf P) (j:E.eqOk=qhq P 20):∀ (d D:Nat) (t:TypeId) (x y:V) (rx n:Value) (b:Bool),d<=D->eqV E d t x y=some b->Rel G w x rx->Rel G w y n->
  ∀ w',(Op.equalIn D t rx n).run P w'=.ok b w'
 | 0,_,_,_,_,_,_,_,_,h,_,_=>by simp [eqV] at h
 | d+1,0,_,_,_,_,_,_,F,_,_,_=>by omega
 | d+1,D+1,t,x,y,rx,n,b,F,h,c,e=>by
  intro w';simp only [eqV,s] at h;split at h
  .cases h
  rename_i ti H;have f:=(qo H).1;split at h
  .
   rename_i I k a W o i;rw [i] at f;split at h
   .rename_i J;subst J;cases h;simp only [Rel] at c e;subst c;subst e;exact run_equalIn_int w' D t k I a o f
   .cases h
  .rename_i a o i;rw [i] at f;cases h;simp only [Rel] at c e;subst c;subst e;rw [run_equalIn_string w' D t _ _ f,toList_mk,toList_mk]
  .rename_i a o i;rw [i] at f;cases h;simp only [Rel] at c e;subst c;subst e;exact run_equalIn_bool' w' D t _ _ f
  .rename_i u K L i;rw [i] at f;simp only [j,cond_eq_ite] at h;split at h
   .rename_i p;obtain ⟨p1,p2,M⟩:=qz9 p f;simp only [Rel] at c e;obtain ⟨v,rfl,c⟩:=c;obtain ⟨z,rfl,e⟩:=e;have l:P.fieldsOf t=u:=by simp [Program.fieldsOf,f]
    rw [run_equalIn_struct w' D t v z (by rw [l];exact f) p1,l];exact qo1 s j d D u.toList K L v z b (by omega) h c e M w'
   .cases h
  all_goals try (
   rename_i i;rw [i] at f;cases h;simp only [Rel] at c e
   first
    | (subst c;subst e;simp [Op.equalIn,run_underlying f];done)
    | (subst c;obtain ⟨_,_,_,_,_,_,_,_,_,rfl,_⟩:=e;simp [Op.equalIn,run_underlying f];done)
    | (subst c;obtain ⟨_,_,_,_,_,_,_,_,rfl,_⟩:=e;simp [Op.equalIn,run_underlying f];done)
    | (subst e;obtain ⟨_,_,_,_,_,_,_,_,_,rfl,_⟩:=c;simp [Op.equalIn,run_underlying f];done)
    | (subst e;obtain ⟨_,_,_,_,_,_,_,_,rfl,_⟩:=c;simp [Op.equalIn,run_underlying f];done)
    | (subst c;obtain ⟨_,_,_,_,_,_,rfl,_⟩:=e;simp [Op.equalIn,run_underlying f];done)
    | (subst e;obtain ⟨_,_,_,_,_,_,rfl,_⟩:=c;simp [Op.equalIn,run_underlying f];done)
    | (subst c;obtain ⟨_,_,_,rfl,_⟩:=e;simp [Op.equalIn,run_underlying f];done)
    | (subst e;obtain ⟨_,_,_,rfl,_⟩:=c;simp [Op.equalIn,run_underlying f];done)
    | (subst c;obtain ⟨_,_,_,_,rfl⟩:=e;simp [Op.equalIn,run_underlying f];done)
    | (subst e;obtain ⟨_,_,_,_,rfl⟩:=c;simp [Op.equalIn,run_underlying f];done)
    | (subst c;obtain ⟨_,_,_,_,_,_,rfl⟩:=e;simp [Op.equalIn,run_underlying f,samePointer];done)
    | (subst e;obtain ⟨_,_,_,_,_,_,rfl⟩:=c;simp [Op.equalIn,run_underlying f,samePointer];done)
    | (subst c;obtain ⟨_,rfl,_⟩:=e;simp [Op.equalIn,run_underlying f];done)
    | (subst e;obtain ⟨_,rfl,_⟩:=c;simp [Op.equalIn,run_underlying f];done)
   done)
  .rename_i X nm g off lim N Y A B i;rw [i] at f;simp only [zI,cond_eq_ite,zA,Bool.not_eq_true',Nat.beq_eq] at h;obtain ⟨O,q,h⟩:=h;split at h
   .rename_i Q;obtain ⟨m,rfl,rfl⟩:=Q;have m:O.size≠0:=by
     intro R;rw [R] at m;cases m
    cases h;simp only [Rel] at c e;obtain ⟨Z,S,n1,T,q2,q3,rfl⟩:=c;obtain ⟨b2,U,n2,C,q5,q6,rfl⟩:=e;rw [T] at C;cases C;simp [Op.equalIn,run_underlying f,ku q,m,sameAddr];rw [Bool.eq_iff_iff];simp only [beq_iff_eq,Nat.beq_eq];constructor
    .intro r;simp only [Addr.mk.injEq,true_and,and_true] at r;omega
    .intro r;subst r;rfl
   .cases h
  .cases h
theorem qo1 {E:Env} (l:E.types=typeOf P) (g:E.eqOk=qhq P 20):∀ (d D:Nat) (e:List Field) (i j:List V) (a c:Array Value) (b:Bool),d<=D->eqFields E d e i j=some b->qi G w i a.toList->qi G w j c.toList->
  (∀ f ∈ e,f.name≠ "_")->∀ w',(Op.eqFields D a c e).run P w'=.ok b w'
 | 0,_,_,_,_,_,_,_,_,h,_,_,_=>by simp [eqFields] at h
 | d+1,D,e,i,j,a,c,b,I,h,n,o,p=>by
  intro w';cases e with
  | nil=>
   simp only [eqFields,zS] at h;subst h;simp [Op.eqFields]
  | cons f e=>
   simp only [eqFields,l] at h;split at h
   .cases h
   rename_i ti q;simp only [zI] at h;obtain ⟨u,s,v,t,r,x,k⟩:=h;obtain ⟨y,z,A⟩:=qnw q n s;obtain ⟨B,C,F⟩:=qnw q o t;have m:=qyq l g d D f.type u v y B r (by omega) x A F;simp only [Op.eqFields,p f (by simp),ne_eq,not_false_eq_true,if_true,Sem.run_bind,z,C,Result.andThen_ok,m];cases r with
   | true=>
    simp only [zO] at k;simp only [Bool.not_true,Bool.false_eq_true,if_false];exact qo1 l g d D e i j a c b (by omega) k n o (λf H=>p f (by simp [H])) w'
   | false=>
    simp only [zQ,zS] at k;subst k;simp
end
end
end Go.E2
/- E2: single operations against the model's, fourth part. -/
namespace Go.E2
open Go
section
variable {P:Program} {o:Oper} {a:Act} {H:Heap} {G:qe} {w:World} {fr:Fr}
def qpv:Value->Bool
 | .int .. | .float .. | .complex .. | .string _=>false
 | _=>true
theorem zad {t:TypeId} {x y:Value} (a:qpv x=true):binOp .eql t x y=(do pure (.bool (<-Op.equal t x y))):=by
 cases x<;>first
  | (simp [qpv] at a;done)
  | (cases y<;>rfl)
theorem zae {t:TypeId} {x y:Value} (a:qpv x=true):binOp .neq t x y=(do pure (.bool (!(<-Op.equal t x y)))):=by
 cases x<;>first
  | (simp [qpv] at a;done)
  | (cases y<;>rfl)
theorem q33 {x:V} {rx:Value} (d:Rel G w x rx) (j:∀ k n,x≠.int k n) (l:∀ s,x≠.str s):qpv rx=true:=by
 cases x with
 | int k n=>exact absurd rfl (j k n)
 | str s=>exact absurd rfl (l s)
 | ptr nm g off lim=>simp only [Rel] at d;obtain ⟨b,h,n,_,_,_,rfl⟩:=d;rfl
 | slice nm g off len sz cap=>simp only [Rel] at d;obtain ⟨b,h,n,ro,c,e,m,_,_,rfl,_⟩:=d;rfl
 | func f a b=>simp only [Rel] at d;obtain ⟨_,_,_,rfl,_⟩:=d;rfl
 | iface t y=>simp only [Rel] at d;obtain ⟨i,rfl,_⟩:=d;rfl
 | agg cs=>simp only [Rel] at d;obtain ⟨i,rfl,_⟩:=d;rfl
 | tuple cs=>simp only [Rel] at d;obtain ⟨i,rfl,_⟩:=d;rfl
 | map nm=>simp only [Rel] at d;obtain ⟨b,h,n,_,rfl⟩:=d;rfl
 | _=>simp only [Rel] at d;subst d;rfl
theorem eq_left {E:Env} {d:Nat} {t:TypeId} {x y:V} {b:Bool} (h:eqV E d t x y=some b) :
  (∃ k n a c,x=.int k n/\y=.int a c)∨(∃ s e,x=.str s/\y=.str e)∨((∀ k n,x≠.int k n)/\(∀ s,x≠.str s)):=by
 cases d with
 | zero=>simp [eqV] at h
 | succ d=>
  unfold eqV at h;split at h
  .cases h
  .split at h<;>first
    | (exfalso;cases h;done)
    | exact .inl ⟨_,_,_,_,rfl,rfl⟩
    | exact .inr (.inl ⟨_,_,rfl,rfl⟩)
    | exact .inr (.inr ⟨λ_ _=>by simp,λ_=>by simp⟩)
    | (cases h;done)
theorem q7u {E:Env} (l:E.types=typeOf P) (f:E.eqOk=qhq P 20) {op:BinOp} {t:TypeId} {x y v:V} {rx m:Value} (a:Rel G w x rx) (c:Rel G w y m) (h:qbj E op t x y=some v) :
  ∃ z,(∀ w',(binOp op t rx m).run P w'=.ok z w')/\Rel G w v z:=by
 unfold qbj at h;split at h
 .simp only [Rel] at a c;subst a;subst c;exact qwk t (.inl rfl) h
 .simp only [Rel] at a c;subst a;subst c;exact qwk t (.inr rfl) h
 .simp only [Rel] at a c;subst a;subst c;split at h
  .rename_i o;subst o;exact zh1 t h
  .cases h
 .simp only [Rel] at a c;subst a;subst c;exact zjn t h
 .rename_i d e;simp only [zM] at h;obtain ⟨b,g,rfl⟩:=h;rcases eq_left g with ⟨k,n,p,q,rfl,rfl⟩ | ⟨s,r,rfl,rfl⟩ | ⟨i,j⟩
  .exact (d _ _ _ _ rfl rfl).elim
  .exact (e _ _ rfl rfl).elim
  .rw [zad (q33 a i j)];have:=qyq l f 1000 Op.maxDepth t _ _ _ _ b (by simp [Op.maxDepth]) g a c;exact ⟨.bool b,λw'=>by simp [Op.equal,this],by simp [Rel]⟩
 .rename_i d e;simp only [zM] at h;obtain ⟨b,g,rfl⟩:=h;rcases eq_left g with ⟨k,n,p,q,rfl,rfl⟩ | ⟨s,r,rfl,rfl⟩ | ⟨i,j⟩
  .exact (d _ _ _ _ rfl rfl).elim
  .exact (e _ _ rfl rfl).elim
  .rw [zae (q33 a i j)];have:=qyq l f 1000 Op.maxDepth t _ _ _ _ b (by simp [Op.maxDepth]) g a c;exact ⟨.bool (!b),λw'=>by simp [Op.equal,this],by simp [Rel]⟩
 .cases h
theorem zst (b:Sim H G w) (e:SimFr G w fr a) {op:UnOp} {t:TypeId} {x:Operand} (d:o.op=.unOp op t x) {p v:V} (f:opd fr H x=some p) (h:zay op p=some v):ja P o a H G w H (.val v):=by
 have c:=qz b e f;unfold zay at h;split at h<;>try (cases h;done)
 all_goals
  cases h;simp only [Rel] at c;refine ja.pure b (by simp [execOp,d,c,Op.unary,Op.intArith,Op.intBits];rfl) (by simp [Rel])
theorem zcl (i:Sim H G w) (e:SimFr G w fr a) {src dst:TypeId} {j l:TI} (b:typeOf P src=some j) (c:typeOf P dst=some l) {m k:IntKind} (d:j.under=.int m) (f:l.under=.int k) {x:Operand} (q:o.op=.convert src dst x)
  {r:IntKind} {n:Int} (s:opd fr H x=some (.int r n)):ja P o a H G w H (.val (.int k (k.wrap n))):=by
 have p:=qz i e s;simp only [Rel] at p;have g:P.underlying src=some (.int m):=d ▸ (qo b).1;have h:P.underlying dst=some (.int k):=f ▸ (qo c).1;refine ja.pure i (x:=.int k (k.wrap n)) ?_ (by simp [Rel]);simp [execOp,q,p,convert,run_underlying g,run_underlying h,Conv.intToInt]
theorem zcm (k:Sim H G w) (e:SimFr G w fr a) {src dst:TypeId} {l m:TI} (c:typeOf P src=some l) (d:typeOf P dst=some m) (f:l.under=.string) (g:m.under=.string) {x:Operand} (n:o.op=.convert src dst x)
  {s:List UInt8} (p:opd fr H x=some (.str s)):ja P o a H G w H (.val (.str s)):=by
 have b:=qz k e p;have h:=b;simp only [Rel] at b;have i:P.underlying src=some .string:=f ▸ (qo c).1;have j:P.underlying dst=some .string:=g ▸ (qo d).1;refine ja.pure k (x:=a.eval x) ?_ h;rw [b];simp [execOp,n,b,convert,run_underlying i,run_underlying j]
theorem qu2 (c:Sim H G w) (e:SimFr G w fr a) {t:TypeId} {ti:TI} (f:typeOf P t=some ti) (b:∀ g,ti.under≠.interface g) {x:Operand} (h:o.op=.makeInterface t x) {p:V} (i:opd fr H x=some p):ja P o a H G w H (.val (.iface t p)):=by
 have j:=qz c e i;refine ja.pure c (x:=.iface t (a.eval x)) ?_ (by simp only [Rel];exact ⟨_,rfl,j⟩);have k:=(qo f).1;simp only [execOp,h,Instr.makeInterface,Sem.run_bind,run_underlying k,Result.andThen_ok];generalize l:ti.under=d;rw [l] at b;cases d<;>first | (exact absurd rfl (b _)) | simp
theorem q9r (b:Sim H G w) (e:SimFr G w fr a) {f:FuncId} {first captured:Array Operand} (c:o.op=.makeFunc (.func f) first captured) {p q:List V} (d:qcy fr H first.toList=some p) (g:qcy fr H captured.toList=some q) :
  ja P o a H G w H (.val (.func (.func f) p q)):=by
 refine ja.pure b (x:=.func (.func f) (first.map a.eval) (captured.map a.eval)) (by simp [execOp,c,Instr.makeFunc]) ?_;simp only [Rel];exact ⟨_,_,_,rfl,rfl,by simpa using qie b e d,by simpa using qie b e g⟩
theorem zcn (d:Sim H G w) (e:SimFr G w fr a) {x:Operand} {i:Nat} (g:o.op=.extract x i) {f:List V} {v:V} (j:opd fr H x=some (.tuple f)) (h:f[i]? = some v):ja P o a H G w H (.val v):=by
 have b:=qz d e j;simp only [Rel] at b;obtain ⟨c,b,k⟩:=b;obtain ⟨y,l,m⟩:=k.get h;refine ja.pure d (x:=y) ?_ m;have:c[i]? = some y:=by simpa using l
 simp [execOp,g,b,Instr.extract,this]
theorem znn (g:Sim H G w) (e:SimFr G w fr a) {t:TypeId} {ti i:TI} (j:typeOf P t=some ti) {k:Nat} {f:Field} (l:qg9 ti k=some f) (c:typeOf P f.type=some i) {x:Operand} (m:o.op=.field t x k) {cs:List V} {v:V}
  (n:opd fr H x=some (.agg cs)) (h:qn6 i cs f.offset=some v):ja P o a H G w H (.val v):=by
 have b:=qz g e n;simp only [Rel] at b;obtain ⟨p,b,q⟩:=b;obtain ⟨z,A,r,d⟩:=q0l j l;obtain ⟨y,s,u⟩:=qnw c q h;refine ja.pure g (x:=y) ?_ u;simp [execOp,m,b,Instr.field,run_underlying d,r,asAgg,s]
theorem q9q (f:Sim H G w) (e:SimFr G w fr a) {t:TypeId} {ti:TI} (n:typeOf P t=some ti) (hu:ti.under=.string) {x i:Operand} (p:o.op=.index t x i) {s:List UInt8} {k:IntKind} {j:Int} {b:UInt8}
  (q:opd fr H x=some (.str s)) (r:opd fr H i=some (.int k j)) (u:0<=j) (h:s[j.toNat]? = some b):ja P o a H G w H (.val (.int .u8 b.toNat)):=by
 have l:=qz f e q;have m:=qz f e r;simp only [Rel] at l m;have g:P.underlying t=some .string:=hu ▸ (qo n).1;refine ja.pure f (x:=.int .u8 b.toNat) ?_ (by simp [Rel]);have v:(ByteArray.mk s.toArray)[j.toNat]? = some b:=by
  have c:j.toNat<s.length:=by
   rw [List.getElem?_eq_some_iff] at h;exact h.1
  rw [List.getElem?_eq_getElem c] at h;have d:j.toNat<(ByteArray.mk s.toArray).size:=by simpa [ByteArray.size] using c
  rw [getElem?_pos (ByteArray.mk s.toArray) j.toNat d];exact h
 simp [execOp,p,l,m,Instr.index,asIntOf,run_underlying g,u,v]
theorem q9p (d:Sim H G w) (e:SimFr G w fr a) {t f:TypeId} {n:Nat} {ti g:TI} (q:typeOf P t=some ti) (hu:ti.under=.array n f) (b:typeOf P f=some g) {x i:Operand} (r:o.op=.index t x i) {cs:List V} {k:IntKind} {j:Int} {v:V}
  (s:opd fr H x=some (.agg cs)) (u:opd fr H i=some (.int k j)) (z:0<=j/\j<n) (h:qn6 g cs (j.toNat * g.size)=some v):ja P o a H G w H (.val v):=by
 have c:=qz d e s;have p:=qz d e u;simp only [Rel] at c p;obtain ⟨A,c,l⟩:=c;have m:P.underlying t=some (.array n f):=hu ▸ (qo q).1;obtain ⟨y,B,C⟩:=qnw b l h;refine ja.pure d (x:=y) ?_ C;simp [execOp,r,c,p,Instr.index,asIntOf,run_underlying m,z,ku b,B]
theorem zsq (r:Sim H G w) (e:SimFr G w fr a) {c:Go.Call} {f:Operand} (s:o.op=.call c) (t:c.callee=.value f) {args:List V} {p:V} {k:Tgt} {u:List V} (i:qcy fr H c.args.toList=some args) (B:opd fr H f=some p)
  (h:qe9 p args=some (.call k u)):ja P o a H G w H (.call k u):=by
 have v:=qie r e i;have x:=qz r e B;have d:(c.args.map a.eval).toList=c.args.toList.map a.eval:=by simp
 cases p with
 | func C first j=>
  simp only [Rel] at x;obtain ⟨D,y,m,z,q,A,E⟩:=x;cases C with
  | func g=>
   simp only [qe9,zS,Out.call.injEq] at h;obtain ⟨rfl,rfl⟩:=h;simp only [qlk] at q;subst q;refine ⟨rfl,.fn (.func g) m,y++c.args.map a.eval,?_,m,rfl,?_⟩
   .simp [execOp,s,resolve,t,z,Deferred.ofValue]
   .rw [Array.toList_append,d];exact (A.append v).append E
  | yield l=>
   simp only [qe9,zS,Out.call.injEq] at h;obtain ⟨rfl,rfl⟩:=h;obtain ⟨b,F,n,I,rfl⟩:=q;refine ⟨rfl,.fn (.yield b) m,y++c.args.map a.eval,?_,m,b,F,n,rfl,I,?_⟩
   .simp [execOp,s,resolve,t,z,Deferred.ofValue]
   .rw [Array.toList_append,d];exact A.append v
  | _=>simp [qe9] at h
 | _=>simp [qe9] at h
theorem znm {E:Env} (d:E.types=typeOf P) (b:E.eqOk=qhq P 20) (c:Sim H G w) (e:SimFr G w fr a) {op:BinOp} {t f:TypeId} {x y:Operand} (g:o.op=.binOp op t x y f) {p q v:V} (i:opd fr H x=some p) (j:opd fr H y=some q)
  (k:∀ w',(eqGuard op t x y (a.eval x) (a.eval y)).run P w'=.ok () w') (h:qbj E op t p q=some v):ja P o a H G w H (.val v):=by
 obtain ⟨z,l,m⟩:=q7u d b (qz c e i) (qz c e j) h;refine ja.pure c (x:=z) ?_ m;simp [execOp,g,k,l]
theorem qgh (f:Sim H G w) (e:SimFr G w fr a) {c:Go.Call} {b:Builtin} (g:o.op=.call c) (h:c.callee=.builtin b) {args:List V} (d:qcy fr H c.args.toList=some args) :
  qi G w args (c.args.map a.eval).toList/\∃ cs,(execOp a.eval o).run P w=(builtin b c.argTypes o.type cs (c.args.map a.eval)).run P w:=by
 refine ⟨by simpa using qie f e d,(c.args.map λ| .const _=>true | _=>false),?_⟩;simp only [execOp,g,resolve,h,Sem.run_bind,Sem.run_pure,Result.andThen_ok,invoke];rfl
end
end Go.E2
/- E2: single operations against the model's, fifth part: builtins, slices, builds. -/
namespace Go.E2
open Go
section
variable {P:Program} {o:Oper} {a:Act} {H:Heap} {G:qe} {w:World} {fr:Fr}
theorem qa3 {lo hi:Nat} {x:Option V} {rx:Option Value} (a:match x,rx with | none,none=>True | some v,some r=>Rel G w v r | _,_=>False) {d n:Nat} (h:qao lo hi x d=some n) :
  (x=none/\rx=none/\n=d)∨∃ k i,x=some (.int k i)/\rx=some (.int k i)/\(lo:Int)<=i/\i<=hi/\n=i.toNat:=by
 cases x with
 | none=>
  cases rx with
  | none=>simp only [qao,zS] at h;exact .inl ⟨rfl,rfl,h.symm⟩
  | some r=>exact a.elim
 | some v=>
  cases rx with
  | none=>exact a.elim
  | some r=>
   cases v with
   | int k i=>
    simp only [Rel] at a;subst a;simp only [qao] at h;split at h
    .rename_i b;cases h;exact .inr ⟨k,i,rfl,rfl,b.1,b.2,rfl⟩
    .cases h
   | _=>simp [qao] at h
theorem run_sliceBound {k:IntKind} {i:Int} {y:Nat} {c:BoundsCode} (a:0<=i) (b:i<=y):∀ w',(Instr.sliceBound (.int k i) y c).run P w'=.ok i.toNat w':=by
 intro w';simp [Instr.sliceBound,asIntOf,a,b]
def zqb (G:qe) (w:World) (x:Option V) (rx:Option Value):Prop:=
 match x,rx with
 | none,none=>True
 | some v,some r=>Rel G w v r
 | _,_=>False
theorem qgi (b:Sim H G w) (e:SimFr G w fr a) {x:Option Operand} {v:Option V} (h:qmi fr H x=some v):zqb G w v (x.map a.eval):=by
 cases x with
 | none=>simp only [qmi,zS] at h;subst h;trivial
 | some x=>
  simp only [qmi,zM] at h;obtain ⟨u,c,rfl⟩:=h;exact qz b e c
theorem qfk {isSlice:Bool} {len cap c:Nat} {lo hi:Option V} {b d:Option Value} (p:zqb G w lo b) (q:zqb G w hi d) {l h:Nat} (r:qao 0 c hi len=some h) (s:qao 0 h lo 0=some l) (v:c<=cap) (hlen:len<=c) :
  l<=h/\h<=c/\∀ w',(Instr.sliceBounds isSlice len cap b d none).run P w'=.ok (l,h,cap) w':=by
 have t:=qa3 q r;have n:=qa3 p s;rcases t with ⟨rfl,rfl,rfl⟩ | ⟨k,i,rfl,rfl,i0,x,rfl⟩
 .rcases n with ⟨rfl,rfl,rfl⟩ | ⟨u,j,rfl,rfl,f,g,rfl⟩
  .exact ⟨Nat.zero_le _,hlen,λw'=>by simp [Instr.sliceBounds]⟩
  .have a:0<=j:=by simpa using f
   exact ⟨by omega,hlen,λw'=>by simp [Instr.sliceBounds,run_sliceBound a g]⟩
 .have e:0<=i:=by simpa using i0
  have o:i<=cap:=by omega
  rcases n with ⟨rfl,rfl,rfl⟩ | ⟨u,j,rfl,rfl,f,g,rfl⟩
  .exact ⟨Nat.zero_le _,by omega,λw'=>by simp [Instr.sliceBounds,run_sliceBound e o]⟩
  .have a:0<=j:=by simpa using f
   have m:j<=i.toNat:=g;exact ⟨by omega,by omega,λw'=>by simp [Instr.sliceBounds,run_sliceBound e o,run_sliceBound a m]⟩
theorem extract_mk (s:List UInt8) (l h:Nat):(ByteArray.mk s.toArray).extract l h=⟨((s.take h).drop l).toArray⟩:=by
 apply ByteArray.ext;simp [ByteArray.data_extract];rw [List.drop_take]
theorem q9v (d:Sim H G w) (e:SimFr G w fr a) {t:TypeId} {ti:TI} (j:typeOf P t=some ti) (hu:ti.under=.string) {x:Operand} {lo hi:Option Operand} (k:o.op=.slice t x lo hi none) {s:List UInt8} {b c:Option V} {v:V}
  (m:opd fr H x=some (.str s)) (n:qmi fr H lo=some b) (p:qmi fr H hi=some c) (h:qfv 1 (.str s) b c none=some v):ja P o a H G w H (.val v):=by
 have i:=qz d e m;simp only [Rel] at i;have f:P.underlying t=some .string:=hu ▸ (qo j).1;simp only [qfv,V.qd1,qit,zI,zM] at h;obtain ⟨q,r,l,u,rfl⟩:=h;obtain ⟨z,A,y⟩:=qfk (P:=P) (isSlice:=false) (cap:=s.length) (qgi d e n) (qgi d e p) r u (zN _) (zN _);refine ja.pure d (x:=.string ⟨((s.take q).drop l).toArray⟩) ?_ (by simp [Rel]);have g:(ByteArray.mk s.toArray).size=s.length:=by simp [ByteArray.size]
 simp [execOp,k,i,Instr.sliceAt,run_underlying f,Instr.slice,g,y,extract_mk]
theorem zco (r:Sim H G w) (e:SimFr G w fr a) {t K:TypeId} {ti d:TI} (ht:typeOf P t=some ti) (hu:ti.under=.slice K) (u:typeOf P K=some d) {x:Operand} {lo hi:Option Operand} (T:o.op=.slice t x lo hi none) {p:V} {z A:Option V} {v:V}
  (hp:opd fr H x=some p) (h1:qmi fr H lo=some z) (h2:qmi fr H hi=some A) (j:∀ s,p≠.str s) (h:qfv d.size p z A none=some v):ja P o a H G w H (.val v):=by
 have q:=qz r e hp;have B:P.underlying t=some (.slice K):=hu ▸ (qo ht).1;have r1:=qgi r e h1;have U:=qgi r e h2
 replace q:=q.qd1 d.size
 unfold qfv at h;have j:∀ s,p.qd1 d.size≠.str s:=λs F=>j s (V.zov F);generalize p.qd1 d.size=p at q h j;cases p with
 | str s=>exact absurd rfl (j s)
 | nils=>
  simp only [Rel] at q;have e0:∀ (y:Option V),qao 0 0 (none:Option V) 0=some 0:=λ_=>rfl;simp only [qit,qao,zB,zI,zM] at h;obtain ⟨i,L,l,M,rfl⟩:=h;obtain ⟨W,N,O⟩:=qfk (P:=P) (isSlice:=true) (len:=0) (cap:=0) (c:=0) r1 U L M (zN _) (zN _);have Q:i=0:=by omega
  have R:l=0:=by omega
  subst Q;subst R;refine ja.pure r (x:=.slice none 0 0) ?_ (by simp [Rel]);simp [execOp,T,q,Instr.sliceAt,run_underlying B,Instr.slice,O,ku u]
 | slice nm g off len sz cap=>
  have X:=q;simp only [Rel] at q;obtain ⟨b,Y,n,ro,c,Z,m,ad,q1,q2,I,q3,q4,q5,q6,J,q8,q9⟩:=q;simp only [qit,cond_eq_ite,Bool.not_eq_true'] at h;split at h
  .cases h
  rename_i S;have S:d.size=sz:=by
   by_cases F:d.size=sz
   .exact F
   .exact absurd (by rw [<-Bool.not_eq_true,Nat.beq_eq];exact F) S
  subst S;simp only [zI,zM] at h;obtain ⟨i,L,l,M,rfl⟩:=h;have C:cap.getD len<=c:=by
   cases cap with
   | none=>exact q3
   | some k=>rw [(J k rfl).1];exact zN _
  have D:len<=cap.getD len:=by
   cases cap with
   | none=>exact zN _
   | some k=>rw [Option.getD_some,<-(J k rfl).1];exact q3
  obtain ⟨W,N,O⟩:=qfk (P:=P) (isSlice:=true) (cap:=c) r1 U L M C D;have a6:l * d.size<=i * d.size:=zU _ W;have a7:i * d.size<=c * d.size:=zU _ (by omega);have a8:(i-l) * d.size=i * d.size-l * d.size:=Nat.sub_mul _ _ _;have aa:(c-l) * d.size=c * d.size-l * d.size:=Nat.sub_mul _ _ _;have a1:off+i * d.size<=n:=by
   cases cap with
   | none=>
    have:i * d.size<=len * d.size:=zU _ (by simpa using N);omega
   | some k=>
    have:i * d.size<=k * d.size:=zU _ (by simpa using N);have:=(J k rfl).2;omega
  have f:∀ k,cap.map (· - l)=some k->c-l=k/\off+l * d.size+k * d.size<=n:=by
   intro k hk;simp only [zM] at hk;obtain ⟨k0,h5,rfl⟩:=hk;obtain ⟨h6,h7⟩:=J k0 h5;subst h6;refine ⟨rfl,?_⟩;omega
  refine ja.pure r (x:=.slice (if c=l then some ad else some (ad.add (l * d.size))) (i-l) (c-l)) ?_ ?_
  .simp only [execOp,T,Option.map_none,Sem.run_bind,q2,Instr.sliceAt,run_underlying B,Result.andThen_ok,Instr.slice,O,ku u,Sem.run_pure,zH]
  .by_cases E:c=l
   .rw [zT E];simp only [Rel];exact ⟨b,Y,n,ro,c-l,Z,m,ad,q1,rfl,.inl (by omega),by omega,by omega,by omega,.inr (by omega),f,q8,by omega⟩
   .rw [zF E];simp only [Rel];exact ⟨b,Y,n,ro+l * d.size,c-l,Z,m,_,q1,rfl,.inr (by rcases I with I | I;omega;rw [I,qes]),by omega,by omega,by omega,.inl (by omega),f,q8,by omega⟩
 | _=>simp [qit] at h
theorem qu9 {isSlice:Bool} {len cap c:Nat} {lo:Option V} {a b:V} {f:Option Value} {d e:Value} (A:zqb G w lo f) (B:Rel G w a d) (C:Rel G w b e) {l h m:Nat} (hm:qao 0 c (some b) c=some m) (D:qao 0 m (some a) len=some h) (E:qao 0 h lo 0=some l) (M:c<=cap) :
  l<=h/\h<=m/\m<=c/\∀ w',(Instr.sliceBounds isSlice len cap f (some d) (some e)).run P w'=.ok (l,h,m) w':=by
 have F:=qa3 (x:=some b) (rx:=some e) C hm;have H:=qa3 (x:=some a) (rx:=some d) B D;have I:=qa3 A E;rcases F with ⟨g,_,_⟩ | ⟨N,i,_,j,k,J,rfl⟩
 .cases g
 rcases H with ⟨g,_,_⟩ | ⟨O,n,_,o,p,q,rfl⟩
 .cases g
 cases j;cases o;have t:0<=i:=by simpa using k
 have u:0<=n:=by simpa using p
 have v:i<=cap:=by omega
 have y:n<=i.toNat:=q;rcases I with ⟨rfl,rfl,rfl⟩ | ⟨Q,z,rfl,rfl,r,s,rfl⟩
 .exact ⟨Nat.zero_le _,by omega,by omega,λw'=>by simp [Instr.sliceBounds,run_sliceBound t v,run_sliceBound u y]⟩
 .have K:0<=z:=by simpa using r
  have L:z<=n.toNat:=s;exact ⟨by omega,by omega,by omega,λw'=>by simp [Instr.sliceBounds,run_sliceBound t v,run_sliceBound u y,run_sliceBound K L]⟩
theorem q9u (i:Sim H G w) (e:SimFr G w fr a) {t C:TypeId} {ti d:TI} (X:typeOf P t=some ti) (hu:ti.under=.slice C) (D:typeOf P C=some d) {x hi I:Operand} {lo:Option Operand} (Y:o.op=.slice t x lo (some hi) (some I)) {nm g off len sz:Nat} {cap:Option Nat} {j:Option V} {p r v:V}
  (J:opd fr H x=some (.slice nm g off len sz cap)) (Z:qmi fr H lo=some j) (h2:opd fr H hi=some p) (h3:opd fr H I=some r) (h:qfv d.size (.slice nm g off len sz cap) j (some p) (some r)=some v):ja P o a H G w H (.val v):=by
 have s:=qz i e J;have E:P.underlying t=some (.slice C):=hu ▸ (qo X).1;have r1:=qgi i e Z;have r2:=qz i e h2;have r3:=qz i e h3
 replace s:=s.qd1 d.size
 unfold qfv at h;obtain ⟨K,u⟩:∃ K,V.qd1 d.size (.slice nm g off len sz cap)=.slice nm g off len K cap:=by
  rcases V.qe3 (nm:=nm) (g:=g) (off:=off) (len:=len) (z:=sz) (sz:=d.size) (cap:=cap) with q | ⟨_,q⟩
  .exact ⟨_,q⟩
  .exact ⟨_,q⟩
 rw [u] at s h;clear u J;clear sz
 rename Nat=>sz
 simp only [Rel] at s;obtain ⟨b,L,n,ro,c,M,N,ad,O,q2,B,q3,q4,q5,q6,Q,R,q9⟩:=s;simp only [qit,cond_eq_ite,Bool.not_eq_true'] at h;split at h
 .cases h
 rename_i F;have F:d.size=sz:=by
  by_cases S:d.size=sz
  .exact S
  .exact absurd (by rw [<-Bool.not_eq_true,Nat.beq_eq];exact S) F
 subst F;simp only [zI,zM] at h;obtain ⟨m,h5,T,h6,l,h7,rfl⟩:=h;have y:cap.getD len<=c:=by
  cases cap with
  | none=>exact q3
  | some k=>rw [(Q k rfl).1];exact zN _
 obtain ⟨b1,b2,U,b4⟩:=qu9 (P:=P) (isSlice:=true) (cap:=c) r1 r2 r3 h5 h6 h7 y;have a1:l * d.size<=m * d.size:=zU _ (by omega);have a6:m * d.size<=c * d.size:=zU _ (by omega);have a7:(T-l) * d.size<=(m-l) * d.size:=zU _ (by omega);have a8:(m-l) * d.size=m * d.size-l * d.size:=Nat.sub_mul _ _ _;have W:off+m * d.size<=n:=by
  cases cap with
  | none=>
   have:m * d.size<=len * d.size:=zU _ (by simpa using U);omega
  | some k=>
   have:m * d.size<=k * d.size:=zU _ (by simpa using U);have:=(Q k rfl).2;omega
 have f:∀ k,some (m-l)=some k->m-l=k/\off+l * d.size+k * d.size<=n:=by
  intro k hk;cases hk;exact ⟨rfl,by omega⟩
 refine ja.pure i (x:=.slice (if m=l then some ad else some (ad.add (l * d.size))) (T-l) (m-l)) ?_ ?_
 .simp only [execOp,Y,zH,Sem.run_bind,q2,Instr.sliceAt,run_underlying E,Result.andThen_ok,Instr.slice,b4,ku D,Sem.run_pure]
 .by_cases A:m=l
  .rw [zT A];simp only [Rel];exact ⟨b,L,n,ro,m-l,M,N,ad,O,rfl,.inl (by omega),by omega,by omega,by omega,.inr (by omega),f,R,by omega⟩
  .rw [zF A];simp only [Rel];exact ⟨b,L,n,ro+l * d.size,m-l,M,N,_,O,rfl,.inr (by rcases B with B | B;omega;rw [B,qes]),by omega,by omega,by omega,.inl (by omega),f,R,by omega⟩
end
end Go.E2
/- E2: single operations against the model's, sixth part: builds and builtins. -/
namespace Go.E2
open Go
section
variable {P:Program} {o:Oper} {a:Act} {H:Heap} {G:qe} {w:World} {fr:Fr}
theorem q24 (off:Nat):∀ (l:List Value) (k:Nat) (cs:Array Value),off+k+l.length<=cs.size->
  ((l.zipIdx k).foldl (λ(cs:Array Value) (x:Value×Nat)=>cs.setIfInBounds (off+x.2) x.1) cs).toList=cs.toList.take (off+k)++l++cs.toList.drop (off+k+l.length)
 | [],k,cs,_=>by simp
 | v::l,k,cs,h=>by
  simp only [List.zipIdx_cons,List.foldl_cons];rw [q24 off l (k+1) (cs.setIfInBounds (off+k) v) (by simp at h ⊢;omega)];have e:=list_seg_step cs.toList (off+k) v l (by simp at h ⊢;omega);simpa [Array.toList_setIfInBounds,Nat.add_assoc] using e
theorem q6y {cs a:List V} {l x:List Value} {off:Nat} (h:qi G w cs l) (b:qi G w a x):qi G w (setCells cs off a) (l.take off++x++l.drop (off+x.length)):=by
 unfold setCells;rw [b.length];exact ((h.take _).append b).append (h.drop _)
theorem qng (place:Nat->Option (Nat×Nat)):∀ (parts:List (Nat×V)) (b:List (Nat×Value)) (cells cs:List V) (a:Array Value),qi G w cells a.toList->
  parts.map (·.1)=b.map (·.1)->qi G w (parts.map (·.2)) (b.map (·.2))->qhx place cells parts=some cs->∃ c,Instr.fill place a b=some c/\qi G w cs c.toList
 | [],b,cells,cs,a,f,d,e,h=>by
  cases b with
  | nil=>simp only [qhx,zS] at h;subst h;exact ⟨a,rfl,f⟩
  | cons x r=>simp at d
 | (i,v)::parts,b,cells,cs,a,f,d,e,h=>by
  cases b with
  | nil=>simp at d
  | cons x r=>
   obtain ⟨j,y⟩:=x;simp only [List.map_cons,List.cons.injEq] at d;obtain ⟨rfl,d⟩:=d;simp only [List.map_cons] at e;rw [qi.q74] at e;simp only [qhx] at h;split at h
   .cases h
   .rename_i off size m;simp only [cond_eq_ite,zA,Nat.beq_eq,Nat.ble_eq] at h;split at h
    .rename_i k;have l:=qgn e.1;have n:=l.length;have g:=f.length;simp only [Array.length_toList] at n g;have o:(y.cells.zipIdx.foldl (λ(cs:Array Value) (x:Value×Nat)=>cs.setIfInBounds (off+x.2) x.1) a).toList=a.toList.take off++y.cells.toList++a.toList.drop (off+y.cells.toList.length):=by
      have:=q24 off y.cells.toList 0 a (by simp;omega);simp only [Nat.add_zero] at this;rw [<-this,<-Array.foldl_toList,Array.toList_zipIdx]
     obtain ⟨c,p,q⟩:=qng place parts r (setCells cells off v.cells) cs _ (by rw [o];exact q6y f l) d e.2 h;refine ⟨c,?_,q⟩;have s:y.cells.size=size:=by omega
     have t:¬ (off+y.cells.size > a.size):=by omega
     simp only [Instr.fill,m];rw [zF (by simp only [s,ne_eq,not_true_eq_false,decide_false,Bool.false_or,decide_eq_true_eq];omega)];exact p
    .cases h
theorem qu4 (d:Sim H G w) (e:SimFr G w fr a) {parts:Array (Nat×Operand)} {b:List V} (h:qcy fr H (parts.toList.map (·.2))=some b) :
  (((parts.toList.map (·.1)).zip b).map (·.1)=((parts.map λ(x:Nat×Operand)=>(x.1,a.eval x.2)).toList).map (·.1))/\
  qi G w (((parts.toList.map (·.1)).zip b).map (·.2)) (((parts.map λ(x:Nat×Operand)=>(x.1,a.eval x.2)).toList).map (·.2)):=by
 have c:=qie d e h;have f:=c.length;simp only [List.length_map,Array.length_toList] at f;constructor
 .rw [List.map_fst_zip (by simp;omega)];simp
 .rw [List.map_snd_zip (by simp;omega)];simpa [List.map_map,Function.comp_def] using c
def placeOf (f:Field):Sem (Nat×Nat):=do pure (f.offset,<-sizeOf f.type)
theorem qv8 (w':World):∀ (l:List Field),(∀ f ∈ l,∃ ti,typeOf P f.type=some ti)->
  ∃ a:List (Nat×Nat),(l.mapM placeOf).run P w'=.ok a w'/\∀ i:Nat,a[i]? = (l[i]?).bind λf=>(typeOf P f.type).map λc=>(f.offset,c.size)
 | [],_=>⟨[],by simp,λi=>by simp⟩
 | f::l,h=>by
  obtain ⟨a,d,e⟩:=qv8 w' l (λg j=>h g (by simp [j]));obtain ⟨ti,b⟩:=h f (by simp);have k:(placeOf f).run P w'=.ok (f.offset,ti.size) w':=by simp [placeOf,ku b]
  refine ⟨(f.offset,ti.size)::a,?_,λi=>?_⟩
  .simp [List.mapM_cons,k,d]
  .cases i with
   | zero=>simp [b]
   | succ i=>simpa using e i
theorem qz2 (k:Sim H G w) (e:SimFr G w fr a) {t:TypeId} {ti:TI} (l:typeOf P t=some ti) {b:Array Field} (hu:ti.under=.struct b) {parts:Array (Nat×Operand)} (q:o.op=.build t parts) {n cs:List V}
  (r:qcy fr H (parts.toList.map (·.2))=some n) (c:∀ f ∈ b.toList,∃ d,typeOf P f.type=some d)
  (h:qhx (λ(i:Nat)=>(b[i]?).bind λ(f:Field)=>(typeOf P f.type).map λd=>(f.offset,d.size)) ti.zero.cells ((parts.toList.map (·.1)).zip n)=some cs):ja P o a H G w H (.val (.agg cs)):=by
 obtain ⟨z,s,_,u⟩:=qe4 l w;have j:P.underlying t=some (.struct b):=hu ▸ (qo l).1;obtain ⟨p1,p2⟩:=qu4 k e r;obtain ⟨p,m1,v⟩:=qv8 (P:=P) w b.toList c;obtain ⟨g,y,A⟩:=qng _ _ _ _ _ z.cells (qgn (u G w)) p1 p2 h;refine ja.pure k (x:=.agg g) ?_ (by simp only [Rel];exact ⟨g,rfl,A⟩);have B:(b.mapM placeOf).run P w=.ok p.toArray w:=by
  rw [Array.mapM_eq_mapM_toList];simp only [Sem.run_map,m1,Result.andThen_ok]
 have C:(λ(i:Nat)=>p.toArray[i]?)=(λ(i:Nat)=>(b[i]?).bind λ(f:Field)=>(typeOf P f.type).map λd=>(f.offset,d.size)):=by
  funext i;rw [List.getElem?_toArray,v i,Array.getElem?_toList]
 have D:(b.mapM (m:=Sem) λ(f:Field)=>do pure (f.offset,<-sizeOf f.type))=b.mapM placeOf:=rfl;simp only [execOp,q,Sem.run_bind,Instr.build,s,Result.andThen_ok,run_underlying j,D,B,C,y,Sem.run_pure]
theorem q1x (j:Sim H G w) (e:SimFr G w fr a) {t c:TypeId} {n:Nat} {ti d:TI} (k:typeOf P t=some ti) (hu:ti.under=.array n c) (f:typeOf P c=some d) {parts:Array (Nat×Operand)} (m:o.op=.build t parts) {l cs:List V}
  (p:qcy fr H (parts.toList.map (·.2))=some l) (h:qhx (λi=>some (i * d.size,d.size)) ti.zero.cells ((parts.toList.map (·.1)).zip l)=some cs):ja P o a H G w H (.val (.agg cs)):=by
 obtain ⟨z,q,_,r⟩:=qe4 k w;have g:P.underlying t=some (.array n c):=hu ▸ (qo k).1;obtain ⟨p1,p2⟩:=qu4 j e p;obtain ⟨b,s,u⟩:=qng _ _ _ _ _ z.cells (qgn (r G w)) p1 p2 h;refine ja.pure j (x:=.agg b) ?_ (by simp only [Rel];exact ⟨b,rfl,u⟩);simp only [execOp,m,Sem.run_bind,Instr.build,q,Result.andThen_ok,run_underlying g,ku f,s,Sem.run_pure]
theorem zi1 (a:Array Value) (n:Nat):((Array.range (n * a.size)).map (λi=>a[i % a.size]!)).toList=(List.replicate n a.toList).flatten:=by
 rw [Array.toList_map,Array.toList_range]
 induction n with
 | zero=>simp
 | succ n b=>
  rw [Nat.succ_mul,List.range_add,List.map_append,b,List.replicate_succ',List.flatten_concat,List.map_map];congr 1;apply List.ext_getElem
  .simp
  .intro i d c;have hi:i<a.size:=by simpa using c
   simp [Nat.mod_eq_of_lt hi,hi]
theorem zds {z:List V} {a:Array Value} (h:qi G w z a.toList) (n:Nat):qi G w (List.replicate n z).flatten ((Array.range (n * a.size)).map (λi=>a[i % a.size]!)).toList:=by
 rw [zi1]
 induction n with
 | zero=>exact qi.nil
 | succ n b=>simpa [List.replicate_succ] using h.append b
theorem q0j {e:TypeId} {cells:Array Value}:(Go.newRow e cells).run P w=.ok ⟨w.heap.size,0,none⟩ (push w (.cells cells e)):=by
 simp [Go.newRow];rfl
theorem q6p {nm b n sz c:Nat} {w0:World} {arr:Array Value} {e:TypeId} {len:Nat} (a:b=w0.heap.size) (hlen:len<=c) (f:c * sz=n) (g:arr.size=n) :
  Rel (qh0 G nm 0 (b,0,n)) (push w0 (.cells arr e)) (.slice nm 0 0 len sz (some c)) (.slice (some ⟨b,0,none⟩) len c):=by
 subst a;have:len * sz<=c * sz:=zU _ hlen;simp only [Rel];exact ⟨w0.heap.size,0,n,0,c,e,arr.size,_,qc7 _ _ _ _,rfl,.inr rfl,hlen,zN _,by omega,.inl rfl,(λk d=>by cases d;exact ⟨rfl,by omega⟩),qm1,by omega⟩
theorem q8t {α:Type} (n:Nat) (l:List α):(List.replicate n l).flatten.length=n * l.length:=by
 simp
theorem qs2 (place:Nat->Option (Nat×Nat)):∀ (parts:List (Nat×V)) (cells cs:List V),qhx place cells parts=some cs->cs.length=cells.length
 | [],cells,cs,h=>by simp only [qhx,zS] at h;rw [h]
 | (i,v)::parts,cells,cs,h=>by
  simp only [qhx] at h;split at h
  .cases h
  .rename_i off a b;simp only [cond_eq_ite,zA,Nat.beq_eq,Nat.ble_eq] at h;split at h
   .rename_i c;rw [qs2 place parts _ cs h,qd8 (by omega)]
   .cases h
theorem q1y (v:Sim H G w) (e:SimFr G w fr a) {t j:TypeId} {len:Nat} {ti b:TI} (C:typeOf P t=some ti) (hu:ti.under=.slice j) (c:typeOf P j=some b) {parts:Array (Nat×Operand)} (y:o.op=.buildSlice t len parts) {A cs:List V}
  (D:qcy fr H (parts.toList.map (·.2))=some A) (J:len * b.size<=16777216) (h:qhx (λi=>some (i * b.size,b.size)) (List.replicate len b.zero.cells).flatten ((parts.toList.map (·.1)).zip A)=some cs) :
  ja P o a H G w (qj7 H cs j) (.val (.slice H.next 0 0 len b.size (some len))):=by
 obtain ⟨z,E,g,F⟩:=qe4 c w;have k:z.cells.size=b.size:=by
  obtain ⟨_,_,i,K,hi,_,_,p,_,_,I⟩:=qo c;rw [hi] at g;simp only [zB,p,zS] at g;rw [<-g];exact I
 have l:P.underlying t=some (.slice j):=hu ▸ (qo C).1;obtain ⟨p1,p2⟩:=qu4 v e D;have m:=zds (qgn (F G w)) len;rw [k] at m;obtain ⟨q,r,B⟩:=qng _ _ _ _ _ _ m p1 p2 h;have d:=v.newRow B [] j true (λ_=>rfl);simp only [zJ,Array.toArray_toList] at d;have f:cs.length=len * b.size:=by
  rw [qs2 _ _ _ _ h,q8t,(qo c).2.2.choose_spec.choose_spec.2.2.2.2.2.1]
 refine ⟨.slice (some ⟨w.heap.size,0,none⟩) len len,_,_,?_,d,?_⟩
 .have s:¬ (len * b.size > 2 ^ 24):=by omega
  by_cases u:len * b.size=0
  .have n:Instr.fill (λi=>some (i * b.size,b.size)) #[] (Array.map (λ(x:Nat×Operand)=>(x.1,a.eval x.2)) parts).toList=some q:=by
    rw [u,Array.range_zero'] at r;simpa using r
   simp only [Array.toList_map] at n;simp [execOp,y,Instr.buildSlice,run_underlying l,ku c,u,n,q0j,Array.range_zero']
  .simp only [execOp,y,Sem.run_bind,Instr.buildSlice,run_underlying l,Result.andThen_ok,ku c,s,if_false,u,E,Sem.run_pure,k,r,q0j]
 .have:=B.length;exact q6p rfl (zN _) f.symm (by simpa [f] using this.symm)
end
end Go.E2
/- E2: single operations against the model's, seventh part. -/
namespace Go.E2
open Go
section
variable {P:Program} {o:Oper} {a:Act} {H:Heap} {G:qe} {w:World} {fr:Fr}
theorem zfw {c:Go.Call} {x:V} (b:qi G w [x] (c.args.map a.eval).toList):∃ rx,c.args.map a.eval = #[rx]/\Rel G w x rx:=by
 simp only [qi] at b;obtain ⟨rx,f,d,e,rfl⟩:=b;exact ⟨rx,by apply Array.ext';simpa using d,e⟩
theorem q08 {c:Go.Call} {x y:V} (d:qi G w [x,y] (c.args.map a.eval).toList):∃ rx b,c.args.map a.eval = #[rx,b]/\Rel G w x rx/\Rel G w y b:=by
 simp only [qi] at d;obtain ⟨rx,h,e,f,b,i,rfl,g,rfl⟩:=d;exact ⟨rx,b,by apply Array.ext';simpa using e,f,g⟩
theorem zge {α:Type} {x:Array α} {l:List α} (h:x.toList=l):x=l.toArray:=by apply Array.ext';simpa using h
theorem qu1 (g:Sim H G w) (e:SimFr G w fr a) {c:Go.Call} (i:o.op=.call c) (j:c.callee=.builtin .len) {x:V} {t:TypeId} {n:Nat} (b:qcy fr H c.args.toList=some [x]) (f:c.argTypes.toList=[t])
  (d:∀ rx,Rel G w x rx->∀ ty,(Builtin.len_ #[t] ty #[rx]).run P w=.ok (goInt n) w):ja P o a H G w H (.val (qh7 n)):=by
 obtain ⟨k,cs,h⟩:=qgh g e i j b (P:=P);obtain ⟨rx,l,m⟩:=zfw k;rw [l,zge f] at h;refine ja.pure g (x:=goInt n) ?_ (by simp [qh7,goInt,Rel]);rw [h];simp only [builtin,Sem.run_bind,d rx m,Result.andThen_ok,Sem.run_pure]
theorem q3t (m:Sim H G w) (e:SimFr G w fr a) {c:Go.Call} (p:o.op=.call c) (q:c.callee=.builtin .append) {s x v:V} {H':Heap} {t u d:TypeId} {ti f g:TI} (b:qcy fr H c.args.toList=some [s,x]) (i:c.argTypes.toList=[t,u])
  (r:typeOf P t=some ti) (hu:typeOf P u=some f) (j:ti.under=.slice d) (k:(∃ y,f.under=.slice y)∨f.under=.string) (l:typeOf P d=some g) (h:qbs H d g.size g.bytes s x=some (v,H')):ja P o a H G w H' (.val v):=by
 obtain ⟨z,cs,n⟩:=qgh m e p q b (P:=P);obtain ⟨rx,K,A,B,C⟩:=q08 z;rw [A,zge i] at n;obtain ⟨D,w',E,F,I,J⟩:=qe8 (ty:=o.type) m (j ▸ (qo r).1) (qo hu).1 k l B C h;refine ⟨D,w',E,?_,I,J⟩;rw [n];simp only [builtin,Sem.run_bind,F,Result.andThen_ok,Sem.run_pure]
theorem qnb {G:qe} {w:World}:∀ {cs:List V} {l:List UInt8} {d:List Value},qi G w cs d->qc8 cs=some l->d=l.map λb=>Value.int .u8 b.toNat
 | [],l,d,c,h=>by
  simp only [qi] at c;simp only [qc8,zS] at h;subst h;subst c;rfl
 | v::cs,l,d,c,h=>by
  simp only [qi] at c;obtain ⟨x,i,rfl,e,f⟩:=c;unfold qc8 at h;split at h
  .rename_i a;cases a
  .rename_i n j a;cases a;split at h
   .rename_i k;simp only [zM] at h;obtain ⟨m,g,rfl⟩:=h;simp only [Rel] at e;subst e;rw [qnb f g];simp only [List.map_cons,List.cons.injEq,Value.int.injEq,true_and,and_true];rw [UInt8.toNat_ofNat'];omega
   .cases h
  .cases h
theorem qkx {w:World} {b a:Nat} {n:Nat} (h:a≠b):(w.freeze ⟨b,0,none⟩ n).heap[a]? = w.heap[a]?:=by
 unfold World.freeze;split
 .rfl
 .simp only [Array.getElem?_modify];rw [zF (λe=>h e.symm)]
theorem zie {l:List UInt8} {n:Int} (h:l.length=n.toNat) (b:0<n):l≠[]:=by
 intro a;subst a;simp at h;omega
theorem zrr {l:List UInt8} {n:Int} (h:l.length=n.toNat) (a:0<n):n=(l.length:Int):=by omega
theorem zh9 {l:List UInt8} {n:Int} (h:l.length=n.toNat) (a:n<=140737488355328):l.length<=9223372036854775807:=by omega
theorem toNat_ne {n:Int} (a:0<n):n.toNat≠0:=by omega
theorem zmt {n m k:Nat} {a b:Nat} (c:a=n) (d:n<=m) (e:m-0<=k) (f:b=a):b<=k:=by omega
theorem Sim.freeze (k:Sim H G w) {nm g b n:Nat} {cells:List V} {elem:TypeId} {floor q:Nat} {exact:Bool}
  (K:H.get nm=some (.row cells elem g floor q exact)) (u:G nm g=some (b,0,n)) (z:H.ro<=nm) {arr:Array Value} {fz:Nat×Nat} (A:w.heap[b]? = some (.cells arr elem fz)) {m:Nat} (hm:m≠0) :
  Step H G w {H with qbq:=H.qbq.set nm (.row cells elem g floor (max q m) exact)} G (w.freeze ⟨b,0,none⟩ m):=by
 obtain ⟨R,S,T⟩:=k.obj nm _ (k.lt _ _ _ _ _ u).2 K;have r:(w.freeze ⟨b,0,none⟩ m).heap.size=w.heap.size:=by unfold World.freeze;split<;>simp
 have U:∃ d,(w.freeze ⟨b,0,none⟩ m).heap[b]? = some (.cells arr elem d)/\∀ i,m<=i->i<d.2->i<fz.2:=by
  unfold World.freeze;rw [zF hm];obtain ⟨lo,hi⟩:=fz;refine ⟨if (lo == hi)=true then (0,0+m) else (min lo 0,max hi (0+m)),by simp only [Array.getElem?_modify,if_true,A,zH],λi v f=>?_⟩;split at f
  .simp only at f;omega
  .simp only at f ⊢;omega
 obtain ⟨d,s,B⟩:=U;refine k.turn nm _ (λm=>qw8 m) (zN _) (λ_ h _=>h) rfl rfl z (k.lt _ _ _ _ _ u).2 (.inr (by rw [K];simp)) (λ_ _ _ h=>h) (λ_ _ _ h _=>h) (by rw [r];exact zN _)
  (λL p l M a=>⟨by rw [r];exact (k.lt _ _ _ _ _ a).1,.inr ⟨_,_,a⟩⟩) (λ_ _ _ _ _ _ _ v f _=>(k.inj _ _ _ _ _ _ _ _ _ v f).2) (λp W C=>qkx (λe=>C g 0 n (e ▸ u))) ?_ ?_ (by unfold World.freeze;split<;>exact ⟨rfl,rfl⟩)
 .intro p x y;by_cases c:p=b
  .subst c;simp only [World.shape?,A,s] at y ⊢;exact y
  .simp only [World.shape?,qkx c] at y ⊢;exact y
 .intro j;refine ⟨R,S,λL p l M a=>?_⟩;obtain ⟨X,Y,Z,s4,D,s5⟩:=T L p l M a;refine ⟨X,Y,Z,s4,D,λE=>?_⟩;obtain ⟨t,F,I,N,O,P,Q⟩:=s5 E;by_cases c:p=b
  .subst c;have J:(0:Nat)=l:=(k.inj _ _ _ _ _ _ _ _ _ u a).2;subst J;rw [A] at I;cases I;exact ⟨arr,d,s,N,kl.ext j O,λo i v f=>P o i (by omega) (B i (by omega) f),Q⟩
  .exact ⟨t,F,(qkx c).trans I,N,kl.ext j O,λo i v f=>P o i (by omega) f,Q⟩
theorem qw1 (s:Sim H G w) (e:SimFr G w fr a) {c:Go.Call} (ho:o.op=.call c) (hc:c.callee=.builtin .unsafeString) {nm g lim:Nat} {n:Int} {B it elem:TypeId} {ti T:TI} {cells:List V} {floor t:Nat} {exact:Bool}
  (k:qcy fr H c.args.toList=some [.ptr nm g 0 lim,.int .i64 n]) (C:c.argTypes.toList=[B,it]) (ht:typeOf P B=some ti) (D:ti.under=.pointer elem) (E:typeOf P elem=some T) (F:T.size=1)
  (p:H.get nm=some (.row cells elem g floor t exact)) (q:0<n) (I:n<=140737488355328) {cs:List V} (d:jb H n.toNat (.ptr nm g 0 lim)=some cs) {l:List UInt8} (hl:qc8 cs=some l) {H':Heap} (hu:H.upd nm (.row cells elem g floor (max t n.toNat) exact)=some H') :
  ja P o a H G w H' (.val (.str l)):=by
 obtain ⟨hr,a6,U⟩:=qgh s e ho hc k (P:=P);obtain ⟨rx,ry,h1,J,W⟩:=q08 hr;rw [h1,zge C] at U;obtain ⟨ad,rl,X,hh,u,Y⟩:=qf9 s J d;simp only [Rel] at J W;obtain ⟨b,sh,m,K,q1,q2,Z⟩:=J;subst W;have L:sh=0:=by omega
 subst L;rw [Z] at X;cases X;obtain ⟨u1,rfl⟩:=qi9 hu;obtain ⟨p1,p0,p2⟩:=s.obj nm _ (s.lt _ _ _ _ _ K).2 p;obtain ⟨_,_,_,_,_,p5⟩:=p2 g b 0 m K;obtain ⟨r,fz,M,a2,_,_,_⟩:=p5 p1;have h:=qnb u hl;have f:l.length=n.toNat:=by
  have:=u.length;rw [h,List.length_map] at this;omega
 have v:w.shape? b=some (elem,r.size):=by simp only [World.shape?,M]
 have y:P.cellsOf elem=1:=by
  obtain ⟨_,_,i,z,hi,N,_⟩:=qo E;simp [Program.cellsOf,hi,N,F]
 have O:n.toNat<=m:=by
  clear p5 p2 M y;simp only [jb,p,cond_eq_ite,zA,Nat.ble_eq] at d;split at d
  .rename_i hq;exact zR (Nat.zero_add n.toNat ▸ hq.1.2) q2
  .cases d
 have Q:l.length<=r.size:=zmt rfl O a2 f;have R:l≠[]:=zie f q;have S:(n:Int)=(l.length:Int):=zrr f q;have A:=Lib.run_unsafeString_row (P:=P) w B it o.type elem (D ▸ (qo ht).1) y b r.size v l R Q (zh9 f I) (λj x hj=>by
  have:=hh j (.int .u8 x.toNat) (by rw [h];simp [hj]);exact this)
 refine ⟨.string ⟨l.toArray⟩,_,G,?_,s.freeze p K u1 M (m:=n.toNat) (toNat_ne q),by simp only [Rel]⟩;rw [U,Z,S];simp only [builtin,Sem.run_bind,A,Result.andThen_ok,Sem.run_pure,Nat.sub_zero];rfl
theorem qr2 (f:Sim H G w) (e:SimFr G w fr a) {c:Go.Call} (j:o.op=.call c) (k:c.callee=.builtin .unsafeString) {l it:TypeId}
  (b:qcy fr H c.args.toList=some [.nilp,.int .i64 0]) (d:c.argTypes.toList=[l,it]):ja P o a H G w H (.val (.str [])):=by
 obtain ⟨m,n,g⟩:=qgh f e j k b (P:=P);obtain ⟨rx,q,p,h,i⟩:=q08 m;rw [p,zge d] at g;simp only [Rel] at h i;subst h;subst i;refine ja.pure f (x:=.string .empty) ?_ (by simp only [Rel];rfl);rw [g];simp only [builtin,Sem.run_bind,Lib.run_unsafeString_none,Result.andThen_ok,Sem.run_pure]
theorem q6f (A:Sim H G w) (e:SimFr G w fr a) {src dst i:TypeId} {N O Q:TI} (B:typeOf P src=some N) (C:typeOf P dst=some O) (D:typeOf P i=some Q) (E:N.under=.slice i) (F:Q.under=.int .u8)
  (I:O.under=.string) {x:Operand} (S:o.op=.convert src dst x) {p:V} (T:opd fr H x=some p) (J:∀ s,p≠.str s) {r:Nat×List V} (j:k7 H 1 p=some r) {l:List UInt8} (K:qc8 r.2=some l):ja P o a H G w H (.val (.str l)):=by
 have d:=qz A e T;have q:P.underlying src=some (.slice i):=E ▸ (qo B).1;have t:P.underlying dst=some .string:=I ▸ (qo C).1;have u:P.underlying i=some (.int .u8):=F ▸ (qo D).1;obtain ⟨n,cs⟩:=r;have h:execOp a.eval o=(do let v <-convert src dst (a.eval x);pure (.value v)):=by simp only [execOp,S]
 generalize a.eval x=rx at d h;obtain ⟨Z,U,h2,W⟩:=qo0 A d j;have R:=(W w rfl).2;have L:=qnb U K;cases p with
 | str s=>exact (J s rfl).elim
 | nils=>
  simp only [Rel] at d;simp only [k7,V.qd1,qcm,zS,zP] at j;obtain ⟨rfl,rfl⟩:=j;simp only [qc8,zS] at K;subst K;refine ja.pure A (x:=.string .empty) ?_ (by simp only [Rel];rfl);simp only [h,Sem.run_bind,d,run_convert_bytes_nil w src i q u 0 0 dst t,Result.andThen_ok,Sem.run_pure]
 | slice nm g off len sz cap=>
  have f:=d;simp only [Rel] at f;obtain ⟨b,sh,m,ro,c,e',k,ad,e1,X,_⟩:=f;subst X;have y:n=len:=qrm j;subst y;have M:(loadCells ad n).run P w=.ok ((l.map λx=>(x.toNat:Int)).map (Value.int .u8)).toArray w:=by
   simp only [Builtin.firstCells,Nat.mul_one] at R;rw [R,L];simp [List.map_map]
  have z:(⟨ByteArray.empty.data++((l.map λx=>(x.toNat:Int)).map λn=>UInt8.ofNat n.toNat).toArray⟩:ByteArray)=⟨l.toArray⟩:=by
   apply ByteArray.ext;have Y:(l.map λx=>(x.toNat:Int)).map (λn=>UInt8.ofNat n.toNat)=l:=by
    rw [List.map_map]
    conv=>rhs;rw [<-List.map_id l]
    refine List.map_congr_left λx _=>?_;simp
   rw [Y];show #[]++l.toArray=l.toArray;simp
  refine ja.pure A (x:=.string ⟨l.toArray⟩) ?_ (by simp only [Rel]);simp only [h,Sem.run_bind,run_convert_bytes_string w src dst i _ _ _ q u t,run_bytesToString w _ _ _ _ M,Result.andThen_ok,Sem.run_pure,foldl_push_bytes,z]
 | _=>simp [k7,V.qd1,qcm] at j
end
end Go.E2
/- E2: single operations on maps against the model's. -/
namespace Go.E2
open Go
section
variable {P:Program} {o:Oper} {a:Act} {H:Heap} {G:qe} {w:World} {fr:Fr}
theorem q2p (x y:List UInt8):((⟨x.toArray⟩:ByteArray) == ⟨y.toArray⟩)=(x == y):=by
 have a:((⟨x.toArray⟩:ByteArray) == ⟨y.toArray⟩)=(x.toArray == y.toArray):=rfl;rw [a,Bool.eq_iff_iff,beq_iff_eq,beq_iff_eq];exact ⟨λh=>by simpa using congrArg Array.toList h,λh=>by rw [h]⟩
theorem qq7 {f:TypeDesc} {x y:V} {rx e:Value} (c:Rel G w x rx) (d:Rel G w y e) {b:Bool} (h:qlg f x y=some b):Instr.sameNow f rx e=some b/\(b=true->e=rx/\Instr.sameBits 10000 e rx=true):=by
 unfold qlg at h;split at h
 .rename_i k i l j;simp only [Rel] at c d;subst c;subst d;split at h
  .rename_i g;subst g;cases h;refine ⟨by simp [Instr.sameNow],λa=>?_⟩;simp only [beq_iff_eq] at a;subst a;exact ⟨rfl,by simp [Instr.sameBits]⟩
  .cases h
 .rename_i s t;simp only [Rel] at c d;subst c;subst d;cases h;refine ⟨by simp only [Instr.sameNow,q2p],λa=>?_⟩;simp only [beq_iff_eq] at a;subst a;exact ⟨rfl,by simp [Instr.sameBits,q2p]⟩
 .rename_i s t;simp only [Rel] at c d;subst c;subst d;cases h;refine ⟨by simp [Instr.sameNow],λa=>?_⟩;simp only [beq_iff_eq] at a;subst a;exact ⟨rfl,by simp [Instr.sameBits]⟩
 .cases h
theorem qgt {g:TypeDesc} {k:V} {c:Value} (m:Rel G w k c):∀ (d:List (V×V×Nat)) (l:List MapEntry) (i:Nat) (r:Option (Nat×V)),qa9 G w d l->qo3 g k d i=some r->
  (r=none/\Instr.findNow g c l i=some none)∨∃ j v x e,r=some (j,v)/\Instr.findNow g c l i=some (some (j,x))/\Rel G w v x/\i<=j/\l[j-i]? = some e/\Instr.sameBits 10000 e.key c=true
 | [],l,i,r,a,h=>by
  simp only [qa9] at a;subst a;simp only [qo3,zS] at h;subst h;exact .inl ⟨rfl,rfl⟩
 | (D,v,b)::d,l,i,r,a,h=>by
  simp only [qa9] at a;obtain ⟨e,s,rfl,p,t,_,u⟩:=a;simp only [qo3] at h;split at h
  .rename_i n;cases h;obtain ⟨f,q⟩:=qq7 m p n;refine .inr ⟨i,v,e.val,e,rfl,by simp only [Instr.findNow,f],t,zN _,by simp,(q rfl).1 ▸ (q rfl).2⟩
  .rename_i n;obtain ⟨f,_⟩:=qq7 m p n;rcases qgt m d s (i+1) r u h with ⟨r1,o⟩ | ⟨j,y,x,z,r1,o,A,E,B,C⟩
   .exact .inl ⟨r1,by simp only [Instr.findNow,f];exact o⟩
   .refine .inr ⟨j,y,x,z,r1,by simp only [Instr.findNow,f];exact o,A,by omega,?_,C⟩;rw [show j-i=(j-(i+1))+1 by omega,List.getElem?_cons_succ];exact B
  .cases h
theorem run_checkKey {b:TypeId} {a:TypeDesc} (hu:P.underlying b=some a) (c:plainKey a=true) (e:Bool) (n:Nat) (v:Value):(Instr.checkKey e (n+1) b v).run P w=.ok () w:=by
 cases a<;>simp [plainKey] at c<;>simp [Instr.checkKey,run_underlying hu]
theorem run_findKey {a:TypeId} {b:TypeDesc} (hu:P.underlying a=some b) {c:Value} {l:List MapEntry} {r:Option (Nat×Value)} (h:Instr.findNow b c l 0=some r):(Instr.findKey a c l).run P w=.ok r w:=by
 simp [Instr.findKey,run_underlying hu,h]
theorem qyx {sp:Nat->Option (List V->Heap->Option (CR×Heap))} {b:TypeId} {d:TypeDesc} (hu:P.underlying b=some d) {k:V} {a:Value} (f:Rel G w k a) {es:List (V×V×Nat)} {l:List MapEntry} {r:Option (Nat×V)} (hm:qa9 G w es l) (h:qku (zj P sp) b d k es=some r) :
  (∀ e,(Instr.checkKey e 10000 b a).run P w=.ok () w)/\((r=none/\(Instr.findKey b a l).run P w=.ok none w)∨∃ j v x e,r=some (j,v)/\(Instr.findKey b a l).run P w=.ok (some (j,x)) w/\Rel G w v x/\l[j]? = some e/\Instr.sameBits 10000 e.key a=true):=by
 unfold qku at h;rw [cond_eq_ite] at h;split at h
 .rename_i g;refine ⟨λe=>run_checkKey hu g e 9999 a,?_⟩;rcases qgt f es l 0 r hm h with ⟨r1,c⟩ | ⟨j,i,x,m,r1,c,n,q,o,p⟩
  .exact .inl ⟨r1,run_findKey hu c⟩
  .exact .inr ⟨j,i,x,m,r1,run_findKey hu c,n,by simpa using o,p⟩
 .cases h
theorem qz3 (f:Sim H G w) (e:SimFr G w fr a) {t l m:TypeId} {ti:TI} (s:typeOf P t=some ti) (h:ti.under=.map l m) {r:Option Operand} (p:o.op=.makeMap t r) (u:∀ x,r=some x->∃ k n,opd fr H x=some (.int k n)) :
  ja P o a H G w (H.new (.map [] 0)) (.val (.map H.next)):=by
 have i:P.underlying t=some (.map l m):=h ▸ (qo s).1;have c:=f.new (.map [] 0) (.map #[] 0) 0 (λ_ g b y n d=>by
  simp only [qh0] at d;by_cases j:g=0
  .rw [zT ⟨trivial,j⟩] at d;cases d;exact ⟨j,#[],qda _ _,by simp [qa9]⟩
  .rw [zF (λx=>j x.2),f.fresh] at d;cases d)
 refine ⟨.map (some w.heap.size),_,_,?_,c,?_⟩
 .cases r with
  | none=>simp [execOp,p,Instr.makeMap];rfl
  | some x=>
   obtain ⟨k,n,v⟩:=u x rfl;have q:=qz f e v;simp only [Rel] at q;simp [execOp,p,Instr.makeMap,q,run_underlying i,asInt,asIntOf];rfl
 .simp only [Rel];exact ⟨w.heap.size,0,0,qc7 _ _ _ _,rfl⟩
theorem zim {sp:Nat->Option (List V->Heap->Option (CR×Heap))} (B:Sim H G w) (e:SimFr G w fr a) {t f Q:TypeId} {ti O D:TI} (ht:typeOf P t=some ti) (R:ti.under=.map f Q) (hk:typeOf P f=some O) (he:typeOf P Q=some D) {x y:Operand} {ok:Bool} (ho:o.op=.lookup t x y ok) {m k:V}
  {r:Option (Nat×V)} (h:(match m with
    | .nilm=>qku (zj P sp) f O.under k []
    | .map nm=>match H.get nm with
     | some (.map p _)=>qku (zj P sp) f O.under k p
     | _=>none
    | _=>none:Option (Option (Nat×V)))=some r) (hx:opd fr H x=some m) (hy:opd fr H y=some k):ja P o a H G w H (match r with
     | some (_,x)=>.val (if ok then .tuple [x,.bool true] else x)
     | none=>.val (if ok then .tuple [D.zero,.bool false] else D.zero)):=by
 have E:P.underlying t=some (.map f Q):=R ▸ (qo ht).1;have S:=(qo hk).1;have F:=qz B e hx;have Z:=qz B e hy;obtain ⟨z,hz,_,I⟩:=qe4 he w;obtain ⟨g,J⟩:∃ g,g=a.eval x:=⟨_,rfl⟩;obtain ⟨c,K⟩:∃ c,c=a.eval y:=⟨_,rfl⟩;rw [<-J] at F;rw [<-K] at Z;have L:execOp a.eval o=(do let v <-Instr.lookup t g c ok;pure (.value v)):=by simp only [execOp,ho,J,K]
 have i:∀ (p:List (V×V×Nat)) (d:Array MapEntry),qa9 G w p d.toList->qku (zj P sp) f O.under k p=some r->
   (∀ s,(Instr.findKey f c d.toList).run P w=.ok s w->(∀ e,(Instr.checkKey e 10000 f c).run P w=.ok () w)->(Instr.lookup t g c ok).run P w=.ok (match s with
      | some (_,v)=>if ok then .tuple #[v,.bool true] else v
      | none=>if ok then .tuple #[z,.bool false] else z) w)->
   ja P o a H G w H (match r with
     | some (_,x)=>.val (if ok then .tuple [x,.bool true] else x)
     | none=>.val (if ok then .tuple [D.zero,.bool false] else D.zero)):=by
  intro p d hm T l;obtain ⟨C,T⟩:=qyx S Z hm T;rcases T with ⟨rfl,U⟩ | ⟨j,v,x',e',rfl,U,r3,_⟩
  .have W:=l _ U C;refine ja.pure B (x:=if ok then .tuple #[z,.bool false] else z) (by rw [L];simp only [Sem.run_bind,W,Result.andThen_ok,Sem.run_pure]) ?_;cases ok with
   | true=>
    simp only [if_true,Rel];exact ⟨_,rfl,qi.cons (I G w) (qi.cons (by simp only [Rel]) qi.nil)⟩
   | false=>exact I G w
  .have W:=l _ U C;refine ja.pure B (x:=if ok then .tuple #[x',.bool true] else x') (by rw [L];simp only [Sem.run_bind,W,Result.andThen_ok,Sem.run_pure]) ?_;cases ok with
   | true=>
    simp only [if_true,Rel];exact ⟨_,rfl,qi.cons r3 (qi.cons (by simp only [Rel]) qi.nil)⟩
   | false=>exact r3
 cases m with
 | nilm=>
  simp only [Rel] at F;refine i [] #[] (by simp [qa9]) h (λs u C=>?_);subst F;have A:=C true;have M:(Instr.findKey f c []).run P w=.ok s w:=u;simp only [Instr.lookup,Sem.run_bind,run_underlying E,Result.andThen_ok,Sem.run_pure,A,M,List.isEmpty_toArray,List.isEmpty_nil];cases s with
  | none=>simp [hz];try (cases ok<;>rfl)
  | some q=>obtain ⟨q1,q2⟩:=q;simp;try (cases ok<;>rfl)
 | map nm=>
  simp only at h;split at h
  .rename_i p ck X;simp only [Rel] at F;obtain ⟨b,sh,n,hg,rfl⟩:=F;obtain ⟨_,d,hb,N⟩:=B.obj nm _ (B.lt _ _ _ _ _ hg).2 X 0 b sh n hg;refine i p d N h (λs u C=>?_);have A:=C d.isEmpty;have Y:(getObj b).run P w=.ok (.map d ck) w:=by simp [getObj,Sem.run,hb]
   simp only [Instr.lookup,Sem.run_bind,run_underlying E,Result.andThen_ok,Sem.run_pure,Y,A,u];cases s with
   | none=>simp [hz];try (cases ok<;>rfl)
   | some q=>obtain ⟨q1,q2⟩:=q;simp;try (cases ok<;>rfl)
  .cases h
 | _=>cases h
theorem qa9.append {d a:List (V×V×Nat)}:∀ {l c:List MapEntry},qa9 G w d l->qa9 G w a c->qa9 G w (d++a) (l++c):=by
 induction d with
 | nil=>intro l c h f;simp only [qa9] at h;subst h;exact f
 | cons e d g=>
  intro l c h f;obtain ⟨k,v,b⟩:=e;simp only [qa9] at h;obtain ⟨x,i,rfl,j,m,n,o⟩:=h;simp only [List.cons_append,qa9];exact ⟨x,i++c,rfl,j,m,n,g o f⟩
theorem qa9.modify {k x:V} {f rx:Value} (g:Rel G w k f) (j:Rel G w x rx):∀ {a:List (V×V×Nat)} {l:List MapEntry} (i:Nat),qa9 G w a l->qa9 G w (a.modify i λe=>(k,x,e.2.2)) (l.modify i λe=>{e with key:=f,val:=rx})
 | [],l,i,h=>by simp only [qa9] at h;subst h;cases i<;>simp [qa9]
 | (p,v,b)::a,l,0,h=>by
  simp only [qa9] at h;obtain ⟨y,m,rfl,n,o,c,d⟩:=h;simp only [List.modify_zero_cons,qa9];exact ⟨_,m,rfl,g,j,c,d⟩
 | (p,v,b)::a,l,i+1,h=>by
  simp only [qa9] at h;obtain ⟨y,m,rfl,n,o,c,d⟩:=h;simp only [List.modify_succ_cons,qa9];exact ⟨y,_,rfl,n,o,c,qa9.modify g j i d⟩
theorem qj9 {sp:Nat->Option (List V->Heap->Option (CR×Heap))} (A:Sim H G w) (e:SimFr G w fr a) {t O et:TypeId} {ti ki:TI} (ht:typeOf P t=some ti) (T:ti.under=.map O et) (hk:typeOf P O=some ki) {x y z:Operand} (Q:o.op=.mapUpdate t x y z∨o.op=.insert t x y z) {nm:Nat} {k v:V}
  (hx:opd fr H x=some (.map nm)) (hy:opd fr H y=some k) (hz:opd fr H z=some v) {es:List (V×V×Nat)} {B:Nat} (C:H.get nm=some (.map es B)) {r:Option (Nat×V)} (h:qku (zj P sp) O ki.under k es=some r) {H':Heap}
  (hu:(match r with
    | some (i,_)=>H.upd nm (.map (es.modify i λe=>(k,v,e.2.2)) B)
    | none=>H.upd nm (.map (es++[(k,v,B)]) (B+1)))=some H'):ja P o a H G w H' .skip:=by
 have D:P.underlying t=some (.map O et):=T ▸ (qo ht).1;have U:=(qo hk).1;have rm:=qz A e hx;have R:=qz A e hy;have W:=qz A e hz;obtain ⟨c,E⟩:∃ c,c=a.eval y:=⟨_,rfl⟩;obtain ⟨f,F⟩:∃ f,f=a.eval z:=⟨_,rfl⟩;rw [<-E] at R;rw [<-F] at W;simp only [Rel] at rm;obtain ⟨b,sh,n,S,X⟩:=rm;have Y:execOp a.eval o=(do Instr.mapUpdate t (.map (some b)) c f;pure .skip):=by
  rcases Q with Q | Q<;>simp only [execOp,Q,X,E,F]
 have p:=A.obj nm _ (A.lt _ _ _ _ _ S).2 C;obtain ⟨_,l,I,g⟩:=p 0 b sh n S;obtain ⟨hp,hf⟩:=qyx U R g h;have J:=hp false;have K:(getObj b).run P w=.ok (.map l B) w:=by simp [getObj,Sem.run,I]
 have q:∀ Z,(setObj b Z).run P w=.ok () (qpy w b Z):=λZ=>by simp [setObj,Sem.run,I,qpy]
 have a1:w.shape? b=none:=by simp only [World.shape?,I]
 have fin:∀ (s:List (V×V×Nat)) (d:Array MapEntry) (m:Nat),qa9 G w s d.toList->H.upd nm (.map s m)=some H'->(Instr.mapUpdate t (.map (some b)) c f).run P w=.ok () (qpy w b (.map d m))->ja P o a H G w H' .skip:=by
  intro s d m a6 a7 L;obtain ⟨u1,rfl⟩:=qi9 a7;refine ⟨qpy w b (.map d m),G,by rw [Y];simp only [Sem.run_bind,L,Result.andThen_ok,Sem.run_pure],A.setObj _ C S u1 _ I a1 (λM g' b' a8 m' u=>?_)⟩;obtain ⟨f0,ab,f1,_⟩:=p g' b' a8 m' u;subst f0;rw [S] at u;cases u;exact ⟨rfl,d,qo8 I,a6.ext M⟩
 rcases hf with ⟨rfl,r2⟩ | ⟨j,v',x',e',rfl,r2,r3,r5,r6⟩
 .refine fin _ (l.push {key:=c,val:=f,born:=B}) _ ?_ hu ?_
  .rw [Array.toList_push];exact g.append (by simp only [qa9];exact ⟨_,[],rfl,R,W,rfl,rfl⟩)
  .simp only [Instr.mapUpdate,Sem.run_bind,run_underlying D,Result.andThen_ok,K,J,r2,q]
 .refine fin _ (l.modify j λe=>{e with key:=c,val:=f}) _ ?_ hu ?_
  .rw [Array.toList_modify];exact qa9.modify R W j g
  .have N:((l[j]?).map (·.key)).getD c=e'.key:=by
    rw [Array.getElem?_toList] at r5;rw [r5];rfl
   have aa:(Instr.keyThatStays e'.key c).run P w=.ok c w:=by
    simp only [Instr.keyThatStays,r6,if_true,Sem.run_pure]
   simp only [Instr.mapUpdate,Sem.run_bind,run_underlying D,Result.andThen_ok,K,J,r2,N,aa,q]
theorem q9t (j:Sim H G w) (e:SimFr G w fr a) {t z:TypeId} {len:Nat} {ti c:TI} (K:typeOf P t=some ti) (hu:ti.under=.array len z) (A:typeOf P z=some c) {x:Operand} {lo hi:Option Operand} (L:o.op=.slice t x lo hi none) {nm g off lim:Nat} {m p:Option V} {v:V}
  (M:opd fr H x=some (.ptr nm g off lim)) (N:qmi fr H lo=some m) (O:qmi fr H hi=some p) {cells:List V} {elem:TypeId} {gen floor B:Nat} {exact:Bool} (C:H.get nm=some (.row cells elem gen floor B exact)) (D:floor<=g) (F:off+len * c.size<=lim)
  (h:qfv c.size (.slice nm g off len c.size (some len)) m p none=some v):ja P o a H G w H (.val v):=by
 have I:=qz j e M;have E:P.underlying t=some (.array len z):=hu ▸ (qo K).1;have r1:=qgi j e N;have Q:=qgi j e O;simp only [Rel] at I;obtain ⟨b,f,n,y,q4,q5,R⟩:=I;obtain ⟨_,_,q⟩:=j.obj nm _ (j.lt _ _ _ _ _ y).2 C;obtain ⟨_,k2,_,_,_,S⟩:=q g b f n y;obtain ⟨i,fz,T,a2,_⟩:=S D;have J:w.shape? b=some (elem,i.size):=by simp only [World.shape?,T]
 have r:Nat.beq c.size c.size=true:=by rw [Nat.beq_eq]
 rw [qfv,V.qgz] at h;simp only [qit,r,Bool.not_true,zQ,Option.getD_some,zH,zI,zM] at h;obtain ⟨s,U,l,W,rfl⟩:=h;obtain ⟨X,Y,Z⟩:=qfk (P:=P) (isSlice:=false) (cap:=len) r1 Q U W (zN _) (zN _);have a6:l * c.size<=s * c.size:=zU _ X;have a7:s * c.size<=len * c.size:=zU _ Y;have a8:(s-l) * c.size=s * c.size-l * c.size:=Nat.sub_mul _ _ _;have aa:(len-l) * c.size=len * c.size-l * c.size:=Nat.sub_mul _ _ _;have d:∀ k,some (len-l)=some k->len-l=k/\off+l * c.size+k * c.size<=n:=by
  intro k hk;cases hk;exact ⟨rfl,by omega⟩
 refine ja.pure j (x:=.slice (some (if len=l then ⟨b,off-f,none⟩ else ⟨b,off-f+l * c.size,none⟩)) (s-l) (len-l)) ?_ ?_
 .simp only [execOp,L,Option.map_none,Sem.run_bind,R,Instr.sliceAt,run_underlying E,Result.andThen_ok,Instr.sureAddr,Z,ku A,Sem.run_pure,qes]
 .by_cases u:len=l
  .rw [zT u];simp only [Rel];exact ⟨b,f,n,off-f,len-l,elem,i.size,_,y,rfl,.inr rfl,by omega,by omega,by omega,.inr (by omega),d,J,by omega⟩
  .rw [zF u];simp only [Rel];exact ⟨b,f,n,off-f+l * c.size,len-l,elem,i.size,_,y,rfl,.inr rfl,by omega,by omega,by omega,.inl (by omega),d,J,by omega⟩
end
end Go.E2
/- E2: ONE OPERATION: what E2 makes of it the model makes of it. -/
namespace Go.E2
open Go
section
variable {P:Program} {sp:Nat->Option (List V->Heap->Option (CR×Heap))} {o:Oper} {a:Act} {H:Heap} {G:qe} {w:World} {fr:Fr}
theorem q1z {d:Nat} {t:TypeId} {a:Array Field} (h:qhq P (d+1) t=true) (hu:P.underlying t=some (.struct a)):P.eqGuardType P.depth t=false:=by
 simp only [qhq,hu,zA,Bool.not_eq_true'] at h;exact h.1.2
theorem zb2 {op:BinOp} {t:TypeId} {x y:Operand} {p q v:V} {rx l:Value} {E:Env} (F:E=zj P sp) (A:Rel G w p rx) (B:Rel G w q l) (h:qbj E op t p q=some v)
  (e:p≠.nili∨q≠.nili∨(∃ c,x=.const c)∨(∃ c,y=.const c)):∀ w',(eqGuard op t x y rx l).run P w'=.ok () w':=by
 intro w';subst F;by_cases f:op=.eql∨op=.neq
 case neg=>
  clear h;unfold eqGuard;cases op<;>first | (simp;done) | exact (f (.inl rfl)).elim | exact (f (.inr rfl)).elim
 have g:∀ {u:V},Rel G w u .nilIface->u=.nili:=by
  intro u k;cases u<;>simp only [Rel,reduceCtorEq,false_and,and_false,exists_false] at k
  all_goals first
   | rfl
   | (simp at k;done)
   | grind
 have i:∀ {u:V} {m:Array Value},Rel G w u (.agg m)->∃ cs,u=.agg cs:=by
  intro u m k;cases u<;>simp only [Rel,reduceCtorEq,false_and,and_false,exists_false] at k
  all_goals first
   | exact ⟨_,rfl⟩
   | (simp at k;done)
   | grind
 have n:eqGuard op t x y rx l=eqGuard .eql t x y rx l:=by
  rcases f with rfl | rfl<;>rfl
 rw [n];unfold eqGuard;simp only [Bool.not_true,Bool.false_eq_true,if_false];split
 .have C:=g A;have j:=g B;rcases e with e | e | ⟨c,e⟩ | ⟨c,e⟩
  .exact (e C).elim
  .exact (e j).elim
  .subst e;simp
  .subst e;simp
 .obtain ⟨m,rfl⟩:=i A;obtain ⟨H,rfl⟩:=i B;have o:∃ b,eqV (zj P sp) 1000 t (.agg m) (.agg H)=some b:=by
   rcases f with rfl | rfl
   .simp only [qbj,zM] at h;obtain ⟨b,a,_⟩:=h;exact ⟨b,a⟩
   .simp only [qbj,zM] at h;obtain ⟨b,a,_⟩:=h;exact ⟨b,a⟩
  obtain ⟨b,a⟩:=o;have I:P.eqGuardType P.depth t=false:=by
   simp only [eqV] at a;split at a
   .cases a
   .rename_i ti J;have r:=(qo J).1;split at a<;>first
     | (cases a;done)
     | skip
    all_goals first
     | (rename_i j D;cases j;done)
     | (rename_i C j D;cases j;done)
     | skip
    rename_i M K L s j D;rw [cond_eq_ite] at a;split at a
    .rename_i z;exact q1z (d:=19) z (s ▸ r)
    .cases a
  simp [I]
 .simp
theorem qa9.length:∀ {a:List (V×V×Nat)} {l:List MapEntry},qa9 G w a l->a.length=l.length
 | [],_,h=>by simp only [qa9] at h;subst h;rfl
 | (k,v,b)::a,_,h=>by
  simp only [qa9] at h;obtain ⟨x,c,rfl,_,_,_,h⟩:=h;simp [qa9.length h]
theorem q3l:∀ (l:List V) (x v:V) (rx:Value) (c:List Value),Rel G w x rx->qi G w l c->q58 false x l=some v->∃ d,(c.foldlM Builtin.min2 rx).run P w=.ok d w/\Rel G w v d
 | [],x,v,rx,c,e,a,h=>by
  simp only [qi] at a;subst a;simp only [q58,zS] at h;subst h;exact ⟨rx,by simp,e⟩
 | u::l,x,v,rx,c,e,a,h=>by
  simp only [qi] at a;obtain ⟨m,f,rfl,g,a⟩:=a;unfold q58 at h;split at h
  .rename_i b;cases b
  .rename_i k p n q rest b;cases b;simp only [Rel] at e g;subst e;subst g;obtain ⟨d,i,j⟩:=q3l l _ v (.int k (if q<p then q else p)) f (by simp [Rel]) a h;exact ⟨d,by simp only [List.foldlM_cons,Builtin.min2,Sem.run_bind,Sem.run_pure,Result.andThen_ok];exact i,j⟩
  .cases h
theorem q3k:∀ (l:List V) (x v:V) (rx:Value) (c:List Value),Rel G w x rx->qi G w l c->q58 true x l=some v->∃ d,(c.foldlM Builtin.max2 rx).run P w=.ok d w/\Rel G w v d
 | [],x,v,rx,c,e,a,h=>by
  simp only [qi] at a;subst a;simp only [q58,zS] at h;subst h;exact ⟨rx,by simp,e⟩
 | u::l,x,v,rx,c,e,a,h=>by
  simp only [qi] at a;obtain ⟨m,f,rfl,g,a⟩:=a;unfold q58 at h;split at h
  .rename_i b;cases b
  .rename_i k p n q rest b;cases b;simp only [Rel] at e g;subst e;subst g;obtain ⟨d,i,j⟩:=q3k l _ v (.int k (if q > p then q else p)) f (by simp [Rel]) a h;exact ⟨d,by simp only [List.foldlM_cons,Builtin.max2,Sem.run_bind,Sem.run_pure,Result.andThen_ok];exact i,j⟩
  .cases h
theorem ztm {a:Array TypeId} {ty:TypeId} {l c:Nat}:(Builtin.unsafeSliceData_ a ty #[.slice none l c]).run P w=.ok (.pointer none) w:=rfl
theorem zpg {a:Array TypeId} {ty:TypeId} {ad:Addr} {l c:Nat} (h:c≠0):(Builtin.unsafeSliceData_ a ty #[.slice (some ad) l c]).run P w=.ok (.pointer (some ad)) w:=by
 change Sem.run P (if c≠0 then pure (Value.pointer (some ad)) else _) w=_;rw [zT h];rfl
theorem qww (q:Sim H G w) (e:SimFr G w fr a) {c:Go.Call} {b:Builtin} (r:o.op=.call c) (y:c.callee=.builtin b) {args:List V} {out:Out} {H':Heap} (d:qcy fr H c.args.toList=some args)
  (h:jj (zj P sp) b c.argTypes.toList args H=some (out,H')):ja P o a H G w H' out:=by
 unfold jj at h;split at h
 .
  split at h
  .rename_i t i;simp only [zj,zI] at h;obtain ⟨ti,F,h⟩:=h;have j:=(qo F).1;split at h
   .rename_i n I f;cases h;exact qu1 q e r y d i (λrx k ty=>by rw [f] at j;simp [Builtin.len_,run_underlying j])
   .rename_i s f;cases h;refine qu1 q e r y d i (λrx k ty=>?_);simp only [Rel] at k;subst k;rw [f] at j;have R:(ByteArray.mk s.toArray).size=s.length:=by simp [ByteArray.size]
    simp [Builtin.len_,run_underlying j,R]
   .rename_i I f;cases h;refine qu1 q e r y d i (λrx k ty=>?_);simp only [Rel] at k;subst k;rw [f] at j;simp [Builtin.len_,run_underlying j]
   .rename_i I nm g off len sz cap f;cases h;refine qu1 q e r y d i (λrx k ty=>?_);simp only [Rel] at k;obtain ⟨b,J,n,ro,c,Z,m,_,_,rfl,_⟩:=k;rw [f] at j;simp [Builtin.len_,run_underlying j]
   .rename_i kt et f;cases h;refine qu1 q e r y d i (λrx k ty=>?_);simp only [Rel] at k;subst k;rw [f] at j;simp [Builtin.len_,run_underlying j]
   .rename_i kt et nm f;split at h
    .rename_i es ck S;cases h;refine qu1 q e r y d i (λrx k ty=>?_);simp only [Rel] at k;obtain ⟨b,J,n,B,rfl⟩:=k;obtain ⟨_,T,K,L⟩:=q.obj nm _ (q.lt _ _ _ _ _ B).2 S 0 b J n B;rw [f] at j;have C:es.length=T.size:=by simpa using L.length
     simp [Builtin.len_,run_underlying j,getObj,Sem.run,K,C]
    .cases h
   .cases h
  .cases h
 .
  split at h
  .rename_i t u i;simp only [zj,zI] at h;obtain ⟨ti,F,ui,Q,h⟩:=h;split at h
   .rename_i I Z f D;simp only [zI,zM,zP] at h;obtain ⟨ei,z,⟨v,H1⟩,B,rfl,rfl⟩:=h;exact q3t q e r y d i F Q f (.inl ⟨_,D⟩) z B
   .rename_i I f D;simp only [zI,zM,zP] at h;obtain ⟨ei,z,⟨v,H1⟩,B,rfl,rfl⟩:=h;exact q3t q e r y d i F Q f (.inr D) z B
   .cases h
  .cases h
 .
  obtain ⟨E,cs,p⟩:=qgh (P:=P) q e r y d;obtain ⟨rx,A,k⟩:=zfw E;rw [A] at p;split at h
  .cases h;simp only [Rel] at k;subst k;exact ja.pure q (x:=.pointer none) (by rw [p];simp only [builtin,Sem.run_bind,ztm,Result.andThen_ok,Sem.run_pure]) (by simp [Rel])
  .rename_i nm g off len sz cap;rw [cond_eq_ite] at h;split at h
   .rename_i M;rw [Nat.blt_eq] at M;cases h;simp only [Rel] at k;obtain ⟨b,J,n,ro,c,Z,m,ad,e1,rfl,N,e3,e4,e5,e6,e7,e8,e9⟩:=k;have O:c≠0:=by omega
    obtain rfl:ad=⟨b,ro,none⟩:=by
     rcases N with N | N
     .exact absurd N O
     .exact N
    refine ja.pure q (x:=.pointer (some ⟨b,ro,none⟩)) (by rw [p];simp only [builtin,Sem.run_bind,zpg O,Result.andThen_ok,Sem.run_pure]) ?_;simp only [Rel];refine ⟨b,J,n,e1,e4,e5,?_⟩;have:ro=off-J:=by omega
    rw [this]
   .cases h
  .cases h
 .
  split at h
  .rename_i pt it i;split at h
   .split at h
    .rename_i hn;subst hn;cases h;exact qr2 q e r y d i
    .cases h
   .rename_i n nm g lim;simp only [zj,zI] at h;obtain ⟨ti,F,h⟩:=h;split at h
    .rename_i I cells a1 gen U a6 exact f W;simp only [zI] at h;obtain ⟨ei,z,h⟩:=h;split at h
     .rename_i hb;obtain ⟨b1,b2,b3,b4,b5⟩:=hb;subst b1;subst b5;simp only [zI,zM,zP] at h;obtain ⟨cs,X,l,C,H1,Q,rfl,rfl⟩:=h;exact qw1 q e r y d i F f z b2 W b3 b4 X C Q
     .cases h
    .cases h
   .cases h
  .cases h
 .
  simp only [zM,zP] at h;obtain ⟨v,B,rfl,rfl⟩:=h;obtain ⟨E,cs,p⟩:=qgh (P:=P) q e r y d;simp only [qi] at E;obtain ⟨rx,rl,A,k,C⟩:=E;obtain ⟨Y,K,L⟩:=q3l (P:=P) _ _ _ _ _ k C B;refine ja.pure q (x:=Y) ?_ L;rw [p];simp only [builtin,Builtin.min_,A,Sem.run_bind,K,Result.andThen_ok,Sem.run_pure]
 .
  simp only [zM,zP] at h;obtain ⟨v,B,rfl,rfl⟩:=h;obtain ⟨E,cs,p⟩:=qgh (P:=P) q e r y d;simp only [qi] at E;obtain ⟨rx,rl,A,k,C⟩:=E;obtain ⟨Y,K,L⟩:=q3k (P:=P) _ _ _ _ _ k C B;refine ja.pure q (x:=Y) ?_ L;rw [p];simp only [builtin,Builtin.max_,A,Sem.run_bind,K,Result.andThen_ok,Sem.run_pure]
 .cases h
theorem zc3 {b:Nat} {x} (h:w.shape? b=some x):(viewAt b).run P w=.ok none w:=by
 simp [viewAt,h]
theorem q0k {ad:Addr} {x} (h:w.shape? ad.block=some x):(Conv.seenAt ad).run P w=.ok ad w:=by
 simp [Conv.seenAt,zc3 h]
theorem zac {b:Nat} {t:TypeId} {k:Nat} (h:w.shape? b=some (t,k)):(cellsIn b).run P w=.ok (some k) w:=by
 simp [cellsIn,h]
theorem qwz (f:Sim H G w) (e:SimFr G w fr a) {src dst i:TypeId} {D E j:TI} (k:typeOf P src=some D) (l:typeOf P dst=some E) (m:typeOf P i=some j) (p:D.under=.pointer i)
  (r:E.under=.unsafePointer) {x:Operand} (J:o.op=.convert src dst x) {nm g off lim:Nat} (K:opd fr H x=some (.ptr nm g off lim)) {cells:List V} {elem:TypeId} {gen floor s:Nat} {exact:Bool}
  (t:H.get nm=some (.row cells elem gen floor s exact)) (L:floor<=g) (O:0<j.size) (Q:off+1<=lim):ja P o a H G w H (.val (.ptr nm g off lim)):=by
 have u:=qz f e K;have v:=u;simp only [Rel] at u;obtain ⟨b,h,n,F,R,S,I⟩:=u;obtain ⟨_,_,q⟩:=f.obj nm _ (f.lt _ _ _ _ _ F).2 t;obtain ⟨_,_,_,_,_,M⟩:=q g b h n F;obtain ⟨c,fz,N,T,_⟩:=M L;have d:w.shape? b=some (elem,c.size):=by simp only [World.shape?,N]
 have y:P.underlying src=some (.pointer i):=p ▸ (qo k).1;have z:P.underlying dst=some .unsafePointer:=r ▸ (qo l).1;refine ja.pure f (x:=.pointer (some ⟨b,off-h,none⟩)) ?_ (I ▸ v);have A:=ku (P:=P) m;have B:¬ j.size=0:=by omega
 have C:¬ c.size<=off-h:=by omega
 simp [execOp,J,I,convert,run_underlying y,run_underlying z,Conv.unsafePointer,q0k (P:=P) (ad:=⟨b,off-h,none⟩) d,zac (P:=P) d,A,B,C]
theorem qtk (h:Sim H G w) (e:SimFr G w fr a) {src dst c:TypeId} {J K j li:TI} (k:typeOf P src=some J) (l:typeOf P dst=some K) (m:typeOf P c=some j) (p:J.under=.unsafePointer)
  (r:K.under=.pointer c) {x:Operand} (N:o.op=.convert src dst x) {nm g off lim:Nat} (O:opd fr H x=some (.ptr nm g off lim)) {cells:List V} {elem:TypeId} {gen floor s:Nat}
  (t:H.get nm=some (.row cells elem gen floor s true)) (u:typeOf P elem=some li) (Q:floor<=g) (Z:0<j.size) (R:liesAt P P.depth elem (cells.length / li.size) off c 1=true):ja P o a H G w H (.val (.ptr nm g off lim)):=by
 have v:=qz h e O;have y:=v;simp only [Rel] at v;obtain ⟨b,d,n,L,q1,q2,M⟩:=v;obtain ⟨_,_,q⟩:=h.obj nm _ (h.lt _ _ _ _ _ L).2 t;obtain ⟨_,_,_,_,S,T⟩:=q g b d n L;obtain ⟨A,fz,U,a2,_,_,W⟩:=T Q;have f:w.shape? b=some (elem,A.size):=by simp only [World.shape?,U]
 have B:P.underlying src=some .unsafePointer:=p ▸ (qo k).1;have C:P.underlying dst=some (.pointer c):=r ▸ (qo l).1;have X:off-d=off:=by have:=S rfl;omega
 refine ja.pure h (x:=.pointer (some ⟨b,off-d,none⟩)) ?_ (M ▸ y);have D:=ku (P:=P) m;have E:¬ j.size=0:=by omega
 have Y:P.cellsOf elem=li.size:=by
  obtain ⟨_,_,i,z,hi,F,_⟩:=qo u;simp [Program.cellsOf,hi,F]
 have I:(variablesAt ⟨b,off-d,none⟩ c 1).run P w=.ok true w:=by
  simp [variablesAt,program,Sem.run,f,Y,X,W rfl,R]
 simp [execOp,N,M,convert,run_underlying B,run_underlying C,Conv.unsafePointer,q0k (P:=P) (ad:=⟨b,off-d,none⟩) f,D,E,I]
theorem qnf (C:Sim H G w) (e:SimFr G w fr a) {out:Out} {H':Heap} (h:kc (zj P sp) o fr H=some (out,H')):ja P o a H G w H' out:=by
 unfold kc at h;split at h
 .
  rename_i x d;simp only [zM,zP] at h;obtain ⟨v,A,rfl,rfl⟩:=h;exact zfx C e (.inl d) A
 .rename_i x d;simp only [zM,zP] at h;obtain ⟨v,A,rfl,rfl⟩:=h;exact zfx C e (.inr d) A
 .
  rename_i c x y d;split at h
  .rename_i b F;simp only [zM,zP] at h;obtain ⟨v,A,rfl,rfl⟩:=h;exact zss C e d F A
  .cases h
 .
  rename_i t d;simp only [zj,zM,zP] at h;obtain ⟨ti,E,rfl,rfl⟩:=h;exact znl C d E
 .
  rename_i t x d;simp only [zI,zS,zP] at h;obtain ⟨v,A,rfl,rfl⟩:=h;exact zwn C e d A
 .
  rename_i t parts d;simp only [zj,zI] at h;obtain ⟨ti,E,vs,L,h⟩:=h;split at h
  .rename_i fs z;simp only [cond_eq_ite,Bool.not_eq_true'] at h;split at h
   .cases h
   .rename_i a8;simp only [zM,zP] at h;obtain ⟨v,⟨cs,A,rfl⟩,rfl,rfl⟩:=h;refine qz2 C e E z d L (λf Y=>?_) A;have Z:fs.toList.all (λf=>(typeOf P f.type).isSome)=true:=by
     cases I:fs.toList.all (λf=>(typeOf P f.type).isSome) with
     | true=>rfl
     | false=>exact absurd I a8
    have:=List.all_eq_true.1 Z f Y;exact Option.isSome_iff_exists.1 this
  .rename_i n W z;simp only [zI,zM,zP] at h;obtain ⟨M,D,v,⟨cs,A,rfl⟩,rfl,rfl⟩:=h;exact q1x C e E z D d L A
  .cases h
 .
  rename_i t len parts d;simp only [zj,zI] at h;obtain ⟨ti,E,vs,L,h⟩:=h;split at h
  .rename_i W z;simp only [zI,cond_eq_ite,Nat.ble_eq] at h;obtain ⟨M,D,h⟩:=h;split at h
   .rename_i F;simp only [zM,zP] at h;obtain ⟨cs,A,rfl,rfl⟩:=h;exact q1y C e E z D d L F A
   .cases h
  .cases h
 .
  rename_i t x d;simp only [zj,zI,zM,zP] at h;obtain ⟨ti,E,p,B,v,A,rfl,rfl⟩:=h;exact zsr C e E d B A
 .
  rename_i t x y d;simp only [zj,zI,zM,zP] at h;obtain ⟨ti,E,p,B,v,L,H1,A,rfl,rfl⟩:=h;exact zno C e E d B L A
 .
  rename_i x d;split at h<;>try (cases h;done)
  rename_i v n1 n2 n3 n4 L;cases h;refine q9s C e d L ?_;split
  .exact (n1 rfl).elim
  .exact (n2 rfl).elim
  .exact (n3 rfl).elim
  .exact (n4 _ _ _ rfl).elim
  .trivial
 .
  rename_i op t x y t' d;simp only [zI] at h;obtain ⟨p,B,q,I,h⟩:=h;have a1:∀ v,qbj (zj P sp) op t p q=some v->(p≠.nili∨q≠.nili∨(∃ c,x=.const c)∨(∃ c,y=.const c))->ja P o a H G w H (.val v):=
   λv L hc=>znm rfl rfl C e d B I (zb2 rfl (qz C e B) (qz C e I) L hc) L
  split at h
  .split at h
   .simp only [zM,zP] at h;obtain ⟨v,A,rfl,rfl⟩:=h;exact a1 v A (.inr (.inr (.inl ⟨_,rfl⟩)))
   .simp only [zM,zP] at h;obtain ⟨v,A,rfl,rfl⟩:=h;exact a1 v A (.inr (.inr (.inr ⟨_,rfl⟩)))
   .cases h
  .rename_i hn;simp only [zM,zP] at h;obtain ⟨v,A,rfl,rfl⟩:=h;refine a1 v A ?_;by_cases aa:p=.nili
   .by_cases ab:q=.nili
    .exact (hn aa ab).elim
    .exact .inr (.inl ab)
   .exact .inl aa
 .
  rename_i op t x d;simp only [zI,zM,zP] at h;obtain ⟨p,B,v,A,rfl,rfl⟩:=h;exact zst C e d B A
 .
  rename_i aq dst x d;simp only [zj,zI] at h;obtain ⟨si,N,di,O,p,B,h⟩:=h;split at h
  .rename_i k0 k k' n J K;cases h;exact zcl C e N O J K d B
  .rename_i s J K;cases h;exact zcm C e N O J K d B
  .rename_i W J K;split at h
   .cases h
   .rename_i ag;simp only [zI] at h;obtain ⟨M,D,h⟩:=h;split at h
    .rename_i ah;simp only [zI,zM,zP] at h;obtain ⟨r,X,l,hl,rfl,rfl⟩:=h;exact q6f C e N O D J ah K d B (λs I=>ag s I) X hl
    .cases h
  .rename_i W nm g off lim J K;simp only [zI] at h;obtain ⟨M,D,h⟩:=h;split at h
   .rename_i c1 c2 c3 Q c4 c5 R;rw [cond_eq_ite] at h;split at h
    .rename_i F;simp only [zA,Nat.ble_eq,Nat.blt_eq] at F;cases h;exact qwz C e N O D J K d B R F.1.1 F.1.2 F.2
    .cases h
   .cases h
  .rename_i W nm g off lim J K;simp only [zI] at h;obtain ⟨M,D,h⟩:=h;split at h
   .rename_i cells ao c3 Q c4 R;simp only [zI] at h;obtain ⟨li,ai,h⟩:=h;rw [cond_eq_ite] at h;split at h
    .rename_i F;simp only [zA,Nat.ble_eq,Nat.blt_eq] at F;cases h;exact qtk C e N O D J K d B R ai F.1.1 F.1.2 F.2
    .cases h
   .cases h
  .cases h
 .
  rename_i t x d;simp only [zj,zI] at h;obtain ⟨ti,E,h⟩:=h;split at h
  .cases h
  .rename_i aj;simp only [zM,zP] at h;obtain ⟨v,⟨p,B,rfl⟩,rfl,rfl⟩:=h;exact qu2 C e E (λms hm=>aj ms hm) d B
 .
  rename_i fn first a7 d
  simp only [zI,zM,zP] at h;obtain ⟨p,B,q,I,rfl,rfl⟩:=h;exact q9r C e d B I
 .
  rename_i t r d;simp only [zj,zI] at h;obtain ⟨ti,E,h⟩:=h;split at h
  .rename_i kt et z;cases h;exact qz3 C e E z d (λx hx=>by cases hx)
  .rename_i kt et x z;simp only [zI] at h;obtain ⟨p,B,h⟩:=h;split at h
   .cases h;exact qz3 C e E z d (λx hx=>by cases hx;exact ⟨_,_,B⟩)
   .cases h
  .cases h
 .
  rename_i t x lo hi d;simp only [zj,zI] at h;obtain ⟨ti,E,p,B,ak,S,al,T,h⟩:=h;split at h
  .rename_i W z;split at h
   .cases h
   .rename_i ad;simp only [zI,zM,zP] at h;obtain ⟨M,D,v,A,rfl,rfl⟩:=h;exact zco C e E z D d B S T (λs C=>ad s C) A
  .rename_i z;split at h
   .simp only [zM,zP] at h;obtain ⟨v,A,rfl,rfl⟩:=h;exact q9v C e E z d B S T A
   .cases h
  .rename_i n W z;simp only [zI] at h;obtain ⟨M,D,h⟩:=h;split at h
   .split at h
    .rename_i c1 c2 c3 Q c4 c5 R;rw [cond_eq_ite] at h;split at h
     .rename_i F;simp only [zA,Nat.ble_eq] at F;simp only [zM,zP] at h;obtain ⟨v,A,rfl,rfl⟩:=h;exact q9t C e E z D d B S T R F.1 F.2 A
     .cases h
    .cases h
   .cases h
  .cases h
 .
  rename_i t x lo hi mx d;simp only [zj,zI] at h;obtain ⟨ti,E,p,B,ak,S,al,T,ar,an,h⟩:=h;split at h
  .rename_i W nm g off len sz cap z;simp only [zI,zM,zP] at h;obtain ⟨M,D,v,A,rfl,rfl⟩:=h;exact q9u C e E z D d B S T an A
  .cases h
 .
  rename_i s x k d;simp only [zj,zI,cond_eq_ite,Nat.beq_eq] at h;obtain ⟨ti,E,f,Y,fi,a6,h⟩:=h;split at h
  .cases h
  .rename_i hz;simp only [zI] at h;obtain ⟨p,B,h⟩:=h;split at h
   .cases h;exact q6g C e E d Y a6 hz B rfl
   .cases h
 .
  rename_i t x k d;simp only [zj,zI] at h;obtain ⟨ti,E,f,Y,fi,a6,p,B,h⟩:=h;split at h
  .simp only [zM,zP] at h;obtain ⟨v,A,rfl,rfl⟩:=h;exact znn C e E Y a6 d B A
  .cases h
 .
  rename_i t x i d;simp only [zj,zI] at h;obtain ⟨ti,E,p,B,q,I,h⟩:=h;split at h
  .rename_i W z;simp only [zI,zM,zP] at h;obtain ⟨M,D,v,A,rfl,rfl⟩:=h;exact q6h C e E z D d B I A
  .rename_i n W z;simp only [zI] at h;obtain ⟨M,D,h⟩:=h;split at h
   .split at h
    .rename_i F;cases h;exact qw0 C e E z D d B I F.1 F.2 rfl
    .cases h
   .cases h
  .cases h
 .
  rename_i t x i d;simp only [zj,zI] at h;obtain ⟨ti,E,p,B,q,I,h⟩:=h;split at h
  .rename_i z;split at h
   .rename_i F;simp only [zM,zP] at h;obtain ⟨b,A,rfl,rfl⟩:=h;exact q9q C e E z d B I F A
   .cases h
  .rename_i n W cs k j z;simp only [zI] at h;obtain ⟨M,D,h⟩:=h;split at h
   .rename_i F;simp only [zM,zP] at h;obtain ⟨v,A,rfl,rfl⟩:=h;exact q9p C e E z D d B I F A
   .cases h
  .cases h
 .
  rename_i t i d;simp only [zI] at h;obtain ⟨p,B,h⟩:=h;split at h
  .simp only [zM,zP] at h;obtain ⟨v,A,rfl,rfl⟩:=h;exact zcn C e d B A
  .cases h
 .
  rename_i c d;simp only [zI] at h;obtain ⟨args,U,h⟩:=h;split at h
  .rename_i f hc;simp only [zI,zM,zP] at h;obtain ⟨fv,Y,ae,A,rfl,rfl⟩:=h;cases ae with
   | call au vs=>exact zsq C e d hc U Y A
   | _=>unfold qe9 at A;split at A<;>cases A
  .rename_i b hc;exact qww C e d hc U h
  .cases h
 .
  rename_i t m k ok d;simp only [zj,zI] at h;obtain ⟨ti,E,p,B,q,I,h⟩:=h;split at h
  .rename_i kt et z;simp only [zI,zM] at h;obtain ⟨ki,hk,M,he,r,X,h⟩:=h;have:=zim C e E z hk he d X B I;cases r with
   | none=>cases h;exact this
   | some y=>cases h;exact this
  .cases h
 .
  rename_i t m k x d;simp only [zj,zI] at h;obtain ⟨ti,E,p,B,q,I,u,hu,h⟩:=h;split at h
  .rename_i kt et nm z;simp only [zI] at h;obtain ⟨ki,hk,h⟩:=h;split at h
   .rename_i es ck V;simp only [zI] at h;obtain ⟨r,X,h⟩:=h;split at h
    .simp only [zM,zP] at h;obtain ⟨H1,A,rfl,rfl⟩:=h;exact qj9 C e E z hk (.inl d) B I hu V X A
    .simp only [zM,zP] at h;obtain ⟨H1,A,rfl,rfl⟩:=h;exact qj9 C e E z hk (.inl d) B I hu V X A
   .cases h
  .cases h
 .
  rename_i t m k x d;simp only [zj,zI] at h;obtain ⟨ti,E,p,B,q,I,u,hu,h⟩:=h;split at h
  .rename_i kt et nm z;simp only [zI] at h;obtain ⟨ki,hk,h⟩:=h;split at h
   .rename_i es ck V;simp only [zI] at h;obtain ⟨r,X,h⟩:=h;split at h
    .simp only [zM,zP] at h;obtain ⟨H1,A,rfl,rfl⟩:=h;exact qj9 C e E z hk (.inr d) B I hu V X A
    .simp only [zM,zP] at h;obtain ⟨H1,A,rfl,rfl⟩:=h;exact qj9 C e E z hk (.inr d) B I hu V X A
   .cases h
  .cases h
 .
  rename_i x d;simp only [zI] at h;obtain ⟨p,B,h⟩:=h;split at h
  .cases h;have A:=qz C e B;have af:=A;simp only [Rel] at af;obtain ⟨y,h2,h3⟩:=af;refine ⟨rfl,a.eval x,?_,A⟩;simp only [execOp,d,Sem.run_bind,h2,Instr.panic,goPanic];rfl
  .cases h
 .cases h
end
end Go.E2
