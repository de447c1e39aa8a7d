/- A VERIFIED EVALUATOR, texts E2a, E2b, E2c, E2d, E2e, E2f, E2g, E2h, E2i, E2j, E2k, E2l, E2m, E2w in one. -/
import GoSem.Step
import Derived.Orders
import Derived.KernelRfl
import Derived.RangeFuncIn
import Derived.OrdersIn
import Derived.WalkKit
import Derived.Lib.UnsafeStr
import Derived.Laws.BytesArg
namespace Go
abbrev ZB := List UInt8
theorem zI {α β : Type _} {o : Option α} {f : α -> Option β} {b : β} : o.bind f = some b ↔ ∃ a, o = some a ∧ f a = some b := Option.bind_eq_some_iff
theorem zM {α β : Type _} {o : Option α} {f : α -> β} {b : β} : o.map f = some b ↔ ∃ a, o = some a ∧ f a = b := Option.map_eq_some_iff
theorem zS {α : Type _} (a b : α) : (some a = some b) = (a = b) := Option.some.injEq a b
theorem zP {α β : Type _} (a : α) (b : β) (c : α) (d : β) : ((a, b) = (c, d)) = (a = c ∧ b = d) := Prod.mk.injEq a b c d
theorem zN (n : Nat) : n ≤ n := Nat.le_refl n
theorem zA (a b : Bool) : ((a && b) = true) = (a = true ∧ b = true) := Bool.and_eq_true a b
theorem zE {n m : Nat} (h : Nat.beq n m = true) : n = m := Nat.eq_of_beq_eq_true h
theorem zL {n m k : Nat} (h : n < m) (a : m ≤ k) : n < k := Nat.lt_of_lt_of_le h a
theorem zC {α : Type _} {a : α} {l : List α} : a ∈ a :: l := List.mem_cons_self
theorem zD {α : Type _} {a b : α} {l : List α} : a ∈ b :: l ↔ a = b ∨ a ∈ l := List.mem_cons
theorem zB {α β : Type _} (a : α) (f : α -> Option β) : (some a).bind f = f a := Option.bind_some a f
theorem zF {c : Prop} {h : Decidable c} (n : ¬c) {α : Sort _} {t e : α} : ite c t e = e := if_neg n
theorem zT {c : Prop} {h : Decidable c} (n : c) {α : Sort _} {t e : α} : ite c t e = t := if_pos n
theorem zG {α : Type _} (y : α) {a : α} {l : List α} (h : a ∈ l) : a ∈ y :: l := List.mem_cons_of_mem y h
theorem zH {α β : Type _} (a : α) (f : α -> β) : (some a).map f = some (f a) := Option.map_some a f
theorem zJ {α : Type _} (l : List α) : l ++ [] = l := List.append_nil l
theorem zK (a : Int) : a ≤ a := Int.le_refl a
theorem zO {α : Sort _} {a b : α} : cond true a b = a := rfl
theorem zQ {α : Sort _} {a b : α} : cond false a b = b := rfl
theorem zR {n m k : Nat} (h : n ≤ m) (a : m ≤ k) : n ≤ k := Nat.le_trans h a
theorem zU {m n : Nat} (k : Nat) (h : m ≤ n) : m * k ≤ n * k := Nat.mul_le_mul_right k h
end Go
/- THE MACHINE E2: an executable big-step machine over memory with names, for programs of the model. Definitions alone; nothing is proved here of the model. -/
namespace Go.E2
inductive Tree (α:Type) where
 | nil
 | node (v:Option α) (l r:Tree α)
def Tree.get {α:Type}:Tree α->Nat->Option α
 | .nil,_=>none
 | .node v l r,n=>match Nat.beq n 0 with
  | true=>v
  | false=>match Nat.beq (n % 2) 1 with
   | true=>l.get (n / 2)
   | false=>r.get (n / 2-1)
def Tree.qy1 {α:Type} (a:α):Nat->Tree α->Nat->Tree α
 | 0,t,_=>t
 | f+1,.nil,n=>match Nat.beq n 0 with
  | true=>.node (some a) .nil .nil
  | false=>match Nat.beq (n % 2) 1 with
   | true=>.node none (Tree.qy1 a f .nil (n / 2)) .nil
   | false=>.node none .nil (Tree.qy1 a f .nil (n / 2-1))
 | f+1,.node v l r,n=>match Nat.beq n 0 with
  | true=>.node (some a) l r
  | false=>match Nat.beq (n % 2) 1 with
   | true=>.node v (Tree.qy1 a f l (n / 2)) r
   | false=>.node v l (Tree.qy1 a f r (n / 2-1))
def Tree.set {α:Type} (t:Tree α) (n:Nat) (a:α):Tree α:=Tree.qy1 a (n+1) t n
def Tree.del {α:Type}:Tree α->Nat->Tree α
 | .nil,_=>.nil
 | .node v l r,n=>match Nat.beq n 0 with
  | true=>.node none l r
  | false=>match Nat.beq (n % 2) 1 with
   | true=>.node v (l.del (n / 2)) r
   | false=>.node v l (r.del (n / 2-1))
theorem qmh {α:Type} (b:Bool) (x y:α):(match b with
  | true=>x
  | false=>y)=if b=true then x else y:=by
 cases b<;>rfl
def kl {α:Type} (src:Tree α):List Nat->Tree α->Tree α
 | [],t=>t
 | n::l,t=>kl src l (match src.get n with
  | some a=>t.set n a
  | none=>t.del n)
def Tree.ofList {α:Type} (l:List α):Tree α:=(l.foldl (λ(s:Tree α×Nat) a=>(s.1.set s.2 a,s.2+1)) (.nil,0)).1
inductive V where
 | int (k:IntKind) (n:Int)
 | bool (b:Bool)
 | str (s:List UInt8)
 | ptr (nm g off lim:Nat)
 | nilp
 | slice (nm g off len sz:Nat) (cap:Option Nat)
 | nils
 | func (fn:Fn) (first captured:List V)
 | nilf
 | iface (t:TypeId) (v:V)
 | nili
 | agg (cells:List V)
 | tuple (vs:List V)
 | map (nm:Nat)
 | nilm
def zs:V:=.tuple []
def V.cells:V->List V
 | .agg cs=>cs
 | v=>[v]
mutual
def qrk:Nat->Value->Option V
 | 0,_=>none
 | n+1,v=>match v with
  | .int k i=>some (.int k i)
  | .bool b=>some (.bool b)
  | .string s=>some (.str s.data.toList)
  | .pointer none=>some .nilp
  | .slice none 0 0=>some .nils
  | .map none=>some .nilm
  | .func (.func f) first d=>(q4k n first.toList).bind λa=>(q4k n d.toList).map λc=>.func (.func f) a c
  | .nilFunc=>some .nilf
  | .iface t v=>(qrk n v).map λx=>.iface t x
  | .nilIface=>some .nili
  | .agg cs=>(q4k n cs.toList).map .agg
  | .tuple vs=>(q4k n vs.toList).map .tuple
  | _=>none
def q4k:Nat->List Value->Option (List V)
 | 0,_=>none
 | n+1,l=>match l with
  | []=>some []
  | v::vs=>(qrk n v).bind λx=>(q4k n vs).map λa=>x::a
end
structure D where
 fn:Fn
 captured:List V
 args:List V
inductive O where
 | row (cells:List V) (elem:TypeId) (gen floor frz:Nat) (exact:Bool)
 | map (es:List (V×V×Nat)) (clock:Nat)
 | siter (s:List UInt8) (pos:Nat)
 | miter (m:Option Nat) (since:Nat) (seen:List Nat) (stepped:Nat)
 | loop (st:LoopState) (pending:Option Code) (tmps:Tree V) (n:Nat) (params:List Tmp) (assign body:Code) (defers:Nat)
 | dfr
 | gone
structure Heap where
 qbu:Tree O
 next:Nat
 ro:Nat
 qp:Nat
def Heap.get (H:Heap) (n:Nat):Option O:=H.qbu.get n
def Heap.new (H:Heap) (o:O):Heap:=
 match H with
 | ⟨t,n,r,g⟩=>⟨t.set n o,n+1,r,g⟩
def Heap.upd (H:Heap) (n:Nat) (o:O):Option Heap:=
 match H with
 | ⟨t,k,r,g⟩=>bif Nat.blt n r then none else some ⟨t.set n o,k,r,g⟩
structure TI where
 under:TypeDesc
 size:Nat
 bytes:Nat
 zero:V
 isAgg:Bool
structure FI where
 body:Option Code
 ext:Nat
 ntmps:Nat
 results:List ResultVar
inductive Tgt where
 | func (f:FuncId)
 | round (l:Nat)
structure PE where
 v:V
 recovered:Bool
 goexit:Bool
inductive CR where
 | ret (v:V)
 | panic (chain:List PE)
structure Env where
 types:Nat->Option TI
 funcs:Nat->Option FI
 spec:Nat->Option (List V->Heap->Option (CR×Heap))
 eqOk:TypeId->Bool
 lies:TypeId->Nat->Nat->TypeId->Bool
inductive Dfr where
 | call (d:D)
 | mark (nm:Nat)
structure Fr where
 tmps:Tree V
 n:Nat
 defers:List Dfr
def Fr.put (fr:Fr) (dst:Option Tmp) (v:V):Fr:=
 match dst with
 | some d=>match fr with
  | ⟨t,n,ds⟩=>bif Nat.blt d n then ⟨t.set d v,n,ds⟩ else ⟨t,n,ds⟩
 | none=>fr
def Fr.tmp (fr:Fr) (t:Nat):Option V:=fr.tmps.get t
def opd (fr:Fr) (H:Heap):Operand->Option V
 | .tmp t=>fr.tmp t
 | .const v=>qrk 1000 v
 | .global g=>bif Nat.blt g H.qp then match H.get g with
  | some (.row cells _ 0 _ _ _)=>some (.ptr g 0 0 cells.length)
  | _=>none else none
 | .func f=>some (.func (.func f) [] [])
def qay (fr:Fr) (H:Heap):List Operand->Option (List V)
 | []=>some []
 | x::a=>(opd fr H x).bind λv=>(qay fr H a).map λvs=>v::vs
inductive Out where
 | val (v:V)
 | skip
 | call (t:Tgt) (args:List V)
 | defer (d:D)
 | panic (v:V)
inductive Ex where
 | normal
 | exit (id:Nat)
 | goto (l:Nat)
 | ret
 | panic (chain:List PE)
def qjy (ti:TI) (cs:List V) (off:Nat):Option V:=
 bif ti.isAgg then (bif Nat.ble (off+ti.size) cs.length then some (.agg ((cs.drop off).take ti.size)) else none)
 else cs[off]?
def setCells (cs:List V) (off:Nat) (vs:List V):List V:=cs.take off++vs++cs.drop (off+vs.length)
def qds (place:Nat->Option (Nat×Nat)):List V->List (Nat×V)->Option (List V)
 | cells,[]=>some cells
 | cells,(i,v)::rest=>match place i with
  | none=>none
  | some (off,a)=>bif Nat.beq v.cells.length a&&Nat.ble (off+a) cells.length then qds place (setCells cells off v.cells) rest else none
def ky (o:Oper) (all:Array Oper) (fr:Fr):Option Bool:=
 match o.guard with
 | none=>some true
 | some (j,a)=>match (all[j]?).bind (·.dst) with
  | none=>some false
  | some d=>match fr.tmp d with
   | some (.bool b)=>some (b == a)
   | some _=>some false
   | none=>none
def isHole:V->Bool
 | .tuple [.slice _ _ _ _ 0 _]=>true
 | _=>false
def qef (cs:List V):Option (List V):=bif cs.any isHole then none else some cs
def zq (H:Heap) (size:Nat):V->Option (List V)
 | .ptr nm g off lim=>match H.get nm with
  | some (.row cells _ _ a _ _)=>
   bif Nat.ble a g&&Nat.ble (off+size) lim&&Nat.ble lim cells.length then qef ((cells.drop off).take size) else none
  | _=>none
 | _=>none
def jr (H:Heap) (ti:TI) (p:V):Option V:=
 (zq H ti.size p).bind λcs=>bif ti.isAgg then some (.agg cs) else match cs with
   | [v]=>some v
   | _=>none
def V.jg:V->Bool
 | .agg _ | .tuple _=>false
 | _=>true
def jk (H:Heap) (vs:List V):V->Option Heap
 | .ptr nm g off lim=>match H.get nm with
  | some (.row cells elem gen _ frz exact)=>
   bif Nat.beq g gen&&Nat.ble (off+vs.length) lim&&Nat.ble lim cells.length&&Nat.ble frz off&&vs.all V.jg
   then H.upd nm (.row (setCells cells off vs) elem gen gen frz exact) else none
  | _=>none
 | _=>none
def qfm (H:Heap) (ti:TI) (p v:V):Option Heap:=
 bif Nat.beq v.cells.length ti.size then jk H v.cells p else none
def z5 (H:Heap) (cells:List V) (elem:TypeId):Heap:=H.new (.row cells elem 0 0 0 true)
def V.qb2 (sz:Nat):V->V
 | .slice nm g off len z cap=>match cap with
  | some c=>bif Nat.beq c 0 then .slice nm g off len sz cap else .slice nm g off len z cap
  | none=>.slice nm g off len z cap
 | v=>v
def qcj (H:Heap) (sz:Nat):V->Option (Nat×List V)
 | .nils=>some (0,[])
 | .slice nm g off len a _=>bif Nat.beq sz a then (zq H (len * sz) (.ptr nm g off (off+len * sz))).map λcs=>(len,cs) else none
 | .str s=>bif Nat.beq sz 1 then some (s.length,s.map λb=>.int .u8 b.toNat) else none
 | _=>none
def km (H:Heap) (sz:Nat) (x:V):Option (Nat×List V):=qcj H sz (x.qb2 sz)
def room:Nat:=140737488355328
def jt (H:Heap) (elem:TypeId) (sz bytes:Nat) (s x:V):Option (V×Heap):=
 (km H sz x).bind λ(n,a)=>
 match s with
 | .nils=>bif Nat.beq n 0 then some (.nils,H)
   else bif Nat.ble (n * bytes) room&&Nat.ble n room then some (.slice H.next 0 0 n sz none,H.new (.row a elem 0 0 0 false)) else none
 | .slice nm g off len h cap=>
  bif !Nat.beq sz h then none else
  bif Nat.beq n 0 then some (s,H) else
  bif !(Nat.ble ((len+n) * bytes) room&&Nat.ble (len+n) room) then none else
  bif !a.all V.jg then none else
  match H.get nm with
  | some (.row cells e d b f _)=>
   match cap with
   | some c=>
    bif Nat.ble (len+n) c then
     (jk H a (.ptr nm g (off+len * sz) (off+(len+n) * sz))).map λH'=>(.slice nm g off (len+n) sz cap,H')
    else (km H sz s).map λ(_,old)=>(.slice H.next 0 0 (len+n) sz none,H.new (.row (old++a) elem 0 0 0 false))
   | none=>
    bif Nat.beq g d&&Nat.beq (off+len * sz) cells.length&&Nat.ble f cells.length&&Nat.ble b d&&!Nat.beq sz 0&&Nat.beq e elem then
     (H.upd nm (.row (cells++a) e (d+1) b f false)).map λH'=>(.slice nm (d+1) off (len+n) sz none,H')
    else none
  | _=>none
 | _=>none
def kv (H:Heap) (elem:TypeId) (sz bytes:Nat) (s x:V):Option (V×Heap):=jt H elem sz bytes (s.qb2 sz) x
def qal:List UInt8->List UInt8->Bool
 | _,[]=>false
 | [],_::_=>true
 | a::x,b::y=>a<b || (a == b&&qal x y)
def jb (op:BinOp) (k:IntKind) (a b:Int):Option V:=
 match op with
 | .add=>some (.int k (k.wrap (a+b)))
 | .sub=>some (.int k (k.wrap (a-b)))
 | .mul=>some (.int k (k.wrap (a * b)))
 | .quo=>if b=0 then none else some (.int k (k.wrap (a.tdiv b)))
 | .rem=>if b=0 then none else some (.int k (a.tmod b))
 | .and=>some (.int k (k.wrap (BitVec.ofInt k.bits a &&&BitVec.ofInt k.bits b).toNat))
 | .or=>some (.int k (k.wrap (BitVec.ofInt k.bits a ||| BitVec.ofInt k.bits b).toNat))
 | .xor=>some (.int k (k.wrap (BitVec.ofInt k.bits a ^^^ BitVec.ofInt k.bits b).toNat))
 | .andNot=>some (.int k (k.wrap (BitVec.ofInt k.bits a &&&~~~ BitVec.ofInt k.bits b).toNat))
 | .eql=>some (.bool (a == b))
 | .neq=>some (.bool (a != b))
 | .lss=>some (.bool (a<b))
 | .leq=>some (.bool (a<=b))
 | .gtr=>some (.bool (a > b))
 | .geq=>some (.bool (a>=b))
 | _=>none
def q4a (op:BinOp) (k:IntKind) (a b:Int):Option V:=
 if b<0 then none else
  let n:=min b.toNat k.bits
  match op with
  | .shl=>some (.int k (k.wrap (a * 2 ^ n)))
  | .shr=>some (.int k (a.fdiv (2 ^ n)))
  | _=>none
def qks (op:BinOp) (x y:List UInt8):Option V:=
 match op with
 | .add=>bif Nat.ble (x.length+y.length) room then some (.str (x++y)) else none
 | .eql=>some (.bool (x == y))
 | .neq=>some (.bool (!(x == y)))
 | .lss=>some (.bool (qal x y))
 | .leq=>some (.bool (qal x y || x == y))
 | .gtr=>some (.bool (!(qal x y || x == y)))
 | .geq=>some (.bool (!qal x y))
 | _=>none
mutual
def eqV (E:Env):Nat->TypeId->V->V->Option Bool
 | 0,_,_,_=>none
 | d+1,t,x,y=>match E.types t with
  | none=>none
  | some ti=>match ti.under,x,y with
   | .int _,.int k a,.int f b=>if k=f then some (a == b) else none
   | .string,.str a,.str b=>some (a == b)
   | .bool,.bool a,.bool b=>some (a == b)
   | .struct h,.agg i,.agg j=>bif E.eqOk t then eqFields E d h.toList i j else none
   | .slice _,.nils,.nils=>some true
   | .slice _,.nils,.slice .. | .slice _,.slice ..,.nils=>some false
   | .func ..,.nilf,.nilf=>some true
   | .func ..,.nilf,.func .. | .func ..,.func ..,.nilf=>some false
   | .map ..,.nilm,.nilm=>some true
   | .map ..,.nilm,.map _ | .map ..,.map _,.nilm=>some false
   | .pointer _,.nilp,.nilp=>some true
   | .pointer _,.nilp,.ptr .. | .pointer _,.ptr ..,.nilp=>some false
   | .pointer e,.ptr nm g off _,.ptr nm' l c _=>(E.types e).bind λm=>bif !Nat.beq m.size 0&&(Nat.beq nm nm'&&Nat.beq g l) then some (Nat.beq off c) else none
   | .interface _,.iface ..,.nili | .interface _,.nili,.iface ..=>some false
   | .interface _,.nili,.nili=>some true
   | _,_,_=>none
def eqFields (E:Env):Nat->List Field->List V->List V->Option Bool
 | 0,_,_,_=>none
 | d+1,c,e,g=>match c with
  | []=>some true
  | f::c=>match E.types f.type with
   | none=>none
   | some ti=>(qjy ti e f.offset).bind λa=>(qjy ti g f.offset).bind λb=>
    (eqV E d f.type a b).bind λr=>bif r then eqFields E d c e g else some false
end
def qbr (E:Env) (op:BinOp) (t:TypeId) (x y:V):Option V:=
 match op,x,y with
 | .shl,.int k a,.int _ b=>q4a .shl k a b
 | .shr,.int k a,.int _ b=>q4a .shr k a b
 | op,.int k a,.int c b=>if k=c then jb op k a b else none
 | op,.str a,.str b=>qks op a b
 | .eql,x,y=>(eqV E 1000 t x y).map .bool
 | .neq,x,y=>(eqV E 1000 t x y).map λb=>.bool (!b)
 | _,_,_=>none
def q1z (op:UnOp) (x:V):Option V:=
 match op,x with
 | .neg,.int k n=>some (.int k (k.wrap (0-n)))
 | .xor,.int k n=>some (.int k (k.wrap (BitVec.ofInt k.bits (if k.signed then -1 else k.max) ^^^ BitVec.ofInt k.bits n).toNat))
 | .not,.bool b=>some (.bool !b)
 | _,_=>none
def jx (lo hi:Nat):Option V->Nat->Option Nat
 | none,d=>some d
 | some (.int _ i),_=>if (lo:Int)<=i/\i<=hi then some i.toNat else none
 | some _,_=>none
def qdv (a:Nat) (x:V) (lo hi b:Option V):Option V:=
 match x with
 | .str s=>match b with
  | some _=>none
  | none=>(jx 0 s.length hi s.length).bind λh=>(jx 0 h lo 0).map λl=>.str ((s.take h).drop l)
 | .nils=>(jx 0 0 b 0).bind λm=>(jx 0 m hi 0).bind λh=>(jx 0 h lo 0).map λ_=>.nils
 | .slice nm g off len sz cap=>
  bif !Nat.beq a sz then none else
  match b with
  | some _=>
   let c:=cap.getD len
   (jx 0 c b c).bind λm=>(jx 0 m hi len).bind λh=>(jx 0 h lo 0).map λl=>
     .slice nm g (off+l * sz) (h-l) sz (some (m-l))
  | none=>
   let c:=cap.getD len
   (jx 0 c hi len).bind λh=>(jx 0 h lo 0).map λl=>.slice nm g (off+l * sz) (h-l) sz (cap.map (· - l))
 | _=>none
def qbe (a:Nat) (x:V) (lo hi b:Option V):Option V:=qdv a (x.qb2 a) lo hi b
def kj (a:Nat) (x i:V):Option V:=
 match x,i with
 | .slice nm g off len sz _,.int _ i=>if Nat.beq a sz=true/\0<=i/\i<len then some (.ptr nm g (off+i.toNat * sz) (off+len * sz)) else none
 | _,_=>none
def qcn (n:Nat):V:=.int .i64 n
def qjk:TypeDesc->V->V->Option Bool
 | .int _,.int k a,.int c b=>if k=c then some (a == b) else none
 | .string,.str a,.str b=>some (a == b)
 | .bool,.bool a,.bool b=>some (a == b)
 | _,_,_=>none
def plainKey:TypeDesc->Bool
 | .int _ | .string | .bool=>true
 | _=>false
def qne (a:TypeDesc) (k:V):List (V×V×Nat)->Nat->Option (Option (Nat×V))
 | [],_=>some none
 | (b,v,_)::c,i=>match qjk a k b with
  | some true=>some (some (i,v))
  | some false=>qne a k c (i+1)
  | none=>none
def qhh:List V->List V->Bool
 | [],[]=>true
 | .int k a::l,.int d b::c=>decide (k=d)&&(a == b)&&qhh l c
 | .bool a::l,.bool b::c=>(a == b)&&qhh l c
 | .str a::l,.str b::c=>(a == b)&&qhh l c
 | _,_=>false
def zch (E:Env) (a:List Field) (cs:List V):Bool:=a.all λf=>match E.types f.type with
 | some fi=>plainKey fi.under&&(qjy fi cs f.offset).isSome
 | none=>false
def q5j (E:Env) (a:TypeId) (k:List V):List (V×V×Nat)->Nat->Option (Option (Nat×V))
 | [],_=>some none
 | (b,v,_)::c,i=>match eqV E 1000 a (.agg k) b with
  | some true=>match b with
   | .agg d=>bif qhh k d then some (some (i,v)) else none
   | _=>none
  | some false=>q5j E a k c (i+1)
  | none=>none
def qi1 (E:Env) (b:TypeId) (a:TypeDesc) (k:V) (es:List (V×V×Nat)):Option (Option (Nat×V)):=
 bif plainKey a then qne a k es 0 else match a,k with
  | .struct c,.agg cs=>bif zch E c.toList cs then q5j E b cs es 0 else none
  | _,_=>none
def qdr (f:V) (args:List V):Option Out:=
 match f with
 | .func (.func f) first a=>some (.call (.func f) (first++args++a))
 | .func (.yield l) first _=>some (.call (.round l) (first++args))
 | _=>none
def qc1 (ti:TI) (k:Nat):Option Field:=
 match ti.under with
 | .struct a=>a[k]?
 | _=>none
def qhm (fr:Fr) (H:Heap):Option Operand->Option (Option V)
 | none=>some none
 | some x=>(opd fr H x).map some
def q3i (c:Bool):V->List V->Option V
 | x,[]=>some x
 | .int k a,.int _ b::rest=>q3i c (.int k (if (if c then b > a else b<a) then b else a)) rest
 | _,_=>none
def qc6:List V->Option (List UInt8)
 | []=>some []
 | .int .u8 n::vs=>if 0<=n/\n<256 then (qc6 vs).map λl=>UInt8.ofNat n.toNat::l else none
 | _=>none
def qam (E:Env) (b:Builtin) (c:List TypeId) (args:List V) (H:Heap):Option (Out×Heap):=
 match b,args with
 | .len,[x]=>match c with
  | [t]=>(E.types t).bind λti=>match ti.under,x with
   | .array n _,_=>some (.val (qcn n),H)
   | .string,.str s=>some (.val (qcn s.length),H)
   | .slice _,.nils=>some (.val (qcn 0),H)
   | .slice _,.slice _ _ _ len _ _=>some (.val (qcn len),H)
   | .map ..,.nilm=>some (.val (qcn 0),H)
   | .map ..,.map nm=>match H.get nm with
    | some (.map k _)=>some (.val (qcn k.length),H)
    | _=>none
   | _,_=>none
  | _=>none
 | .append,[s,x]=>match c with
  | [t,u]=>(E.types t).bind λti=>(E.types u).bind λm=>match ti.under,m.under with
   | .slice e,.slice _ | .slice e,.string=>(E.types e).bind λa=>(kv H e a.size a.bytes s x).map λr=>(.val r.1,r.2)
   | _,_=>none
  | _=>none
 | .copy,[d,x]=>match c with
  | [t,_]=>(E.types t).bind λti=>match ti.under with
   | .slice e=>(E.types e).bind λa=>match d,x with
    | .slice nm g off len sz _,.slice nm' o h f j i=>bif Nat.beq sz a.size&&Nat.beq j a.size then
      (km H a.size (.slice nm' o h (min f len) a.size i)).bind λr=>
        (if min f len=0 then some H else jk H r.2 (.ptr nm g off (off+len * a.size))).map λH'=>(.val (qcn (min f len)),H') else none
    | _,_=>none
   | _=>none
  | _=>none
 | .clear,[x]=>match c with
  | [t]=>(E.types t).bind λti=>match ti.under with
   | .slice e=>match x with
    | .nils=>some (.val (.tuple []),H)
    | .slice nm g off len sz _=>(E.types e).bind λa=>bif Nat.beq sz a.size then (if len=0 then some (.val (.tuple []),H) else
      (jk H (List.replicate len a.zero.cells).flatten (.ptr nm g off (off+len * a.size))).map λH'=>(.val (.tuple []),H')) else none
    | _=>none
   | _=>none
  | _=>none
 | .unsafeSliceData,[x]=>match x with
  | .nils=>some (.val .nilp,H)
  | .slice nm g off len sz _=>bif Nat.blt 0 len then some (.val (.ptr nm g off (off+len * sz)),H) else none
  | _=>none
 | .unsafeString,[p,.int .i64 n]=>match c with
  | [q,_]=>match p with
   | .nilp=>if n=0 then some (.val (.str []),H) else none
   | .ptr nm g 0 lim=>(E.types q).bind λti=>match ti.under,H.get nm with
    | .pointer e,some (.row cells elem gen floor frz exact)=>(E.types elem).bind λa=>
     if e=elem/\a.size=1/\0<n/\n<=140737488355328/\g=gen then
      (zq H n.toNat (.ptr nm g 0 lim)).bind λcs=>(qc6 cs).bind λl=>
        (H.upd nm (.row cells elem gen floor (max frz n.toNat) exact)).map λH'=>(.val (.str l),H')
     else none
    | _,_=>none
   | _=>none
  | _=>none
 | .min,x::rest=>(q3i false x rest).map λv=>(.val v,H)
 | .max,x::rest=>(q3i true x rest).map λv=>(.val v,H)
 | _,_=>none
def qg8 (t:TypeId) (zero:V) (ok:Bool):V->Option V
 | .nili=>bif ok then some (.tuple [zero,.bool false]) else none
 | .iface u y=>bif Nat.beq u t then some (bif ok then .tuple [y,.bool true] else y) else bif ok then some (.tuple [zero,.bool false]) else none
 | _=>none
def q57 (H:Heap) (nm:Nat) (s:List UInt8) (pos:Nat):Option (Out×Heap):=
 bif Nat.blt pos s.length then (match Utf8.decode ⟨s.toArray⟩ pos with
  | (c,a)=>(H.upd nm (.siter s (pos+a))).map λH'=>(.val (.tuple [.bool true,qcn pos,.int .i32 c]),H'))
 else some (.val (.tuple [.bool false]),H)
def zb (E:Env) (o:Oper) (fr:Fr) (H:Heap):Option (Out×Heap):=
 let v (x:Option V):Option (Out×Heap):=x.map λx=>(.val x,H)
 match o.op with
 | .move x | .assign x=>v (opd fr H x)
 | .pick c a b=>match opd fr H c with
  | some (.bool c)=>v (opd fr H (if c then a else b))
  | _=>none
 | .alloc e=>(E.types e).map λti=>(.val (.ptr H.next 0 0 ti.zero.cells.length),z5 H ti.zero.cells e)
 | .box e x=>(opd fr H x).bind λx=>some (.val (.ptr H.next 0 0 x.cells.length),z5 H x.cells e)
 | .build t parts=>(E.types t).bind λti=>(qay fr H (parts.toList.map (·.2))).bind λvs=>
  match ti.under with
  | .struct F=>bif !F.toList.all (λf=>(E.types f.type).isSome) then none else v ((qds (λi=>(F[i]?).bind λf=>(E.types f.type).map λfi=>(f.offset,fi.size)) ti.zero.cells ((parts.toList.map (·.1)).zip vs)).map .agg)
  | .array _ e=>(E.types e).bind λd=>v ((qds (λi=>some (i * d.size,d.size)) ti.zero.cells ((parts.toList.map (·.1)).zip vs)).map .agg)
  | _=>none
 | .buildSlice t len parts=>(E.types t).bind λti=>(qay fr H (parts.toList.map (·.2))).bind λvs=>
  match ti.under with
  | .slice e=>(E.types e).bind λd=>
   bif Nat.ble (len * d.size) 16777216 then
    (qds (λi=>some (i * d.size,d.size)) (List.replicate len d.zero.cells).flatten ((parts.toList.map (·.1)).zip vs)).map λcells=>
      (.val (.slice H.next 0 0 len d.size (some len)),z5 H cells e)
   else none
  | _=>none
 | .load t p=>(E.types t).bind λti=>(opd fr H p).bind λp=>v (jr H ti p)
 | .store t p x=>(E.types t).bind λti=>(opd fr H p).bind λp=>(opd fr H x).bind λx=>(qfm H ti p x).map λH'=>(.skip,H')
 | .nilCheck x=>match opd fr H x with
  | some .nilp | some .nili | some .nilf | some (.func (.method _) _ _) | none=>none
  | some x=>some (.val x,H)
 | .binOp op t x y _=>(opd fr H x).bind λa=>(opd fr H y).bind λb=>
  match a,b with
  | .nili,.nili=>match x,y with
   | .const _,_ | _,.const _=>v (qbr E op t a b)
   | _,_=>none
  | _,_=>v (qbr E op t a b)
 | .unOp op _ x=>(opd fr H x).bind λx=>v (q1z op x)
 | .convert B dst x=>(E.types B).bind λG=>(E.types dst).bind λI=>(opd fr H x).bind λx=>
  match G.under,I.under,x with
  | .int _,.int k,.int _ n=>some (.val (.int k (k.wrap n)),H)
  | .string,.string,.str s=>some (.val (.str s),H)
  | .slice e,.string,x=>match x with
   | .str _=>none
   | _=>(E.types e).bind λd=>match d.under with
    | .int .u8=>(km H 1 x).bind λr=>(qc6 r.2).map λl=>(.val (.str l),H)
    | _=>none
  | .pointer e,.unsafePointer,.ptr nm g off lim=>(E.types e).bind λd=>match H.get nm with
   | some (.row _ _ _ h _ _)=>bif Nat.ble h g&&Nat.blt 0 d.size&&Nat.ble (off+1) lim then some (.val (.ptr nm g off lim),H) else none
   | _=>none
  | .unsafePointer,.pointer e,.ptr nm g off lim=>(E.types e).bind λd=>match H.get nm with
   | some (.row cells u _ h _ true)=>(E.types u).bind λJ=>bif Nat.ble h g&&Nat.blt 0 d.size&&E.lies u (cells.length / J.size) off e then some (.val (.ptr nm g off lim),H) else none
   | _=>none
  | _,_,_=>none
 | .makeInterface t x=>(E.types t).bind λti=>match ti.under with
  | .interface _=>none
  | _=>v ((opd fr H x).map (.iface t))
 | .makeFunc (.func fn) first q=>(qay fr H first.toList).bind λa=>(qay fr H q.toList).map λc=>(.val (.func (.func fn) a c),H)
 | .makeMap t r=>(E.types t).bind λti=>match ti.under,r with
  | .map ..,none=>some (.val (.map H.next),H.new (.map [] 0))
  | .map ..,some r=>(opd fr H r).bind λr=>match r with
   | .int ..=>some (.val (.map H.next),H.new (.map [] 0))
   | _=>none
  | _,_=>none
 | .makeSlice t l c=>(E.types t).bind λti=>(opd fr H l).bind λl=>(opd fr H c).bind λc=>
  match ti.under,l,c with
  | .slice e,.int .i64 l,.int .i64 c=>(E.types e).bind λd=>
   if 0<=l/\l<=c/\c * (d.bytes:Int)<=281474976710656/\c<=281474976710656 then
    some (.val (.slice H.next 0 0 l.toNat d.size (some c.toNat)),z5 H (List.replicate c.toNat d.zero.cells).flatten e)
   else none
  | _,_,_=>none
 | .slice t x lo hi none=>(E.types t).bind λti=>(opd fr H x).bind λx=>(qhm fr H lo).bind λlo=>(qhm fr H hi).bind λhi=>
  match ti.under with
  | .slice e=>match x with
   | .str _=>none
   | _=>(E.types e).bind λd=>v (qbe d.size x lo hi none)
  | .string=>match x with
   | .str _=>v (qbe 1 x lo hi none)
   | _=>none
  | .array n e=>(E.types e).bind λd=>match x with
   | .ptr nm g off lim=>match H.get nm with
    | some (.row _ _ _ h _ _)=>bif Nat.ble h g&&Nat.ble (off+n * d.size) lim then v (qbe d.size (.slice nm g off n d.size (some n)) lo hi none) else none
    | _=>none
   | _=>none
  | _=>none
 | .slice t x lo (some hi) (some C)=>(E.types t).bind λti=>(opd fr H x).bind λx=>(qhm fr H lo).bind λlo=>(opd fr H hi).bind λhi=>(opd fr H C).bind λC=>
  match ti.under,x with
  | .slice e,.slice nm g off len sz cap=>(E.types e).bind λd=>v (qbe d.size (.slice nm g off len sz cap) lo (some hi) (some C))
  | _,_=>none
 | .fieldAddr s x k=>(E.types s).bind λti=>(qc1 ti k).bind λf=>(E.types f.type).bind λfi=>
  bif Nat.beq fi.size 0 then none else (opd fr H x).bind λx=>
  match x with
  | .ptr nm g off lim=>some (.val (.ptr nm g (off+f.offset) lim),H)
  | _=>none
 | .field t x k=>(E.types t).bind λti=>(qc1 ti k).bind λf=>(E.types f.type).bind λfi=>(opd fr H x).bind λx=>
  match x with
  | .agg cs=>v (qjy fi cs f.offset)
  | _=>none
 | .indexAddr t x i=>(E.types t).bind λti=>(opd fr H x).bind λx=>(opd fr H i).bind λi=>
  match ti.under with
  | .slice e=>(E.types e).bind λd=>v (kj d.size x i)
  | .array n e=>(E.types e).bind λd=>match x,i with
   | .ptr nm g off lim,.int _ i=>if 0<=i/\i<n then some (.val (.ptr nm g (off+i.toNat * d.size) lim),H) else none
   | _,_=>none
  | _=>none
 | .index t x i=>(E.types t).bind λti=>(opd fr H x).bind λx=>(opd fr H i).bind λi=>
  match ti.under,x,i with
  | .string,.str s,.int _ i=>if 0<=i then (s[i.toNat]?).map λb=>(.val (.int .u8 b.toNat),H) else none
  | .array n e,.agg cs,.int _ i=>(E.types e).bind λd=>if 0<=i/\i<n then v (qjy d cs (i.toNat * d.size)) else none
  | _,_,_=>none
 | .extract t i=>(opd fr H t).bind λt=>match t with
  | .tuple vs=>v vs[i]?
  | _=>none
 | .call c=>(qay fr H c.args.toList).bind λargs=>match c.callee with
  | .value f=>(opd fr H f).bind λf=>(qdr f args).map λo=>(o,H)
  | .builtin b=>qam E b c.argTypes.toList args H
  | .invoke ..=>none
 | .lookup t m k ok=>(E.types t).bind λti=>(opd fr H m).bind λm=>(opd fr H k).bind λk=>
  match ti.under with
  | .map w K=>(E.types w).bind λA=>(E.types K).bind λd=>(match m with
    | .nilm=>qi1 E w A.under k []
    | .map nm=>match H.get nm with
     | some (.map z _)=>qi1 E w A.under k z
     | _=>none
    | _=>none:Option (Option (Nat×V))).map λr=>match r with
     | some (_,x)=>(.val (if ok then .tuple [x,.bool true] else x),H)
     | none=>(.val (if ok then .tuple [d.zero,.bool false] else d.zero),H)
  | _=>none
 | .mapUpdate t m k x | .insert t m k x=>(E.types t).bind λti=>(opd fr H m).bind λm=>(opd fr H k).bind λk=>(opd fr H x).bind λx=>
  match ti.under,m with
  | .map w _,.map nm=>(E.types w).bind λA=>match H.get nm with
   | some (.map z j)=>(qi1 E w A.under k z).bind λr=>match r with
    | some (i,_)=>(H.upd nm (.map (z.modify i λe=>(k,x,e.2.2)) j)).map λH'=>(.skip,H')
    | none=>(H.upd nm (.map (z++[(k,x,j)]) (j+1))).map λH'=>(.skip,H')
   | _=>none
  | _,_=>none
 | .typeAssert x _ t ok=>(E.types t).bind λti=>match ti.under with
  | .interface _=>none
  | _=>(opd fr H x).bind λx=>v (qg8 t ti.zero ok x)
 | .panic x=>(opd fr H x).bind λx=>match x with
  | .iface t x=>some (.panic (.iface t x),H)
  | _=>none
 | .range t x=>(E.types t).bind λti=>(opd fr H x).bind λx=>match ti.under,x with
  | .string,.str s=>some (.val (.ptr H.next 0 0 0),H.new (.siter s 0))
  | _,_=>none
 | .next x true=>(opd fr H x).bind λx=>match x with
  | .ptr nm _ 0 _=>match H.get nm with
   | some (.siter s D)=>q57 H nm s D
   | _=>none
  | _=>none
 | _=>none
abbrev Call:=Tgt->List V->Heap->Option (CR×Heap)
def j8 (E:Env) (call:Call) (all:Array Oper) (o:Oper) (fr:Fr) (H:Heap):Option (CR×Heap):=
 match ky o all fr with
 | some true=>match zb E o fr H with
  | some (.val v,H')=>some (.ret v,H')
  | some (.skip,H')=>some (.ret zs,H')
  | some (.call t args,H')=>call t args H'
  | some (.panic v,H')=>some (.panic [⟨v,false,false⟩],H')
  | _=>none
 | some false=>some (.ret zs,H)
 | none=>none
def qhr (fr:Fr) (H:Heap) (c:Go.Call):Option D:=
 match c.callee with
 | .value f=>(qay fr H c.args.toList).bind λargs=>(opd fr H f).bind λf=>match f with
  | .func (.func g) first captured=>some {fn:=.func g,captured:=captured,args:=first++args}
  | _=>none
 | _=>none
def Fr.push (fr:Fr) (d:D):Fr:=
 match fr with
 | ⟨t,n,ds⟩=>⟨t,n,.call d::ds⟩
def ku (E:Env) (call:Call) (nd:Bool) (all:Array Oper):List Oper->Fr->Heap->Option (Ex×Fr×Heap)
 | [],fr,H=>some (.normal,fr,H)
 | o::rest,fr,H=>match o.op with
  | .defer c=>match ky o all fr with
   | some true=>bif nd then (qhr fr H c).bind λd=>ku E call nd all rest ((fr.push d).put o.dst zs) H else none
   | some false=>ku E call nd all rest (fr.put o.dst zs) H
   | none=>none
  | _=>match j8 E call all o fr H with
   | some (.ret v,H')=>ku E call nd all rest (fr.put o.dst v) H'
   | some (.panic a,H')=>some (.panic a,fr,H')
   | none=>none
inductive FP where
 | none
 | reads (l:List Nat)
 | writes (l:List Nat)
 | call
 | lone
def V.nm:V->List Nat
 | .ptr nm _ _ _ | .slice nm _ _ _ _ _ | .map nm=>[nm]
 | _=>[]
def qpp (fr:Fr):Operand->List Nat
 | .tmp t=>match fr.tmp t with
  | some v=>v.nm
  | none=>[]
 | .global g=>[g]
 | _=>[]
def qar (fr:Fr) (l:List Operand):List Nat:=l.flatMap (qpp fr)
def qh8:Operand->List Nat
 | .global g=>[g]
 | _=>[]
def js (E:Env) (op:Op):Bool:=
 match op with
 | .load .. | .store .. | .lookup .. | .mapUpdate .. | .insert .. | .next .. | .convert ..=>true
 | .call c=>match c.callee with
  | .builtin .min | .builtin .max | .builtin .unsafeSliceData=>c.args.any λ| .global _=>true | _=>false
  | .builtin .len=>match c.argTypes.toList with
   | t::_=>match E.types t with
    | some {under:=.map ..,..} | none=>true
    | _=>c.args.any λ| .global _=>true | _=>false
   | _=>true
  | _=>true
 | .slice t x lo hi a=>(match E.types t with
   | some {under:=.array ..,..} | none=>true
   | _=>false) || (Op.slice t x lo hi a).operands.any λ| .global _=>true | _=>false
 | op=>op.operands.any λ| .global _=>true | _=>false
def V.many:V->Option Nat
 | .nils=>some 0
 | .slice _ _ _ len _ _=>some len
 | .str s=>some s.length
 | _=>none
def q3r (fr:Fr):Operand->Option V
 | .tmp t=>fr.tmp t
 | .const v=>qrk 1000 v
 | _=>none
def qsa (fr:Fr):List Operand->Bool
 | [a,x]=>match q3r fr a,(q3r fr x).bind V.many with
  | some .nils,some _=>true
  | some (.slice _ _ _ len _ (some c)),some n=>Nat.beq n 0 || !Nat.ble (len+n) c
  | _,_=>false
 | _=>false
def qfe (E:Env) (o:Oper) (fr:Fr):FP:=
 bif !js E o.op then .none else
 match o.op with
 | .store _ a x=>.writes (qpp fr a++qh8 x)
 | .mapUpdate _ m k x | .insert _ m k x=>.writes (qpp fr m++qh8 k++qh8 x)
 | .next i _=>.writes (qpp fr i)
 | .call c=>match c.callee with
  | .builtin b=>match b with
   | .append=>bif qsa fr c.args.toList then .reads (qar fr c.args.toList) else .writes (qar fr c.args.toList)
   | .copy | .clear | .unsafeString=>.writes (qar fr c.args.toList)
   | _=>.reads (qar fr c.args.toList)
  | _=>.call
 | op=>.reads (qar fr op.operands.toList)
def zja (all:Array Oper) (i:Nat) (o:Oper):Bool:=
 match o.op with
 | .load _ (.tmp t)=>all.toList.any λp=>(match p.dst with | some d=>Nat.beq d t | none=>false)&&(match p.op with
   | .indexAddr _ (.tmp u) _=>all.toList.zipIdx.any λ(q,j)=>(match q.dst with | some d=>Nat.beq d u | none=>false)&&Nat.blt i j&&(match q.op with | .buildSlice ..=>true | _=>false)
   | _=>false)
 | _=>false
def qjc (E:Env) (all:Array Oper) (b:Array Nat) (i:Nat):Bool:=
 all.toList.zipIdx.all λ(o,k)=>Nat.beq k i || !js E o.op || (b.getD (max i k) 0).testBit (min i k) || zja all i o
structure Done where
 i:Nat
 fp:FP
 lo:Nat
 hi:Nat
 dels:List Nat
def qao (d:Done) (dels:List Nat) (fp:FP):Bool:=
 match d.fp,fp with
 | .none,_ | _,.none=>false
 | .lone,.reads l | .lone,.writes l | .call,.writes l=>l.any λn=>Nat.blt n d.lo&&!d.dels.any λm=>Nat.beq n m
 | .reads l,.lone | .writes l,.lone | .writes l,.call=>l.any λn=>!dels.any λm=>Nat.beq n m
 | .lone,.lone | .lone,.call | .call,.lone=>true
 | .writes w,.writes l | .writes w,.reads l | .reads l,.writes w=>w.any λn=>l.any λm=>Nat.beq n m
 | .reads _,.reads _ | .reads _,.call | .call,.reads _ | .call,.call=>false
def Done.names (d:Done):List Nat:=List.range' d.lo (d.hi-d.lo)
def zw (H:Heap) (fp:FP) (dels:List Nat):Heap:=
 let ok (n:Nat):Bool:=Nat.blt n H.next&&!dels.any λm=>Nat.beq n m
 match fp with
 | .none=>{H with qbu:=.nil,ro:=H.next}
 | .reads l=>{H with qbu:=kl H.qbu (l.filter ok) .nil,ro:=H.next}
 | .writes l=>{H with qbu:=kl H.qbu (l.filter ok) .nil}
 | .call=>{H with qbu:=kl .nil dels H.qbu,ro:=H.next}
 | .lone=>{H with qbu:=kl .nil dels H.qbu}
def qb6 (H K:Heap) (fp:FP) (dels:List Nat):Heap:=
 let ok (n:Nat):Bool:=Nat.blt n H.next&&!dels.any λm=>Nat.beq n m
 {qbu:=match fp with
    | .none | .reads _ | .call=>kl K.qbu (List.range' H.next (K.next-H.next)) H.qbu
    | .writes l=>kl K.qbu (l.filter ok++List.range' H.next (K.next-H.next)) H.qbu
    | .lone=>kl H.qbu dels K.qbu,
   next:=K.next,ro:=H.ro,qp:=H.qp}
def qat (E:Env) (call:Call) (all:Array Oper) (b:Array Nat):Nat->List Oper->List Done->Fr->Heap->Option (Fr×Heap)
 | _,[],_,fr,H=>some (fr,H)
 | i,o::rest,done,fr,H=>(ky o all fr).bind λa=>
  let fp:=bif a then (match qfe E o fr with
   | .call=>bif qjc E all b i then .lone else .call
   | x=>x) else .none
  let free:=done.filter λd=>!(b.getD i 0).testBit d.i;let dels:=free.flatMap Done.names
  bif free.any (λd=>qao d dels fp) then none else
  match j8 E call all o {fr with tmps:=kl fr.tmps (o.looksAt all) .nil} (zw H fp dels) with
  | some (.ret v,K)=>bif Nat.blt K.next H.next then none else qat E call all b (i+1) rest (⟨i,fp,H.next,K.next,dels⟩::done) (fr.put o.dst v) (qb6 H K fp dels)
  | _=>none
def qxh (ops:Array Oper):Bool:=
 ops.toList.zipIdx.all λ(o,i)=>o.after.all (λe=>!Region.binds .any e || Nat.blt e.on i)&&(match o.op with | .select ..=>false | _=>true)&&
  ops.toList.zipIdx.all λ(p,k)=>Nat.ble i k || ((Region.before ops).getD i 0).testBit k || (p.apart ops o)
def codeOk:Code->Bool
 | .region _ ops c=>!c || qxh ops
 | .seq a b=>codeOk a&&codeOk b
 | .cond _ a b=>codeOk a&&codeOk b
 | .block _ a | .loop a | .scope a=>codeOk a
 | .rangeFunc _ _ a b=>codeOk a&&codeOk b
 | _=>true
def iter {σ:Type} (step:σ->Option (Bool×σ)):Nat->σ->Option σ
 | 0,_=>none
 | n+1,s=>match step s with
  | some (true,a)=>iter step n a
  | some (false,a)=>some a
  | none=>none
def qbo:Option Code->Option Ex
 | none=>some .normal
 | some .ret=>some .ret
 | some (.exit id)=>some (.exit id)
 | _=>none
def qj2 (round:Option Nat) (H:Heap):Option (List Dfr×Heap×Nat):=
 match round with
 | none=>some ([Dfr.mark H.next],H.new .dfr,H.next)
 | some l=>match H.get l with
  | some (.loop _ _ _ _ _ _ _ d)=>some ([],H,d)
  | _=>none
def qab (H:Heap) (l:Nat):Option (Ex×Heap):=
 match H.get l with
 | some (.loop st a lt ln b c d e)=>match st with
  | .busy=>none
  | _=>(H.upd l (.loop .exhausted a lt ln b c d e)).bind λH'=>(qbo a).map λex=>(ex,H')
 | _=>none
def qgc (E:Env) (f:Nat):Bool:=
 match E.funcs f with
 | some fi=>fi.body.isSome
 | none=>false
def qh (E:Env) (call:Call) (fn:FuncId) (round:Option Nat) (fuel:Nat):Code->Fr->Heap->Option (Ex×Fr×Heap)
 | .skip,fr,H=>some (.normal,fr,H)
 | .label _,fr,H=>some (.normal,fr,H)
 | .exit id,fr,H=>some (.exit id,fr,H)
 | .goto l,fr,H=>some (.goto l,fr,H)
 | .ret,fr,H=>some (.ret,fr,H)
 | .seq a b,fr,H=>match qh E call fn round fuel a fr H with
  | some (.normal,fr',H')=>qh E call fn round fuel b fr' H'
  | r=>r
 | .cond c a b,fr,H=>match opd fr H c with
  | some (.bool true)=>qh E call fn round fuel a fr H
  | some (.bool false)=>qh E call fn round fuel b fr H
  | _=>none
 | .block id c,fr,H=>match qh E call fn round fuel c fr H with
  | some (.exit h,fr',H')=>bif Nat.beq h id then some (.normal,fr',H') else some (.exit h,fr',H')
  | r=>r
 | .scope c,fr,H=>match qh E call fn round fuel c fr H with
  | some (.goto _,_,_)=>none
  | r=>r
 | .loop c,fr,H=>iter (λ(s:Ex×Fr×Heap)=>match qh E call fn round fuel c s.2.1 s.2.2 with
   | some (.normal,fr',H')=>some (true,.normal,fr',H')
   | some r=>some (false,r)
   | none=>none) fuel (.normal,fr,H)
 | .region _ ops i,fr,H=>bif i then
   (qat E call ops (Region.before ops) 0 ops.toList [] fr H).map λr=>(.normal,r.1,r.2)
  else ku E call round.isNone ops ops.toList fr H
 | .rangeFunc f d e body,fr,H=>(qj2 round H).bind λz=>
  match (opd fr H f).bind λf=>qdr f [.func (.yield z.2.1.next) [] []] with
  | some (.call (.func g) args)=>
   bif qgc E g then
    match call (.func g) args (z.2.1.new (.loop .ready none fr.tmps fr.n d.toList e body z.2.2)) with
    | some (.ret _,j)=>(qab j z.2.1.next).map λy=>(y.1,{fr with defers:=z.1++fr.defers},y.2)
    | some (.panic k,j)=>some (.panic k,{fr with defers:=z.1++fr.defers},j)
    | none=>none
   else none
  | _=>none
 | .refuse _,_,_=>none
def zv (E:Env) (fr:Fr) (H:Heap):List ResultVar->Option (List V)
 | []=>some []
 | .tmp t::rs=>(fr.tmp t).bind λv=>(zv E fr H rs).map λvs=>v::vs
 | .cell a t::rs=>(E.types t).bind λti=>(fr.tmp a).bind λp=>(jr H ti p).bind λv=>(zv E fr H rs).map λvs=>v::vs
def qbm (args:List V):Tree V:=Tree.ofList args
def qb1 (n:Nat):List Tmp->List V->Tree V->Option (Tree V)
 | [],[],t=>some t
 | p::ps,v::vs,t=>bif Nat.blt p n then qb1 n ps vs (t.set p v) else none
 | _,_,_=>none
def zd8 (ext:Nat) (args:List V):Option V:=
 match ext,args with
 | 1,[.str s,.int .u8 c]=>some (.int .i64 (match s.findIdx? (λb=>b == c.toNat.toUInt8) with | some i=>(i:Int) | none=>-1))
 | 2,[.str s,.int .u8 c]=>some (.int .i64 (s.countP (λb=>b == c.toNat.toUInt8):Nat))
 | 4,[x]=>some x
 | _,_=>none
inductive Md where
 | returning
 | panicking (v:V)
 | recovered (v:V)
def qg0 (o:Oper):Bool:=
 match o.op with
 | .call c=>match c.callee with
  | .builtin .recover=>Nat.beq c.args.size 0
  | _=>false
 | _=>false
def qfa (E:Env) (all:Array Oper):List Oper->Md->Fr->Heap->Option (Ex×Md×Fr×Heap)
 | [],md,fr,H=>some (.normal,md,fr,H)
 | o::rest,md,fr,H=>match ky o all fr with
  | some true=>bif qg0 o then (match md with
    | .panicking v=>qfa E all rest (.recovered v) (fr.put o.dst v) H
    | md=>qfa E all rest md (fr.put o.dst .nili) H)
   else (match zb E o fr H with
    | some (.val v,H')=>qfa E all rest md (fr.put o.dst v) H'
    | some (.skip,H')=>qfa E all rest md (fr.put o.dst zs) H'
    | _=>none)
  | some false=>qfa E all rest md (fr.put o.dst zs) H
  | none=>none
def qaq:Code->Bool
 | .region _ ops _=>ops.toList.any qg0
 | .seq a b=>qaq a || qaq b
 | .cond _ a b=>qaq a || qaq b
 | .block _ a | .loop a | .scope a=>qaq a
 | .rangeFunc _ _ a b=>qaq a || qaq b
 | _=>false
def qcz (E:Env) (call:Call) (fn:FuncId) (fuel:Nat) (c:Code) (md:Md) (fr:Fr) (H:Heap):Option (Ex×Md×Fr×Heap):=
 bif qaq c then (match c with
  | .region _ ops false=>qfa E ops ops.toList md fr H
  | _=>none)
 else (qh E call fn none fuel c fr H).map λx=>(x.1,md,x.2)
def qai (E:Env) (call:Call) (fn:FuncId) (fuel:Nat):Code->Md->Fr->Heap->Option (Ex×Md×Fr×Heap)
 | .seq a b,md,fr,H=>match qai E call fn fuel a md fr H with
  | some (.normal,d,fr',H')=>qai E call fn fuel b d fr' H'
  | x=>x
 | .cond c a b,md,fr,H=>match opd fr H c with
  | some (.bool true)=>qai E call fn fuel a md fr H
  | some (.bool false)=>qai E call fn fuel b md fr H
  | _=>none
 | c,md,fr,H=>qcz E call fn fuel c md fr H
def q39:Md->Md
 | .recovered _=>.returning
 | md=>md
def qf4 (E:Env) (call:Call) (fuel:Nat) (d:D) (md:Md) (H:Heap):Option (Md×Heap):=
 match d.fn with
 | .func f=>(E.funcs f).bind λfi=>match fi.body with
  | some c=>(qai E call f fuel c md {tmps:=qbm (d.args++d.captured),n:=max (d.args++d.captured).length fi.ntmps,defers:=[]} H).bind λx=>
   match x.1,x.2.2.1.defers with
   | .normal,[] | .ret,[]=>(zv E x.2.2.1 x.2.2.2 fi.results).map λ_=>(x.2.1,x.2.2.2)
   | _,_=>none
  | none=>none
 | _=>none
def leave (E:Env) (call:Call) (fuel:Nat):List Dfr->Md->Heap->Option (Md×Heap)
 | [],md,H=>some (md,H)
 | .mark nm::ds,md,H=>match H.get nm with
  | some .dfr=>(H.upd nm .gone).bind λH'=>leave E call fuel ds md H'
  | _=>none
 | .call d::ds,md,H=>(qf4 E call fuel d md H).bind λr=>leave E call fuel ds (q39 r.1) r.2
def qhx (E:Env) (call:Call) (fuel:Nat) (x:Ex×Fr×Heap):Option (Md×Fr×Heap):=
 match x.1 with
 | .normal | .ret=>(leave E call fuel x.2.1.defers .returning x.2.2).map λr=>(r.1,x.2.1,r.2)
 | .panic [⟨v,false,false⟩]=>(leave E call fuel x.2.1.defers (.panicking v) x.2.2).map λr=>(r.1,x.2.1,r.2)
 | _=>none
def qeb (H:Heap) (l:Nat) (jump:Option Code):Option (CR×Heap):=
 match H.get l with
 | some (.loop _ _ lt ln a b c d)=>(H.upd l (.loop (if jump.isNone then .ready else .done) jump lt ln a b c d)).map λH'=>(.ret (.bool jump.isNone),H')
 | _=>none
def qgi (l:Nat) (x:Ex×Fr×Heap):Option (CR×Heap):=
 match x.1 with
 | .normal=>qeb x.2.2 l none
 | .ret=>qeb x.2.2 l (some .ret)
 | .exit id=>qeb x.2.2 l (some (.exit id))
 | _=>none
def qll (H:Heap) (l:Nat):Option Heap:=
 match H.get l with
 | some (.loop .ready a lt ln b c d e)=>H.upd l (.loop .busy a lt ln b c d e)
 | _=>none
def oneOf:List V->V
 | [v]=>v
 | vs=>.tuple vs
def qgb (E:Env) (rs:List ResultVar) (x:Md×Fr×Heap):Option (CR×Heap):=
 match x.1 with
 | .returning=>(zv E x.2.1 x.2.2 rs).map λvs=>(.ret (oneOf vs),x.2.2)
 | .panicking v=>some (.panic [⟨v,false,false⟩],x.2.2)
 | .recovered _=>none
def ja (E:Env):Nat->Call
 | 0,_,_,_=>none
 | n+1,.func f,args,H=>match (match E.spec f with
   | some s=>s args H
   | none=>none) with
  | some r=>some r
  | none=>(E.funcs f).bind λfi=>match fi.body with
  | some c=>(qh E (ja E n) f none (n+1) c {tmps:=qbm args,n:=max args.length fi.ntmps,defers:=[]} H).bind λx=>
    (qhx E (ja E n) (n+1) x).bind λy=>qgb E fi.results y
  | none=>(zd8 fi.ext args).map λv=>(.ret v,H)
 | n+1,.round l,args,H=>match H.get l with
  | some (.loop _ _ lt ln a b d _)=>(qb1 ln a args lt).bind λt=>
   match qh E (ja E n) 0 (some l) (n+1) b {tmps:=t,n:=ln,defers:=[]} H with
   | some (.normal,fr,H1)=>(qll H1 l).bind λe=>(qh E (ja E n) 0 (some l) (n+1) d fr e).bind λx=>qgi l x
   | _=>none
  | _=>none
def qge (P:Program):Nat->TypeId->Bool
 | 0,_=>false
 | d+1,t=>match P.underlying t with
  | some (.int _) | some .string | some .bool=>true
  | some (.struct a)=>!P.stoodInHeld t&&!P.eqGuardType P.depth t&&a.all λf=>f.name != "_" && qge P d f.type
  | _=>false
def zeq:TypeDesc->Bool
 | .struct _ | .array ..=>true
 | _=>false
def typeOf (P:Program) (t:Nat):Option TI:=
 match P.info? t,P.underlying t with
 | some i,some u=>(i.zero.bind (qrk 1000)).bind λz=>bif Nat.beq z.cells.length i.size then some {under:=u,size:=i.size,bytes:=i.bytes,zero:=z,isAgg:=zeq u} else none
 | _,_=>none
def qu9 (name:String):Nat:=
 if name == "internal/bytealg.IndexByteString" then 1 else if name == "internal/bytealg.CountString" then 2 else if name == "internal/abi.NoEscape" then 4 else 0
def funcOf (P:Program) (f:Nat):Option FI:=
 match P.funcs[f]? with
 | some fn=>bif fn.name == "runtime.NumGoroutine" then none else
  match fn.body with
  | some c=>some {body:=some c,ext:=0,ntmps:=fn.ntmps,results:=fn.results.toList}
  | none=>some {body:=none,ext:=qu9 fn.name,ntmps:=0,results:=[]}
 | none=>none
def qw (P:Program) (spec:Nat->Option (List V->Heap->Option (CR×Heap))):Env:=
 {types:=typeOf P,funcs:=funcOf P,spec,eqOk:=qge P 20,lies:=λe n off u=>liesAt P P.depth e n off u 1}
end Go.E2
/- E2's memory and values against the model's: the relation, and what keeps it. -/
namespace Go.E2
open Go
theorem Tree.qr9 {α:Type} (v:Option α) (l r:Tree α) (m:Nat) :
  (Tree.node v l r).get m=if m=0 then v else if m % 2=1 then l.get (m / 2) else r.get (m / 2-1):=by
 simp only [Tree.get,qmh,Nat.beq_eq]
theorem Tree.zc2 {α:Type} (a:α) (f:Nat) (t:Tree α) (n:Nat) :
  ∃ v l r,(∀ m,t.get m=(Tree.node v l r).get m)/\Tree.qy1 a (f+1) t n=(if n=0 then .node (some a) l r
   else if n % 2=1 then .node v (Tree.qy1 a f l (n / 2)) r else .node v l (Tree.qy1 a f r (n / 2-1))):=by
 cases t with
 | nil=>exact ⟨none,.nil,.nil,λm=>by rw [Tree.qr9];simp [Tree.get],by simp only [Tree.qy1,qmh,Nat.beq_eq]⟩
 | node v l r=>exact ⟨v,l,r,λ_=>rfl,by simp only [Tree.qy1,qmh,Nat.beq_eq]⟩
theorem Tree.zel {α:Type} (a:α):∀ (f:Nat) (t:Tree α) (n m:Nat),n<f->
  (Tree.qy1 a f t n).get m=if m=n then some a else t.get m:=by
 intro f
 induction f with
 | zero=>simp_all
 | succ f c=>
  intro t n m h;obtain ⟨v,l,r,i,e⟩:=Tree.zc2 a f t n;rw [e,i m];by_cases d:n=0
  .subst d;simp only [if_true,Tree.qr9];by_cases j:m=0<;>simp [j]
  .simp only [d,if_false];by_cases g:n % 2=1
   .simp only [g,if_true,Tree.qr9];rw [c l (n / 2) (m / 2) (by omega)];by_cases b:m=0
    .grind
    .grind
   .simp only [g,if_false,Tree.qr9];rw [c r (n / 2-1) (m / 2-1) (by omega)];by_cases b:m=0
    .grind
    .grind
theorem Tree.zn {α:Type} (t:Tree α) (n:Nat) (a:α) (m:Nat):(t.set n a).get m=if m=n then some a else t.get m:=
 Tree.zel a (n+1) t n m (by omega)
theorem Tree.qx2 {α:Type}:∀ (l:List α) (t:Tree α) (k:Nat) (m:Nat),
  ((l.foldl (λ(s:Tree α×Nat) a=>(s.1.set s.2 a,s.2+1)) (t,k)).1).get m=if k<=m/\m<k+l.length then l[m-k]? else t.get m:=by
 intro l
 induction l with
 | nil=>grind
 | cons a l b=>
  intro t k m;simp only [List.foldl_cons,List.length_cons];rw [b];by_cases c:k+1<=m/\m<k+1+l.length
  .grind
  .rw [zF c,Tree.zn];by_cases d:m=k
   .subst d;simp
   .grind
theorem Tree.qi3 {α:Type} (l:List α) (m:Nat):(Tree.ofList l).get m=l[m]?:=by
 unfold Tree.ofList;rw [Tree.qx2];by_cases h:m<l.length
 .simp [h]
 .simp only [Nat.zero_le,true_and,Nat.zero_add,h,if_false,Tree.get];exact (List.getElem?_eq_none (by omega)).symm
abbrev qj:=Nat->Nat->Option (Nat×Nat×Nat)
def qh5 (G:qj) (b:Nat):Prop:=∀ nm g sh n,G nm g≠some (b,sh,n)
def qkx (G:qj) (f a:Fn):Prop:=
 match f with
 | .yield l=>∃ b sh n,G l 0=some (b,sh,n)/\a=.yield b
 | f=>a=f
mutual
def Rel (G:qj) (w:World):V->Value->Prop
 | .int k n,v=>v=.int k n
 | .bool b,v=>v=.bool b
 | .str s,v=>v=.string ⟨s.toArray⟩
 | .ptr nm g off lim,v=>∃ b sh n,G nm g=some (b,sh,n)/\sh<=off/\lim<=n/\v=.pointer (some ⟨b,off-sh,none⟩)
 | .nilp,v=>v=.pointer none
 | .slice nm g off len sz cap,v=>∃ b sh n ro c e m ad,G nm g=some (b,sh,n)/\v=.slice (some ad) len c/\(c=0∨ad=⟨b,ro,none⟩)/\len<=c/\sh<=off/\
   off+len * sz<=n/\(ro+sh=off∨c=0)/\(∀ k,cap=some k->c=k/\off+k * sz<=n)/\w.shape? b=some (e,m)/\ro+c * sz<=m
 | .nils,v=>v=.slice none 0 0
 | .func fn first d,v=>∃ f a c,v=.func f a c/\qkx G fn f/\qn G w first a.toList/\qn G w d c.toList
 | .nilf,v=>v=.nilFunc
 | .iface t x,v=>∃ y,v=.iface t y/\Rel G w x y
 | .nili,v=>v=.nilIface
 | .agg cs,v=>∃ a,v=.agg a/\qn G w cs a.toList
 | .tuple vs,v=>∃ a,v=.tuple a/\qn G w vs a.toList
 | .map nm,v=>∃ b sh n,G nm 0=some (b,sh,n)/\v=.map (some b)
 | .nilm,v=>v=.map none
def qn (G:qj) (w:World):List V->List Value->Prop
 | [],l=>l=[]
 | v::vs,l=>∃ x a,l=x::a/\Rel G w v x/\qn G w vs a
end
theorem V.qg4 {nm g off len sz:Nat} {cap:Option Nat}:V.qb2 sz (.slice nm g off len sz cap)=.slice nm g off len sz cap:=by
 cases cap with
 | none=>rfl
 | some c=>simp only [V.qb2];cases Nat.beq c 0<;>rfl
theorem V.qd7 {nm g off len z sz:Nat} {cap:Option Nat}:V.qb2 sz (.slice nm g off len z cap)=.slice nm g off len z cap∨(cap=some 0/\V.qb2 sz (.slice nm g off len z cap)=.slice nm g off len sz cap):=by
 cases cap with
 | none=>exact .inl rfl
 | some c=>cases c with
  | zero=>exact .inr ⟨rfl,rfl⟩
  | succ c=>exact .inl rfl
theorem V.zcy {sz:Nat} {v:V}:(v.qb2 sz).qb2 sz=v.qb2 sz:=by
 cases v with
 | slice nm g off len z cap=>
  rcases V.qd7 (nm:=nm) (g:=g) (off:=off) (len:=len) (z:=z) (sz:=sz) (cap:=cap) with e | ⟨_,e⟩
  .rw [e,e]
  .rw [e,V.qg4]
 | _=>rfl
theorem q48 {H:Heap} {sz:Nat} {v:V}:km H sz (v.qb2 sz)=km H sz v:=by unfold km;rw [V.zcy]
theorem V.q34 {sz:Nat} {v:V}:(v.qb2 sz).nm=v.nm:=by
 cases v with
 | slice nm g off len z cap=>
  rcases V.qd7 (nm:=nm) (g:=g) (off:=off) (len:=len) (z:=z) (sz:=sz) (cap:=cap) with e | ⟨_,e⟩
  .rw [e]
  .rw [e];rfl
 | _=>rfl
theorem V.zgf {sz:Nat} {v:V} {s:List UInt8} (h:v.qb2 sz=.str s):v=.str s:=by
 cases v with
 | slice nm g off len z cap=>rcases V.qd7 (nm:=nm) (g:=g) (off:=off) (len:=len) (z:=z) (sz:=sz) (cap:=cap) with e | ⟨_,e⟩<;>rw [e] at h<;>cases h
 | _=>exact h
theorem Rel.qb2 {G:qj} {w:World} {v:V} {a:Value} (sz:Nat) (h:Rel G w v a):Rel G w (v.qb2 sz) a:=by
 cases v with
 | slice nm g off len z cap=>
  rcases V.qd7 (nm:=nm) (g:=g) (off:=off) (len:=len) (z:=z) (sz:=sz) (cap:=cap) with e | ⟨rfl,e⟩
  .simp_all
  .rw [e];obtain ⟨b,sh,n,ro,c,d,m,ad,f,i,r,j,l,s,t,o,p,u⟩:=h;obtain ⟨rfl,_⟩:=o 0 rfl;obtain rfl:len=0:=by omega
   exact ⟨b,sh,n,ro,0,d,m,ad,f,i,.inl rfl,j,l,by omega,.inr rfl,λk q=>by cases q;exact ⟨rfl,by omega⟩,p,by omega⟩
 | _=>exact h
theorem qn.length {G:qj} {w:World}:∀ {vs:List V} {l:List Value},qn G w vs l->vs.length=l.length
 | [],_,h=>by simp [qn] at h;simp [h]
 | v::vs,_,h=>by
  simp only [qn] at h;obtain ⟨x,b,rfl,_,a⟩:=h;simp [qn.length a]
theorem qn.cons {G:qj} {w:World} {v:V} {vs:List V} {x:Value} {xs:List Value} (a:Rel G w v x) (b:qn G w vs xs):qn G w (v::vs) (x::xs):=by
 simp only [qn];exact ⟨x,xs,rfl,a,b⟩
theorem qn.nil {G:qj} {w:World}:qn G w [] []:=by simp [qn]
theorem qn.q45 {G:qj} {w:World} {v:V} {vs:List V} {x:Value} {xs:List Value}:qn G w (v::vs) (x::xs)↔Rel G w v x/\qn G w vs xs:=by
 constructor
 .rintro ⟨y,c,h,a,b⟩;cases h;exact ⟨a,b⟩
 .rintro ⟨a,b⟩;exact ⟨x,xs,rfl,a,b⟩
theorem qn.append {G:qj} {w:World}:∀ {vs:List V} {l:List Value} {a:List V} {c:List Value},qn G w vs l->qn G w a c->qn G w (vs++a) (l++c)
 | [],_,_,_,h,b=>by simp [qn] at h;simpa [h] using b
 | v::vs,_,_,_,h,b=>by
  simp only [qn] at h;obtain ⟨x,f,rfl,d,e⟩:=h;exact qn.cons d (qn.append e b)
theorem qn.take {G:qj} {w:World}:∀ {vs:List V} {l:List Value} (n:Nat),qn G w vs l->qn G w (vs.take n) (l.take n)
 | [],_,n,h=>by simp [qn] at h;simp [h,qn]
 | v::vs,_,0,h=>by simp [qn]
 | v::vs,_,n+1,h=>by
  simp only [qn] at h;obtain ⟨x,c,rfl,a,b⟩:=h;exact qn.cons a (qn.take n b)
theorem qn.drop {G:qj} {w:World}:∀ {vs:List V} {l:List Value} (n:Nat),qn G w vs l->qn G w (vs.drop n) (l.drop n)
 | [],_,n,h=>by simp [qn] at h;simp [h,qn]
 | v::vs,_,0,h=>by simpa using h
 | v::vs,_,n+1,h=>by
  simp only [qn] at h;obtain ⟨x,b,rfl,c,a⟩:=h;simpa using qn.drop n a
theorem qn.get {G:qj} {w:World}:∀ {vs:List V} {l:List Value} {i:Nat} {v:V},qn G w vs l->vs[i]? = some v->∃ x,l[i]? = some x/\Rel G w v x
 | [],_,_,_,_,h=>by simp at h
 | u::vs,_,0,_,h,hi=>by
  simp only [qn] at h;obtain ⟨x,c,rfl,a,b⟩:=h;simp at hi;subst hi;exact ⟨x,rfl,a⟩
 | u::vs,_,i+1,_,h,hi=>by
  simp only [qn] at h;obtain ⟨x,c,rfl,a,b⟩:=h;have d:=qn.get (i:=i) b (by simpa using hi);simpa using d
structure Ext (r:Nat) (G:qj) (w:World) (G':qj) (w':World):Prop where
 sub:∀ nm g x,G nm g=some x->G' nm g=some x
 frg:∀ b,b<w.heap.size->qh5 G b->w'.heap[b]? = w.heap[b]?/\qh5 G' b
 size:w.heap.size<=w'.heap.size
 shp:∀ b x,w.shape? b=some x->w'.shape? b=some x
 ro:∀ nm g b sh n,nm<r->G nm g=some (b,sh,n)->w'.heap[b]? = w.heap[b]?
 out:w'.os=w.os/\w'.output=w.output
theorem Ext.refl (r:Nat) (G:qj) (w:World):Ext r G w G w:=
 ⟨λ_ _ _ h=>h,λ_ _ h=>⟨rfl,h⟩,zN _,λ_ _ h=>h,λ_ _ _ _ _ _ _=>rfl,rfl,rfl⟩
theorem Ext.trans {r:Nat} {G f c:qj} {w w' d:World} (h:Ext r G w f w') (a:Ext r f w' c d):Ext r G w c d:=
 ⟨λnm g x e=>a.sub nm g x (h.sub nm g x e),
  λb i m=>by
   have j:=h.frg b i m;have k:=a.frg b (zL i h.size) j.2;exact ⟨k.1.trans j.1,k.2⟩,
  zR h.size a.size,λb x e=>a.shp b x (h.shp b x e),
  λnm g b sh n l e=>(a.ro nm g b sh n l (h.sub _ _ _ e)).trans (h.ro nm g b sh n l e),a.out.1.trans h.out.1,a.out.2.trans h.out.2⟩
theorem Ext.mono {r a:Nat} {G c:qj} {w w':World} (h:Ext r G w c w') (d:a<=r):Ext a G w c w':=
 ⟨h.sub,h.frg,h.size,h.shp,λnm g b sh n f e=>h.ro nm g b sh n (zL f d) e,h.out⟩
structure Up (G:qj) (w:World) (G':qj) (w':World):Prop where
 sub:∀ nm g x,G nm g=some x->G' nm g=some x
 shp:∀ b x,w.shape? b=some x->w'.shape? b=some x
theorem Ext.up {r:Nat} {G a:qj} {w w':World} (h:Ext r G w a w'):Up G w a w':=⟨h.sub,h.shp⟩
theorem qkx.ext {G a:qj} (d:∀ nm g x,G nm g=some x->a nm g=some x) {f c:Fn} (h:qkx G f c):qkx a f c:=by
 cases f with
 | yield l=>obtain ⟨b,sh,n,e,r⟩:=h;exact ⟨b,sh,n,d _ _ _ e,r⟩
 | _=>exact h
theorem qjd {w:World} {b:Nat} {o:Obj} (h:w.heap[b]? = some o):b<w.heap.size:=by
 rw [Array.getElem?_eq_some_iff] at h;exact h.1
mutual
theorem Rel.up {G o:qj} {w w':World} (h:Up G w o w'):∀ {v:V} {x:Value},Rel G w v x->Rel o w' v x
 | .int _ _,_,e | .bool _,_,e | .str _,_,e | .nilp,_,e | .nils,_,e | .nilf,_,e | .nili,_,e | .nilm,_,e=>by simpa [Rel] using e
 | .ptr nm g off lim,_,e=>by
  simp only [Rel] at e ⊢;obtain ⟨b,sh,n,d,f⟩:=e;exact ⟨b,sh,n,h.sub _ _ _ d,f⟩
 | .slice nm g off len sz cap,_,e=>by
  simp only [Rel] at e ⊢;obtain ⟨b,sh,n,ro,c,p,m,ad,d,f,q,j,k,r,s,u,z,A⟩:=e;exact ⟨b,sh,n,ro,c,p,m,ad,h.sub _ _ _ d,f,q,j,k,r,s,u,h.shp _ _ z,A⟩
 | .func fn first i,_,e=>by
  simp only [Rel] at e ⊢;obtain ⟨l,a,c,d,f,j,k⟩:=e;exact ⟨l,a,c,d,f.ext h.sub,qn.up h j,qn.up h k⟩
 | .iface t x,_,e=>by
  simp only [Rel] at e ⊢;obtain ⟨y,d,f⟩:=e;exact ⟨y,d,Rel.up h f⟩
 | .agg cs,_,e=>by
  simp only [Rel] at e ⊢;obtain ⟨a,d,f⟩:=e;exact ⟨a,d,qn.up h f⟩
 | .tuple cs,_,e=>by
  simp only [Rel] at e ⊢;obtain ⟨a,d,f⟩:=e;exact ⟨a,d,qn.up h f⟩
 | .map nm,_,e=>by
  simp only [Rel] at e ⊢;obtain ⟨b,sh,n,d,f⟩:=e;exact ⟨b,sh,n,h.sub _ _ _ d,f⟩
theorem qn.up {G a:qj} {w w':World} (h:Up G w a w'):∀ {vs:List V} {l:List Value},qn G w vs l->qn a w' vs l
 | [],_,e=>by simpa [qn] using e
 | v::vs,_,e=>by
  simp only [qn] at e ⊢;obtain ⟨x,b,c,d,f⟩:=e;exact ⟨x,b,c,Rel.up h d,qn.up h f⟩
end
theorem Rel.ext {r:Nat} {G a:qj} {w w':World} (h:Ext r G w a w') {v:V} {x:Value} (e:Rel G w v x):Rel a w' v x:=Rel.up h.up e
theorem qn.ext {r:Nat} {G a:qj} {w w':World} (h:Ext r G w a w') {vs:List V} {l:List Value} (e:qn G w vs l):qn a w' vs l:=qn.up h.up e
def jd (G:qj) (w:World):List V->List Value->Prop
 | [],l=>l=[]
 | v::vs,l=>∃ x a,l=x::a/\(isHole v=true∨Rel G w v x)/\jd G w vs a
theorem qn.c {G:qj} {w:World}:∀ {vs:List V} {l:List Value},qn G w vs l->jd G w vs l
 | [],_,h=>by simp [qn] at h;simp [jd,h]
 | v::vs,_,h=>by
  simp only [qn] at h;obtain ⟨x,a,rfl,b,d⟩:=h;simp only [jd];exact ⟨x,a,rfl,.inr b,d.c⟩
theorem jd.l {G:qj} {w:World}:∀ {vs:List V} {l:List Value},jd G w vs l->vs.any isHole=false->qn G w vs l
 | [],_,h,_=>by simp [jd] at h;simp [qn,h]
 | v::vs,_,h,a=>by
  simp only [jd] at h;obtain ⟨x,b,rfl,c,d⟩:=h;simp only [List.any_cons,Bool.or_eq_false_iff] at a;simp only [qn];refine ⟨x,b,rfl,c.resolve_left (by rw [a.1];exact Bool.false_ne_true),d.l a.2⟩
theorem jd.length {G:qj} {w:World}:∀ {vs:List V} {l:List Value},jd G w vs l->vs.length=l.length
 | [],_,h=>by simp [jd] at h;simp [h]
 | v::vs,_,h=>by
  simp only [jd] at h;obtain ⟨x,b,rfl,_,a⟩:=h;simp [jd.length a]
theorem jd.append {G:qj} {w:World}:∀ {vs:List V} {l:List Value} {a:List V} {c:List Value},jd G w vs l->jd G w a c->jd G w (vs++a) (l++c)
 | [],_,_,_,h,b=>by simp [jd] at h;simpa [h] using b
 | v::vs,_,_,_,h,b=>by
  simp only [jd] at h;obtain ⟨x,f,rfl,d,e⟩:=h;simp only [List.cons_append,jd];exact ⟨x,_,rfl,d,jd.append e b⟩
theorem jd.take {G:qj} {w:World}:∀ {vs:List V} {l:List Value} (n:Nat),jd G w vs l->jd G w (vs.take n) (l.take n)
 | [],_,n,h=>by simp [jd] at h;simp [h,jd]
 | v::vs,_,0,h=>by simp [jd]
 | v::vs,_,n+1,h=>by
  simp only [jd] at h;obtain ⟨x,c,rfl,a,b⟩:=h;simp only [List.take_succ_cons,jd];exact ⟨x,_,rfl,a,jd.take n b⟩
theorem jd.drop {G:qj} {w:World}:∀ {vs:List V} {l:List Value} (n:Nat),jd G w vs l->jd G w (vs.drop n) (l.drop n)
 | [],_,n,h=>by simp [jd] at h;simp [h,jd]
 | v::vs,_,0,h=>by simpa using h
 | v::vs,_,n+1,h=>by
  simp only [jd] at h;obtain ⟨x,b,rfl,c,a⟩:=h;simpa using jd.drop n a
theorem jd.up {G a:qj} {w w':World} (h:Up G w a w'):∀ {vs:List V} {l:List Value},jd G w vs l->jd a w' vs l
 | [],_,e=>by simpa [jd] using e
 | v::vs,_,e=>by
  simp only [jd] at e ⊢;obtain ⟨x,b,c,d,f⟩:=e;exact ⟨x,b,c,d.imp id (Rel.up h),jd.up h f⟩
theorem jd.ext {r:Nat} {G a:qj} {w w':World} (h:Ext r G w a w') {vs:List V} {l:List Value} (e:jd G w vs l):jd a w' vs l:=jd.up h.up e
theorem qss {cs ds:List V} (h:qef cs=some ds):ds=cs/\cs.any isHole=false:=by
 unfold qef at h;cases a:cs.any isHole with
 | true=>simp_all
 | false=>simp_all
def ZS (u:V):Prop:=∃ nm g off len cap,u=.slice nm g off len 0 cap
theorem qq5 {v:V}:isHole v=true↔∃ u,v=.tuple [u]/\ZS u:=by
 unfold isHole;split
 .exact ⟨λ_=>⟨_,rfl,_,_,_,_,_,rfl⟩,λ_=>rfl⟩
 .rename_i h;exact ⟨λh=>(by cases h),λ⟨u,a,nm,g,off,len,cap,b⟩=>(h nm g off len cap (by rw [a,b])).elim⟩
theorem qhl {cs:List V} (h:∀ v ∈ cs,isHole v=false):qef cs=some cs:=by
 unfold qef;have:cs.any isHole=false:=by
  rw [<-Bool.not_eq_true,List.any_eq_true];rintro ⟨v,b,a⟩;rw [h v b] at a;cases a
 rw [this];rfl
theorem q59 {cs:List V} (h:cs.any isHole=false) (a b:Nat):qef ((cs.drop a).take b)=some ((cs.drop a).take b):=by
 refine qhl λv c=>?_;rw [<-Bool.not_eq_true];intro d;have:=List.any_eq_true.2 ⟨v,List.mem_of_mem_drop (List.mem_of_mem_take c),d⟩;rw [h] at this;cases this
theorem Tree.qr8 {α:Type}:∀ (t:Tree α) (n m:Nat),(t.del n).get m=if m=n then none else t.get m
 | .nil,n,m=>by simp [Tree.del,Tree.get]
 | .node v l r,n,m=>by
  simp only [Tree.del,qmh,Nat.beq_eq];by_cases d:n=0
  .subst d;simp only [if_true,Tree.get,qmh,Nat.beq_eq];by_cases b:m=0<;>simp [b]
  .rw [zF d];by_cases e:n % 2=1
   .rw [zT e];simp only [Tree.get,qmh,Nat.beq_eq,Tree.qr8 l];by_cases b:m=0
    .simp [b,Ne.symm d]
    .by_cases c:m % 2=1
     .simp only [b,if_false,c,if_true];by_cases a:m=n
      .subst a;simp
      .have:¬ m / 2=n / 2:=by omega
       simp [a,this]
     .have a:m≠n:=by intro a;subst a;exact c e
      simp [b,c,a]
   .rw [zF e];simp only [Tree.get,qmh,Nat.beq_eq,Tree.qr8 r];by_cases b:m=0
    .simp [b,Ne.symm d]
    .by_cases c:m % 2=1
     .have a:m≠n:=by intro a;subst a;exact e c
      simp [b,c,a]
     .simp only [b,if_false,c];by_cases a:m=n
      .subst a;simp
      .have:¬ m / 2-1=n / 2-1:=by omega
       simp [a,this]
theorem jz {α:Type} (src:Tree α):∀ (l:List Nat) (t:Tree α) (m:Nat),(kl src l t).get m=if m ∈ l then src.get m else t.get m
 | [],t,m=>by simp [kl]
 | n::l,t,m=>by
  simp only [kl];rw [jz src l];by_cases h:m ∈ l
  .simp [h]
  .simp only [h,if_false,zD,or_false];by_cases b:m=n
   .subst b;cases c:src.get m with
    | none=>simp [Tree.qr8]
    | some a=>simp [Tree.zn]
   .rw [zF b];cases c:src.get n with
    | none=>simp [Tree.qr8,b]
    | some a=>simp [Tree.zn,b]
end Go.E2
/- E2's memory against the model's: what holds of every name, and how a step keeps it. -/
namespace Go.E2
open Go
def qzk (G:qj) (w:World) (t:Tree V) (arr:Array Value):Prop:=∀ k v,t.get k=some v->Rel G w v (arr.getD k undef)
def qa2 (G:qj) (w:World):List (V×V×Nat)->List MapEntry->Prop
 | [],l=>l=[]
 | (k,v,b)::c,l=>∃ x a,l=x::a/\Rel G w k x.key/\Rel G w v x.val/\x.born=b/\qa2 G w c a
def qdl (G:qj) (w:World) (nm:Nat) (o:O):Prop:=
 match o with
 | .row cells elem gen floor frz exact=>floor<=gen/\(exact=true->gen=0)/\∀ g b sh n,G nm g=some (b,sh,n)->
   g<=gen/\sh<=n/\n<=cells.length/\(g=gen->n=cells.length)/\(exact=true->sh=0)/\
   (floor<=g->∃ d q,w.heap[b]? = some (.cells d elem q)/\n-sh<=d.size/\jd G w ((cells.take n).drop sh) (d.toList.take (n-sh))/\
     (g=gen->∀ i,frz<=i+sh->i<q.2->False)/\(exact=true->d.size=cells.length))
 | .map t h=>∀ g b sh n,G nm g=some (b,sh,n)->g=0/\∃ j,w.heap[b]? = some (.map j h)/\qa2 G w t j.toList
 | .siter s l=>∀ g b sh n,G nm g=some (b,sh,n)->g=0/\w.heap[b]? = some (.stringIter ⟨s.toArray⟩ l)
 | .miter ..=>∀ g x,G nm g≠some x
 | .loop st c k n e a body f=>∀ g b sh m,G nm g=some (b,sh,m)->g=0/\
   ∃ L,w.heap[b]? = some (.loop L)/\L.state=st/\L.pending=c/\L.params.toList=e/\L.assign=a/\L.body=body/\codeOk a=true/\codeOk body=true/\
    L.tmps.size=n/\qzk G w k L.tmps/\∃ r p u,G f 0=some (r,p,u)/\L.defers=r
 | .dfr=>∀ g b sh n,G nm g=some (b,sh,n)->g=0/\w.heap[b]? = some (.deferred (some []))
 | .gone=>True
structure Sim (H:Heap) (G:qj) (w:World):Prop where
 lt:∀ nm g b sh n,G nm g=some (b,sh,n)->b<w.heap.size/\nm<H.next
 inj:∀ nm g b sh n nm' g' sh' n',G nm g=some (b,sh,n)->G nm' g'=some (b,sh',n')->nm=nm'/\sh=sh'
 obj:∀ nm o,nm<H.next->H.get nm=some o->qdl G w nm o
 ro:H.ro<=H.next
 qp:H.qp<=H.ro
 globs:∀ g o,g<H.qp->H.get g=some o->∃ n,G g 0=some (g,0,n)
theorem qzk.up {G a:qj} {w w':World} (h:Up G w a w') {t:Tree V} {arr:Array Value} (e:qzk G w t arr):qzk a w' t arr:=
 λk v b=>Rel.up h (e k v b)
theorem qzk.ext {r:Nat} {G a:qj} {w w':World} (h:Ext r G w a w') {t:Tree V} {arr:Array Value} (e:qzk G w t arr):qzk a w' t arr:=e.up h.up
theorem qa2.up {G c:qj} {w w':World} (h:Up G w c w'):∀ {a:List (V×V×Nat)} {l:List MapEntry},qa2 G w a l->qa2 c w' a l
 | [],_,e=>by simpa [qa2] using e
 | (k,v,b)::a,_,e=>by
  simp only [qa2] at e ⊢;obtain ⟨x,d,f,g,i,j,m⟩:=e;exact ⟨x,d,f,Rel.up h g,Rel.up h i,j,qa2.up h m⟩
theorem qa2.ext {r:Nat} {G a:qj} {w w':World} (h:Ext r G w a w') {es:List (V×V×Nat)} {l:List MapEntry} (e:qa2 G w es l):qa2 a w' es l:=e.up h.up
theorem qdl.up {G t:qj} {w w':World} {nm:Nat} {o:O} (h:Up G w t w') (i:∀ g x,t nm g=some x->G nm g=some x)
  (hw:∀ g b sh n,G nm g=some (b,sh,n)->w'.heap[b]? = w.heap[b]?) (e:qdl G w nm o):qdl t w' nm o:=by
 cases o with
 | row cells elem gen floor frz exact=>
  refine ⟨e.1,e.2.1,λg b sh n f=>?_⟩;have d:=i _ _ f;obtain ⟨j,k,u,v,y,z⟩:=e.2.2 g b sh n d;refine ⟨j,k,u,v,y,λK=>?_⟩;obtain ⟨A,M,N,P,Q,R⟩:=z K;exact ⟨A,M,(hw _ _ _ _ d).trans N,P,jd.up h Q,R⟩
 | map es B=>
  intro g b sh n f;have d:=i _ _ f;obtain ⟨C,D,j,k⟩:=e g b sh n d;exact ⟨C,D,(hw _ _ _ _ d).trans j,qa2.up h k⟩
 | siter s S=>
  intro g b sh n f;have d:=i _ _ f;exact ⟨(e g b sh n d).1,(hw _ _ _ _ d).trans (e g b sh n d).2⟩
 | miter m a b c=>intro g x T;exact e g x (i _ _ T)
 | loop st l J n p q body r=>
  intro g b sh m f;have d:=i _ _ f;obtain ⟨C,L,j,k,u,v,z,U,V,E,W,X,Y,F,Z,H,I⟩:=e g b sh m d;exact ⟨C,L,(hw _ _ _ _ d).trans j,k,u,v,z,U,V,E,W,X.up h,Y,F,Z,h.sub _ _ _ H,I⟩
 | dfr=>
  intro g b sh n f;have d:=i _ _ f;exact ⟨(e g b sh n d).1,(hw _ _ _ _ d).trans (e g b sh n d).2⟩
 | gone=>trivial
theorem qdl.ext {r:Nat} {G a:qj} {w w':World} {nm:Nat} {o:O} (h:Ext r G w a w') (c:∀ g x,a nm g=some x->G nm g=some x)
  (hw:∀ g b sh n,G nm g=some (b,sh,n)->w'.heap[b]? = w.heap[b]?) (e:qdl G w nm o):qdl a w' nm o:=e.up h.up c hw
structure Step (H:Heap) (G:qj) (w:World) (H':Heap) (G':qj) (w':World):Prop where
 ext:Ext H.ro G w G' w'
 sim:Sim H' G' w'
 next:H.next<=H'.next
 ro:H'.ro=H.ro
 qp:H'.qp=H.qp
 keep:∀ nm,nm<H.ro->H'.get nm=H.get nm
 newG:∀ nm g x,G' nm g=some x->nm<H.ro->G nm g=some x
 frame:∀ nm,nm<H.next->H.get nm=none->H'.get nm=none/\(∀ g b sh n,G nm g=some (b,sh,n)->w'.heap[b]? = w.heap[b]?)/\∀ g x,G' nm g=some x->G nm g=some x
theorem Step.refl {H:Heap} {G:qj} {w:World} (h:Sim H G w):Step H G w H G w:=
 ⟨Ext.refl _ _ _,h,zN _,rfl,rfl,λ_ _=>rfl,λ_ _ _ h _=>h,λ_ _ h=>⟨h,λ_ _ _ _ _=>rfl,λ_ _ h=>h⟩⟩
theorem Step.trans {H H' d:Heap} {G j e:qj} {w w' f:World} (h:Step H G w H' j w') (a:Step H' j w' d e f):Step H G w d e f:=by
 refine ⟨h.ext.trans (h.ro ▸ a.ext),a.sim,zR h.next a.next,a.ro.trans h.ro,a.qp.trans h.qp,λnm c=>?_,λnm g x i c=>?_,λnm c l=>?_⟩
 .rw [a.keep nm (h.ro.symm ▸ c),h.keep nm c]
 .exact h.newG nm g x (a.newG nm g x i (h.ro.symm ▸ c)) c
 .obtain ⟨m,o,p⟩:=h.frame nm c l;obtain ⟨q,r,s⟩:=a.frame nm (zL c h.next) m;exact ⟨q,λg b sh n k=>(r g b sh n (h.ext.sub _ _ _ k)).trans (o g b sh n k),λg x i=>p g x (s g x i)⟩
theorem Sim.turn {H H':Heap} {G s:qj} {w w':World} (f:Sim H G w) (a:Nat) (o:O)
  (L:∀ nm,H'.get nm=if nm=a then some o else H.get nm) (j:H.next<=H'.next) (P:∀ nm,nm<H'.next->nm≠a->nm<H.next) (z:H'.ro=H.ro) (k:H'.qp=H.qp) (T:H.ro<=a) (Z:a<H'.next) (Q:H.next<=a∨H.get a≠none)
  (B:∀ nm g x,G nm g=some x->s nm g=some x) (d:∀ nm g x,s nm g=some x->nm≠a->G nm g=some x)
  (m:w.heap.size<=w'.heap.size)
  (h:∀ g b sh n,s a g=some (b,sh,n)->b<w'.heap.size/\(w.heap.size<=b∨∃ p q,G a p=some (b,sh,q)))
  (U:∀ g b sh n p e q,s a g=some (b,sh,n)->s a p=some (b,e,q)->w.heap.size<=b->sh=e)
  (hw:∀ b,b<w.heap.size->(∀ g sh n,G a g≠some (b,sh,n))->w'.heap[b]? = w.heap[b]?)
  (C:∀ b x,w.shape? b=some x->w'.shape? b=some x)
  (V:Ext H.ro G w s w'->qdl s w' a o) (D:w'.os=w.os/\w'.output=w.output:=by exact ⟨rfl,rfl⟩):Step H G w H' s w':=by
 have E:∀ b,b<w.heap.size->qh5 G b->qh5 s b:=by
  intro b u F nm g sh n i;by_cases c:nm=a
  .subst c;rcases (h g b sh n i).2 with t | ⟨p,q,t⟩
   .omega
   .exact F _ _ _ _ t
  .exact F _ _ _ _ (d _ _ _ i c)
 have v:Ext H.ro G w s w':=by
  refine ⟨B,λb u F=>⟨hw b u (λg sh n=>F a g sh n),E b u F⟩,m,C,λnm g b sh n hr i=>?_,D⟩;have R:=f.lt nm g b sh n i;refine hw b R.1 (λp e q I=>?_);have:=(f.inj nm g b sh n a p e q i I).1;omega
 refine ⟨v,⟨λnm g b sh n i=>?_,λnm g b sh n nm' p e q t M=>?_,λnm S J A=>?_,by rw [z];exact zR f.ro j,by rw [k,z];exact f.qp,λg S i A=>?_⟩,j,z,k,λnm N=>?_,λnm g x K N=>?_,λnm N r=>?_⟩
 .by_cases c:nm=a
  .grind
  .have:=f.lt _ _ _ _ _ (d _ _ _ i c);exact ⟨zL this.1 m,zL this.2 j⟩
 .by_cases c:nm=a
  .by_cases l:nm'=a
   .subst c;subst l;refine ⟨rfl,?_⟩;rcases (h g b sh n t).2 with y | ⟨W,X,y⟩
    .grind
    .rcases (h p b e q M).2 with Y | ⟨g4,n4,Y⟩
     .grind
     .exact (f.inj _ _ _ _ _ _ _ _ _ y Y).2
   .exfalso;subst c;have u:=d _ _ _ M l;rcases (h g b sh n t).2 with y | ⟨W,X,y⟩
    .have:=(f.lt _ _ _ _ _ u).1;omega
    .exact l (f.inj _ _ _ _ _ _ _ _ _ u y).1
  .by_cases l:nm'=a
   .exfalso;subst l;have u:=d _ _ _ t c;rcases (h p b e q M).2 with y | ⟨W,X,y⟩
    .have:=(f.lt _ _ _ _ _ u).1;omega
    .exact c (f.inj _ _ _ _ _ _ _ _ _ u y).1
   .exact f.inj _ _ _ _ _ _ _ _ _ (d _ _ _ t c) (d _ _ _ M l)
 .rw [L] at A;by_cases c:nm=a
  .simp_all
  .rw [zF c] at A;refine (f.obj nm S (P nm J c) A).ext v (λg x K=>d _ _ _ K c) (λg b sh n i=>?_);exact hw b (f.lt _ _ _ _ _ i).1 (λp e q I=>c (f.inj _ _ _ _ _ _ _ _ _ i I).1)
 .rw [k] at i;have:=f.qp;rw [L,zF (by omega)] at A;obtain ⟨n,N⟩:=f.globs g S i A;exact ⟨n,B _ _ _ N⟩
 .rw [L,zF (by omega)]
 .exact d _ _ _ K (by omega)
 .have c:nm≠a:=by
   intro c;subst c;rcases Q with t | t
   .omega
   .exact t r
  refine ⟨by rw [L,zF c];exact r,λg b sh n i=>?_,λg x K=>d _ _ _ K c⟩;exact hw b (f.lt _ _ _ _ _ i).1 (λp e q I=>c (f.inj _ _ _ _ _ _ _ _ _ i I).1)
def qgp (G:qj) (nm g:Nat) (x:Nat×Nat×Nat):qj:=λnm' a=>if nm'=nm/\a=g then some x else G nm' a
theorem qde (G:qj) (nm g:Nat) (x):qgp G nm g x nm g=some x:=by simp [qgp]
def push (w:World) (o:Obj):World:={w with heap:=w.heap.push o}
theorem qb4 (w:World) (o:Obj):(push w o).heap[w.heap.size]? = some o:=Array.getElem?_push_size
theorem size_push (w:World) (o:Obj):(push w o).heap.size=w.heap.size+1:=Array.size_push _
theorem qy2 {w:World} {o:Obj} {b:Nat} {x} (h:w.shape? b=some x):(push w o).shape? b=some x:=by
 unfold World.shape? at *;simp only [push];by_cases a:b<w.heap.size
 .grind
 .simp_all
theorem qlx {w:World} {o:Obj} {b:Nat} (a:b<w.heap.size):(push w o).heap[b]? = w.heap[b]?:=by
 simp only [push];rw [Array.getElem?_push_lt a,<-Array.getElem?_eq_getElem a]
theorem Heap.zh6 (H:Heap) (o:O) (nm:Nat):(H.new o).get nm=if nm=H.next then some o else H.get nm:=by
 simp only [Heap.get,Heap.new,Tree.zn]
theorem Sim.fresh {H:Heap} {G:qj} {w:World} (a:Sim H G w) (g:Nat):G H.next g=none:=by
 cases h:G H.next g with
 | none=>rfl
 | some x=>have:=(a.lt _ _ _ _ _ h).2;omega
theorem Sim.new {H:Heap} {G:qj} {w:World} (a:Sim H G w) (o:O) (j:Obj) (n:Nat)
  (d:Ext H.ro G w (qgp G H.next 0 (w.heap.size,0,n)) (push w j)->qdl (qgp G H.next 0 (w.heap.size,0,n)) (push w j) H.next o) :
  Step H G w (H.new o) (qgp G H.next 0 (w.heap.size,0,n)) (push w j):=by
 refine a.turn H.next o (Heap.zh6 H o) (by simp [Heap.new]) (λnm e i=>by simp only [Heap.new] at e;omega) rfl rfl a.ro (by simp [Heap.new]) (.inl (zN _)) (λnm g x c=>?_) (λnm g x c r=>?_) (by simp [size_push])
  (λg b sh m f=>?_) (λg b sh m k l s e i _=>?_) (λb p _=>qlx p) (λb x h=>qy2 h) d
 .simp only [qgp];by_cases h:nm=H.next/\g=0
  .rw [h.1,a.fresh] at c;simp at c
  .simp_all
 .simp only [qgp] at c;rw [zF (by omega)] at c;exact c
 .simp only [qgp] at f;by_cases h:g=0
  .rw [zT ⟨trivial,h⟩] at f;cases f;exact ⟨by simp [size_push],.inl (zN _)⟩
  .rw [zF (λx=>h x.2),a.fresh] at f;simp at f
 .simp only [qgp] at e i;by_cases h:g=0
  .by_cases q:k=0
   .simp_all
   .rw [zF (λx=>q x.2),a.fresh] at i;simp at i
  .rw [zF (λx=>h x.2),a.fresh] at e;simp at e
def qmw (w:World) (b:Nat) (a:Obj):World:={w with heap:=w.heap.setIfInBounds b a}
theorem qi5 {w:World} {b:Nat} {c a:Obj} (h:w.heap[b]? = some c):(qmw w b a).heap[b]? = some a:=by
 have d:b<w.heap.size:=by rw [Array.getElem?_eq_some_iff] at h;exact h.1
 exact Array.getElem?_setIfInBounds_self_of_lt d
theorem qsb {w:World} {b a:Nat} {c:Obj} (h:a≠b):(qmw w b c).heap[a]? = w.heap[a]?:=by
 exact Array.getElem?_setIfInBounds_ne (Ne.symm h)
theorem Sim.setObj {H:Heap} {G:qj} {w:World} (g:Sim H G w) {nm b sh n:Nat} {o:O} (i:O) (s:H.get nm=some o) (q:G nm 0=some (b,sh,n)) (j:H.ro<=nm) {t:Obj} (a:Obj) (A:w.heap[b]? = some t)
  (u:w.shape? b=none) (c:Ext H.ro G w G (qmw w b a)->qdl G (qmw w b a) nm i) :
  Step H G w {H with qbu:=H.qbu.set nm i} G (qmw w b a):=by
 have d:(qmw w b a).heap.size=w.heap.size:=by simp [qmw]
 refine g.turn nm i (λm=>by simp only [Heap.get,Tree.zn]) (zN _) (λ_ h _=>h) rfl rfl j (g.lt _ _ _ _ _ q).2 (.inr (by rw [s];simp)) (λ_ _ _ h=>h) (λ_ _ _ h _=>h) (by rw [d];exact zN _)
  (λB k v C f=>⟨by rw [d];exact (g.lt _ _ _ _ _ f).1,.inr ⟨_,_,f⟩⟩) (λ_ _ _ _ _ _ _ y z _=>(g.inj _ _ _ _ _ _ _ _ _ y z).2) (λk _ l=>qsb (λe=>l 0 sh n (e ▸ q))) (λk x r=>?_) c
 by_cases p:k=b
 .simp_all
 .simp only [World.shape?,qsb p] at r ⊢;exact r
end Go.E2
/- E2's reads and writes of cells against the model's. -/
namespace Go.E2
open Go
theorem qgl {α:Type} (l:List α) (n o s:Nat) (h:o+s<=n):((l.take n).drop o).take s=(l.drop o).take s:=by
 rw [List.drop_take,List.take_take,Nat.min_eq_left (by omega)]
theorem qev (b o j:Nat):(⟨b,o,none⟩:Addr).add j=⟨b,o+j,none⟩:=by unfold Addr.add;split<;>simp_all
theorem Rel.jg {G:qj} {w:World} {v:V} {x:Value} (h:Rel G w v x):x.oneCell'=v.jg:=by
 cases v<;>simp only [Rel] at h<;>first
  | (subst h;rfl)
  | (obtain ⟨a,rfl,d⟩:=h;rfl)
  | (obtain ⟨b,sh,n,g,d,j,rfl⟩:=h;rfl)
  | (obtain ⟨b,sh,n,ro,c,e,m,ad,g,rfl,d⟩:=h;rfl)
  | (obtain ⟨b,o,c,f,e,i,rfl,d⟩:=h;rfl)
  | (obtain ⟨b,o,f,e,i,rfl,d⟩:=h;rfl)
  | (obtain ⟨a,b,c,rfl,d⟩:=h;rfl)
  | (obtain ⟨b,sh,n,g,rfl⟩:=h;rfl)
theorem qn.jg {G:qj} {w:World}:∀ {vs:List V} {l:List Value},qn G w vs l->vs.all V.jg=true->∀ x ∈ l,x.oneCell'=true
 | [],_,h,_,x,a=>by simp [qn] at h;simp [h] at a
 | v::vs,_,h,b,x,a=>by
  simp only [qn] at h;obtain ⟨y,e,rfl,c,d⟩:=h;simp only [List.all_cons,zA] at b;rcases zD.1 a with rfl | a
  .rw [c.jg];exact b.1
  .exact qn.jg d b.2 x a
def qkw (w:World) (a:Addr) (l:List Value):Prop:=∀ j v,l[j]? = some v->w.cell? (a.add j)=some v
theorem qkw.of_heap {w w':World} {a:Addr} {l:List Value} (h:qkw w a l) (e:w'.heap=w.heap):qkw w' a l:=by
 intro j v b;have:=h j v b;simpa only [World.cell?,e] using this
theorem qkw.run {w:World} {a:Addr} {l:List Value} (h:qkw w a l) (P:Program):(loadCells a l.length).run P w=.ok l.toArray w:=
 run_loadCells_list w a l h
theorem q5q {w:World} {b:Nat} {arr:Array Value} {e:TypeId} {c:Nat×Nat} (h:w.heap[b]? = some (.cells arr e c)) (o s:Nat):qkw w ⟨b,o,none⟩ ((arr.toList.drop o).take s):=by
 intro j v a;rw [qev];simp only [World.cell?,h,Option.isSome_none,Bool.false_eq_true,if_false];rw [List.getElem?_take] at a;split at a
 .simp_all
 .cases a
theorem qep (P:Program) (g o:Nat) (t:TypeId) (b:Nat×Nat):∀ (vs:List Value) (i:Nat) (a:Array Value) (w:World),w.heap[g]? = some (.cells a t b)->
  (∀ j,o+i<=j->b.1<=j->j<b.2->False)->o+i+vs.length<=a.size->(∀ v ∈ vs,v.oneCell'=true)->
  (storeCells ⟨g,o,none⟩ vs i).run P w=.ok () (w.setRow g (a.toList.take (o+i)++vs++a.toList.drop (o+i+vs.length)).toArray)
 | [],i,a,w,d,_,_,_=>by
  simp only [storeCells,zJ,List.length_nil,Nat.add_zero,List.take_append_drop,Array.toArray_toList];rw [setRow_self w g a t b d];rfl
 | v::rest,i,a,w,d,f,l,k=>by
  have hi:o+i<a.size:=by simp at l;omega
  have c:w.cell? ⟨g,o+i,none⟩=some a[o+i]:=by simp [World.cell?,d,hi]
  have h:w.frozen? ⟨g,o+i,none⟩=false:=by
   obtain ⟨lo,n⟩:=b;simp only [World.frozen?,d,Bool.and_eq_false_iff,decide_eq_false_iff_not];have:=f (o+i) (zN _);by_cases k:lo<=o+i
   .simp_all
   .exact .inl k
  have m:(store ((⟨g,o,none⟩:Addr).add i) v).run P w=.ok () (w.setRow g (a.setIfInBounds (o+i) v)):=by
   rw [qev,run_store P w _ v _ (k v (by simp)),c];simp [h,setCell_eq_setRow w g (o+i) a t b v d]
  have p:=qep P g o t b rest (i+1) (a.setIfInBounds (o+i) v) (w.setRow g (a.setIfInBounds (o+i) v)) (setRow_heap w g a _ t _ d) (λj r=>f j (by omega)) (by simp at l ⊢;omega) (λx q=>k x (by simp [q]));simp only [storeCells,Sem.run_bind,m,Result.andThen_ok,p,setRow_setRow];congr 3;have e:=list_seg_step a.toList (o+i) v rest (by simp at l ⊢;omega);simpa [Array.toList_setIfInBounds,Nat.add_assoc] using e
theorem qzy {H:Heap} {G:qj} {w:World} (e:Sim H G w) {nm g off lim size:Nat} {f:Value} (i:Rel G w (.ptr nm g off lim) f) {cells:List V} {elem:TypeId} {gen floor c:Nat} {exact:Bool} (j:H.get nm=some (.row cells elem gen floor c exact))
  (k:floor<=g) (t:off+size<=lim) (u:lim<=cells.length):∃ a l,f=.pointer (some a)/\qkw w a l/\jd G w ((cells.drop off).take size) l/\((cells.drop off).take size).length=size:=by
 obtain ⟨b,sh,n,h,v,x,rfl⟩:=i;have d:=e.obj nm _ (e.lt _ _ _ _ _ h).2 j;obtain ⟨y,z,m⟩:=d;obtain ⟨A,B,C,D,o,p⟩:=m g b sh n h;obtain ⟨q,E,r,F,s,I⟩:=p k;refine ⟨_,_,rfl,q5q r (off-sh) size,?_,by simp;omega⟩;have:=(s.drop (off-sh)).take size;rw [List.drop_drop,show sh+(off-sh)=off by omega,qgl _ _ _ _ (by omega),qgl _ _ _ _ (by omega)] at this;exact this
theorem qht {H:Heap} {G:qj} {w:World} (f:Sim H G w) {p:V} {i:Value} (m:Rel G w p i) {size:Nat} {cs:List V} (h:zq H size p=some cs) :
  ∃ a l,i=.pointer (some a)/\qkw w a l/\qn G w cs l/\cs.length=size:=by
 cases p with
 | ptr nm g off lim=>
  obtain ⟨b,sh,n,j,A,B,rfl⟩:=m;simp only [zq] at h;split at h
  .rename_i cells k o c q exact r;have d:=f.obj nm _ (f.lt _ _ _ _ _ j).2 r;obtain ⟨C,D,s⟩:=d;obtain ⟨E,F,I,J,t,u⟩:=s g b sh n j;simp only [cond_eq_ite,zA,Nat.ble_eq] at h;split at h
   .rename_i v;obtain ⟨rfl,e⟩:=qss h;obtain ⟨x,K,y,L,z,M⟩:=u v.1.1;refine ⟨_,_,rfl,q5q y (off-sh) size,?_,by simp;omega⟩;have:=(z.drop (off-sh)).take size;rw [List.drop_drop,show sh+(off-sh)=off by omega,qgl _ _ _ _ (by omega),qgl _ _ _ _ (by omega)] at this;exact this.l e
   .cases h
  .cases h
 | _=>simp [zq] at h
theorem qgn {H H':Heap} {n:Nat} {o:O} (h:H.upd n o=some H'):H.ro<=n/\H' = {H with qbu:=H.qbu.set n o}:=by
 simp only [Heap.upd,cond_eq_ite,Nat.blt_eq] at h;split at h
 .cases h
 .simp_all
theorem qwf {H:Heap} {n:Nat} {o:O} (nm:Nat):({H with qbu:=H.qbu.set n o}:Heap).get nm=if nm=n then some o else H.get nm:=by
 simp only [Heap.get,Tree.zn]
theorem qd5 {w:World} {g b:Nat} {c:Array Value} (h:b≠g):(w.setRow g c).heap[b]? = w.heap[b]?:=by
 unfold World.setRow;simp only [Array.getElem?_modify];rw [zF (λe=>h e.symm)]
theorem qdb {cs vs:List V} {off:Nat} (h:off+vs.length<=cs.length):(setCells cs off vs).length=cs.length:=by
 simp [setCells];omega
theorem qzz (cs vs:List V) (off sh:Nat) (a:sh<=off) (b:off+vs.length<=cs.length) :
  (setCells cs off vs).drop sh=(cs.drop sh).take (off-sh)++vs++(cs.drop sh).drop (off-sh+vs.length):=by
 unfold setCells;rw [List.append_assoc,List.drop_append_of_le_length (by simp;omega),List.drop_drop,show sh+(off-sh+vs.length)=off+vs.length by omega,List.append_assoc,List.drop_take]
theorem qzs {α:Type} (l x:List α) (o n:Nat) (a:o+x.length<=n) (b:n<=l.length) :
  (l.take o++x++l.drop (o+x.length)).take n=(l.take n).take o++x++(l.take n).drop (o+x.length):=by
 rw [List.take_append,List.take_append,List.take_take,List.take_take];simp only [List.length_append,List.length_take];rw [Nat.min_eq_left (by omega:o<=l.length),Nat.min_comm n o,List.take_of_length_le (l:=x) (by omega),List.drop_take]
theorem Sim.store {H:Heap} {G:qj} {w:World} (p:Sim H G w) {nm g b sh n off:Nat} {cells:List V} {elem:TypeId} {floor j:Nat} {exact:Bool}
  (M:H.get nm=some (.row cells elem g floor j exact)) (r:G nm g=some (b,sh,n)) {vs:List V} {l:List Value} (N:qn G w vs l)
  (A:sh<=off) (k:off+vs.length<=cells.length) (B:H.ro<=nm)
  {arr:Array Value} {C:Nat×Nat} (D:w.heap[b]? = some (.cells arr elem C)) (arr':Array Value)
  (o:arr'.toList=arr.toList.take (off-sh)++l++arr.toList.drop (off-sh+l.length)) (d:arr'.size=arr.size) :
  Step H G w {H with qbu:=H.qbu.set nm (.row (setCells cells off vs) elem g g j exact)} G (w.setRow b arr'):=by
 obtain ⟨T,U,O⟩:=p.obj nm _ (p.lt _ _ _ _ _ r).2 M;obtain ⟨r1,r2,r3,r4,W,X⟩:=O g b sh n r;obtain ⟨P,Y,s,Q,E,Z,a5⟩:=X T;rw [D] at s;cases s;have t:=N.length;have u:(w.setRow b arr').heap.size=w.heap.size:=by unfold World.setRow;simp
 have i:=setRow_heap w b arr arr' elem C D;refine p.turn nm (.row (setCells cells off vs) elem g g j exact) (λm=>qwf m) (zN _) (λ_ h _=>h) rfl rfl B (p.lt _ _ _ _ _ r).2 (.inr (by rw [M];simp)) (λ_ _ _ h=>h) (λ_ _ _ h _=>h) (by rw [u];exact zN _)
  (λF v y R a=>⟨by rw [u];exact (p.lt _ _ _ _ _ a).1,.inr ⟨_,_,a⟩⟩) (λ_ _ _ _ _ _ _ A k _=>(p.inj _ _ _ _ _ _ _ _ _ A k).2) (λv a0 I=>qd5 (λe=>I g sh n (e ▸ r))) ?_ ?_
 .intro v x q;by_cases z:v=b
  .subst z;simp only [World.shape?,D,i,d] at q ⊢;exact q
  .simp only [World.shape?,qd5 z] at q ⊢;exact q
 .intro f;refine ⟨zN _,U,λF v y R a=>?_⟩;obtain ⟨S,s2,s3,s4,J,s5⟩:=O F v y R a;refine ⟨S,s2,by rw [qdb k];exact s3,λe=>by rw [qdb k];exact s4 e,J,λK=>?_⟩;have L:F=g:=Nat.le_antisymm S K;subst L;rw [r] at a;cases a;refine ⟨arr',C,i,by rw [d];exact Q,?_,Z,λq=>by rw [d,qdb k];exact a5 q⟩;rw [List.take_of_length_le (by rw [qdb k];omega),qzz _ _ _ _ A k,o,qzs _ _ _ _ (by omega) (by simpa using Q),t];rw [List.take_of_length_le (by omega)] at E;exact jd.append (jd.append (jd.ext f (E.take _)) (qn.ext f N).c) (jd.ext f (E.drop _))
theorem qek {H H':Heap} {G:qj} {w:World} (d:Sim H G w) {p:V} {o:Value} (t:Rel G w p o) {vs:List V} {l:List Value} (e:qn G w vs l)
  (h:jk H vs p=some H') (P:Program) :
  ∃ a w',o=.pointer (some a)/\(storeCells a l).run P w=.ok () w'/\Step H G w H' G w':=by
 cases p with
 | ptr nm g off lim=>
  obtain ⟨b,sh,n,f,u,K,rfl⟩:=t;simp only [jk] at h;split at h
  .rename_i cells c v i x exact q;obtain ⟨y,L,z⟩:=d.obj nm _ (d.lt _ _ _ _ _ f).2 q;obtain ⟨M,N,O,Q,A,B⟩:=z g b sh n f;simp only [cond_eq_ite,zA,Nat.ble_eq,Nat.beq_eq] at h;split at h
   .rename_i C;obtain ⟨⟨⟨⟨D,R⟩,c3⟩,c4⟩,c5⟩:=C;subst D;obtain ⟨k,E,r,S,T,F,U⟩:=B y;obtain ⟨I,rfl⟩:=qgn h;have s:=e.length;have m:=qep P b (off-sh) c E l 0 k w r (λj W _ J=>F rfl j (by omega) J) (by omega) (qn.jg e c5);exact ⟨_,_,rfl,m,d.store q f e u (by omega) I r _ rfl (by simp;omega)⟩
   .cases h
  .cases h
 | _=>simp [jk] at h
end Go.E2
/- E2: new rows, loads, stores, appends against the model's. -/
namespace Go.E2
open Go
mutual
theorem qiq (G:qj) (w:World):∀ (n:Nat) (v:Value) (x:V),qrk n v=some x->Rel G w x v
 | 0,_,_,h=>by simp [qrk] at h
 | n+1,v,x,h=>by
  unfold qrk at h;split at h<;>try (cases h;done)
  all_goals try (cases h;simp [Rel];done)
  .simp only [zI,zM] at h;obtain ⟨a,b,c,d,rfl⟩:=h;simp only [Rel,qkx];exact ⟨_,_,_,rfl,rfl,qip G w n _ _ b,qip G w n _ _ d⟩
  .simp only [zM] at h;obtain ⟨y,b,rfl⟩:=h;simp only [Rel];exact ⟨_,rfl,qiq G w n _ _ b⟩
  .simp only [zM] at h;obtain ⟨y,b,rfl⟩:=h;simp only [Rel];exact ⟨_,rfl,qip G w n _ _ b⟩
  .simp only [zM] at h;obtain ⟨y,b,rfl⟩:=h;simp only [Rel];exact ⟨_,rfl,qip G w n _ _ b⟩
theorem qip (G:qj) (w:World):∀ (n:Nat) (l:List Value) (x:List V),q4k n l=some x->qn G w x l
 | 0,_,_,h=>by simp [q4k] at h
 | n+1,l,x,h=>by
  unfold q4k at h;split at h
  .cases h;exact qn.nil
  .simp only [zI,zM] at h;obtain ⟨a,b,c,d,rfl⟩:=h;exact qn.cons (qiq G w n _ _ b) (qip G w n _ _ d)
end
theorem qc3 {G:qj} {w:World} {v:V} {x:Value} (h:Rel G w v x):qn G w v.cells x.cells.toList:=by
 cases v with
 | agg cs=>
  simp only [Rel] at h;obtain ⟨a,rfl,b⟩:=h;simpa [V.cells,Value.cells] using b
 | _=>
  have c:x.cells = #[x]:=by
   have:=h.jg;cases x with
   | agg a=>
    exfalso
    first
     | (simp only [V.jg,Value.oneCell',reduceCtorEq] at this;done)
     | (simp only [Rel] at h;obtain ⟨a,d,b⟩:=h;cases d;done)
   | _=>rfl
  rw [c];simp only [V.cells];exact qn.cons h qn.nil
theorem qm {P:Program} {t:Nat} {ti:TI} (h:typeOf P t=some ti) :
  P.underlying t=some ti.under/\ti.isAgg=zeq ti.under/\∃ i z,P.info? t=some i/\i.size=ti.size/\i.bytes=ti.bytes/\i.zero=some z/\qrk 1000 z=some ti.zero/\
   ti.zero.cells.length=ti.size/\z.cells.size=ti.size:=by
 unfold typeOf at h;split at h
 .rename_i i u hi d;simp only [zI,cond_eq_ite,Nat.beq_eq] at h;obtain ⟨z,⟨e,f,b⟩,a⟩:=h;split at a
  .rename_i c;cases a;refine ⟨d,rfl,i,e,hi,rfl,rfl,f,b,c,?_⟩;have:=(qc3 (qiq (λ_ _=>none) default _ _ _ b)).length;simpa [c] using this.symm
  .cases a
 .cases h
section
variable {P:Program}
theorem z7 {t:Nat} {ti:TI} (h:typeOf P t=some ti) (w:World):(sizeOf t).run P w=.ok ti.size w:=by
 obtain ⟨_,_,i,z,hi,a,_⟩:=qm h;simp [sizeOf,typeInfo,hi,a]
theorem qbc {t:Nat} {ti:TI} (h:typeOf P t=some ti) (w:World):∃ z,(zeroValue t).run P w=.ok z w/\(P.info? t).bind (·.zero)=some z/\∀ G w,Rel G w ti.zero z:=by
 obtain ⟨_,_,i,z,hi,_,_,a,b,_⟩:=qm h;exact ⟨z,by simp [zeroValue,typeInfo,hi,a],by simp [hi,a],λG w=>qiq G w _ _ _ b⟩
theorem qrb {t:Nat} {ti:TI} (h:typeOf P t=some ti) (w:World):(isAgg t).run P w=.ok ti.isAgg w:=by
 obtain ⟨a,b,_⟩:=qm h;simp only [isAgg,Sem.run_bind,run_underlying a,Result.andThen_ok,b];cases ti.under<;>rfl
theorem Step.same {H:Heap} {G:qj} {w w':World} (h:Sim H G w) (e:w'.heap=w.heap) (c:w'.os=w.os/\w'.output=w.output):Step H G w H G w':=by
 have a:Ext H.ro G w G w':=⟨λ_ _ _ h=>h,λb _ d=>⟨by rw [e],d⟩,by rw [e];exact zN _,λb x f=>by simpa only [World.shape?,e] using f,λ_ _ _ _ _ _ _=>by rw [e],c⟩;refine ⟨a,⟨λnm g b sh n i=>by rw [e];exact h.lt nm g b sh n i,h.inj,λnm o j k=>(h.obj nm o j k).ext a (λ_ _ h=>h) (λ_ _ _ _ _=>by rw [e]),h.ro,h.qp,h.globs⟩,zN _,rfl,rfl,λ_ _=>rfl,λ_ _ _ h _=>h,λ_ _ h=>⟨h,λ_ _ _ _ _=>by rw [e],λ_ _ h=>h⟩⟩
theorem Rel.same {G:qj} {w w':World} (e:w'.heap=w.heap) {v:V} {x:Value} (h:Rel G w v x):Rel G w' v x:=
 Rel.up ⟨λ_ _ _ h=>h,λb x a=>by simpa only [World.shape?,e] using a⟩ h
theorem qn.same {G:qj} {w w':World} (e:w'.heap=w.heap) {v:List V} {x:List Value} (h:qn G w v x):qn G w' v x:=
 qn.up ⟨λ_ _ _ h=>h,λb x a=>by simpa only [World.shape?,e] using a⟩ h
theorem jd.same {G:qj} {w w':World} (e:w'.heap=w.heap) {v:List V} {x:List Value} (h:jd G w v x):jd G w' v x:=
 jd.up ⟨λ_ _ _ h=>h,λb x a=>by simpa only [World.shape?,e] using a⟩ h
theorem Sim.newRow {H:Heap} {G:qj} {w:World} (f:Sim H G w) {cells:List V} {l:List Value} (j:qn G w cells l) (rest:List Value) (elem:TypeId) (exact:Bool) (m:exact=true->rest=[]) :
  Step H G w (H.new (.row cells elem 0 0 0 exact)) (qgp G H.next 0 (w.heap.size,0,cells.length)) (push w (.cells (l++rest).toArray elem)):=by
 refine f.new _ _ _ (λa=>?_);refine ⟨zN _,λ_=>rfl,λg b sh n d=>?_⟩;simp only [qgp] at d;by_cases h:g=0
 .rw [zT ⟨trivial,h⟩] at d;cases d;subst h;have k:=j.length;refine ⟨zN _,Nat.zero_le _,zN _,λ_=>rfl,λ_=>rfl,λ_=>⟨(l++rest).toArray,(0,0),qb4 _ _,by simp;omega,?_,λ_ i _ o=>by simp at o,λe=>by simp [m e,k]⟩⟩;have:(l++rest).toArray.toList.take (cells.length-0)=l:=by simp [k]
  rw [this];simpa using (qn.ext a j).c
 .rw [zF (λx=>h x.2),f.fresh] at d;simp at d
theorem qys {G:qj} {nm b n:Nat} {w':World}:Rel (qgp G nm 0 (b,0,n)) w' (.ptr nm 0 0 n) (.pointer (some ⟨b,0,none⟩)):=by
 simp only [Rel];exact ⟨b,0,n,qde _ _ _ _,zN _,zN _,rfl⟩
theorem qpf {w:World} {arr:Array Value} {e:TypeId}:(push w (.cells arr e)).shape? w.heap.size=some (e,arr.size):=by
 simp only [World.shape?,qb4]
theorem qjb {H:Heap} {G:qj} {w:World} (n:Sim H G w) {t:Nat} {ti:TI} (j:typeOf P t=some ti) {p v:V} {k:Value} (o:Rel G w p k) (h:jr H ti p=some v) :
  ∃ x a,k=.pointer (some a)/\(loadVar t a).run P w=.ok x w/\Rel G w v x:=by
 simp only [jr,zI] at h;obtain ⟨cs,q,e⟩:=h;obtain ⟨a,l,rfl,f,d,r⟩:=qht n o q;have g:=d.length;simp only [loadVar,Sem.run_bind,qrb j,Result.andThen_ok];cases b:ti.isAgg with
 | true=>
  simp only [b,zO,zS] at e;subst e;have c:=f.run P;rw [<-g,r] at c;refine ⟨.agg l.toArray,a,rfl,by simp [z7 j,c],?_⟩;simp only [Rel];exact ⟨_,rfl,by simpa using d⟩
 | false=>
  simp only [b,zQ] at e;split at e
  .rename_i u;cases e;have i:=d.length
   match l,d,f,i with
   | [x],d,f,_=>
    rw [qn.q45] at d;have m:=f 0 x rfl;simp only [Addr.add_zero'] at m;refine ⟨x,a,rfl,?_,d.1⟩;simp only [Bool.false_eq_true,if_false];rw [run_load,m]
  .cases e
theorem q63 {H H':Heap} {G:qj} {w:World} (g:Sim H G w) {t:Nat} {ti:TI} (i:typeOf P t=some ti) {p v:V} {e x:Value} (j:Rel G w p e) (k:Rel G w v x) (h:qfm H ti p v=some H') :
  ∃ a w',e=.pointer (some a)/\(storeVar t a x).run P w=.ok () w'/\Step H G w H' G w':=by
 simp only [qfm,cond_eq_ite,Nat.beq_eq] at h;split at h
 .rename_i l;have b:=qc3 k;obtain ⟨a,w',rfl,d,c⟩:=qek g j b h P;have f:=b.length;simp only [Array.length_toList] at f;refine ⟨a,w',rfl,?_,c⟩;simp [storeVar,z7 i,<-f,l,d]
 .cases h
end
end Go.E2
/- E2: append against the model's. -/
namespace Go.E2
open Go
section
variable {P:Program}
theorem q2m {H:Heap} {G:qj} {w:World} (q:Sim H G w) {sz n:Nat} {x:V} {rx:Value} {cs:List V} (j:Rel G w x rx) (h:qcj H sz x=some (n,cs)) :
  ∃ l,qn G w cs l/\cs.length=n * sz/\∀ w',w'.heap=w.heap->(Builtin.lenOf rx).run P w'=.ok n w'/\(Builtin.firstCells sz n rx).run P w'=.ok l.toArray w':=by
 cases x with
 | nils=>
  obtain ⟨rfl,rfl⟩:=h;subst j;exact ⟨[],qn.nil,by simp,λw' _=>⟨by simp [Builtin.lenOf],by simp [Builtin.firstCells]⟩⟩
 | slice nm g off len u cap=>
  simp only [qcj,cond_eq_ite,Nat.beq_eq] at h;split at h
  .rename_i k;subst k;simp only [zM,zP] at h;obtain ⟨v,y,rfl,rfl⟩:=h;obtain ⟨b,sh,m,ro,c,e,J,ad,o,rfl,K,L,z,A,d,M,N,O⟩:=j;have B:Rel G w (.ptr nm g off (off+len * sz)) (.pointer (some ⟨b,off-sh,none⟩)):=by
    simp only [Rel];exact ⟨b,sh,m,o,z,A,rfl⟩
   obtain ⟨a,l,C,D,r,t⟩:=qht q B y;cases C;have p:=r.length;refine ⟨l,r,t,λw' i=>⟨by simp [Builtin.lenOf],?_⟩⟩;simp only [Builtin.firstCells];have d:(ro+sh=off/\ad=⟨b,ro,none⟩)∨c=0:=by
    rcases d with d | d
    .grind
    .exact .inr d
   rcases d with ⟨d,rfl⟩ | d
   .have:ro=off-sh:=by omega
    subst this;have f:=(D.of_heap i).run P;rw [<-p,t] at f;exact f
   .have E:len=0:=by omega
    subst E;have:l=[]:=List.length_eq_zero_iff.1 (by omega);subst this;simp [loadCells,loadCellsFrom]
  .cases h
 | str s=>
  simp only [qcj,cond_eq_ite,Nat.beq_eq] at h;split at h
  .rename_i F;subst F;obtain ⟨rfl,rfl⟩:=h;subst j;refine ⟨s.map λb=>.int .u8 b.toNat,?_,by simp,λw' i=>⟨by simp [Builtin.lenOf,ByteArray.size],?_⟩⟩
   .clear q
    induction s with
    | nil=>exact qn.nil
    | cons a s I=>exact qn.cons (by simp [Rel]) I
   .have o:(ByteArray.extract ⟨s.toArray⟩ 0 s.length)=(⟨s.toArray⟩:ByteArray):=by
     have:=ByteArray.extract_zero_size (b:=⟨s.toArray⟩);simpa [ByteArray.size] using this
    simp [Builtin.firstCells,o]
  .cases h
 | _=>simp [qcj] at h
theorem qjp {H:Heap} {G:qj} {w:World} (a:Sim H G w) {sz n:Nat} {x:V} {rx:Value} {cs:List V} (b:Rel G w x rx) (h:km H sz x=some (n,cs)) :
  ∃ l,qn G w cs l/\cs.length=n * sz/\∀ w',w'.heap=w.heap->(Builtin.lenOf rx).run P w'=.ok n w'/\(Builtin.firstCells sz n rx).run P w'=.ok l.toArray w':=
 q2m a (b.qb2 sz) h
theorem qqx {H:Heap} {sz nm g off len z n:Nat} {cap:Option Nat} {cs:List V} (h:km H sz (.slice nm g off len z cap)=some (n,cs)):n=len:=by
 unfold km at h;rcases V.qd7 (nm:=nm) (g:=g) (off:=off) (len:=len) (z:=z) (sz:=sz) (cap:=cap) with e | ⟨_,e⟩
 all_goals
  rw [e] at h;simp only [qcj,cond_eq_ite,Nat.beq_eq] at h;split at h
  .simp_all
  .cases h
theorem run_append_fits {w w':World} {t u ty e:TypeId} {c:TypeDesc} {i:TypeInfo} (h:P.underlying t=some (.slice e)) (hu:P.underlying u=some c) (d:(∃ j,c=.slice j)∨c=.string)
  (hi:P.info? e=some i) {base:Option Addr} {sLen sCap n:Nat} {x:Value} {l:List Value} (hlen:(Builtin.lenOf x).run P w=.ok n w) (k:(Builtin.firstCells i.size n x).run P w=.ok l.toArray w)
  (b:sLen+n<=sCap) (f:∀ a,base=some a->(storeCells (a.add (sLen * i.size)) l).run P w=.ok () w') (g:base=none->w'=w) :
  (Builtin.append_ #[t,u] ty #[.slice base sLen sCap,x]).run P w=.ok (.slice base (sLen+n) sCap) w':=by
 rcases d with ⟨j,rfl⟩ | rfl
 all_goals
  cases base with
  | none=>
   have:=g rfl;subst this;simp [Builtin.append_,run_underlying h,run_underlying hu,sizeOf,typeInfo,hi,hlen,k,b]
  | some a=>
   simp [Builtin.append_,run_underlying h,run_underlying hu,sizeOf,typeInfo,hi,hlen,k,b,f a rfl]
theorem qg5 {w:World} {t u ty e:TypeId} {c:TypeDesc} {i:TypeInfo} {z:Value} (h:P.underlying t=some (.slice e)) (hu:P.underlying u=some c) (d:(∃ g,c=.slice g)∨c=.string)
  (hi:P.info? e=some i) (f:i.zero=some z) {base:Option Addr} {sLen sCap n:Nat} {x:Value} {l old:List Value}
  (hlen:∀ w',w'.heap=w.heap->(Builtin.lenOf x).run P w'=.ok n w'/\(Builtin.firstCells i.size n x).run P w'=.ok l.toArray w')
  (hold:∀ w',w'.heap=w.heap->(Builtin.firstCells i.size sLen (.slice base sLen sCap)).run P w'=.ok old.toArray w')
  (j:sCap<sLen+n) (k:(sLen+n) * i.bytes<=room) (hm:sLen+n<=room) :
  ∃ (w1:World) (C:Nat) (rest:List Value),w1.heap=w.heap/\(w1.os=w.os/\w1.output=w.output)/\sLen+n<=C/\rest.length=(C-(sLen+n)) * z.cells.size/\
  (Builtin.append_ #[t,u] ty #[.slice base sLen sCap,x]).run P w=.ok (.slice (some ⟨w.heap.size,0,none⟩) (sLen+n) C) (push w1 (.cells ((old++l)++rest).toArray e)):=by
 have m:¬ (sLen+n<=sCap):=by omega
 have a:¬ (9223372036854775807<((sLen:Int)+(n:Int))):=by unfold room at hm;omega
 have o:=growslice_fits (bytes:=i.bytes) j k;have b:¬ (281474976710656<Builtin.nextslicecap (sLen+n) sCap * i.bytes):=by omega
 have p:=hlen w rfl;have q:=(hlen w.drew rfl).2;have r:=hold w.drew rfl;refine ⟨w.drew,grownCap w (sLen+n) sCap e,(Builtin.zeroCells z.cells (grownCap w (sLen+n) sCap e-(sLen+n))).toList,rfl,⟨rfl,rfl⟩,grownCap_ge w _ _ _,by simp [Builtin.zeroCells],?_⟩;have s:∀ (A:Array Value),((old++l)++A.toList).toArray=old.toArray++l.toArray++A:=by intro A;apply Array.ext';simp
 rcases d with ⟨g,rfl⟩ | rfl
 all_goals
  simp [Builtin.append_,run_underlying h,run_underlying hu,sizeOf,typeInfo,zeroValue,hi,f,p.1,m,a,b,Question.forced,newRow,q,r,grownCap];congr 2;simp
theorem Step.qyq {H:Heap} {G:qj} {w w1:World} (a:Sim H G w) (e:w1.heap=w.heap) (b:w1.os=w.os/\w1.output=w.output) {H':Heap} {c:qj} {w':World} (h:∀ (_:Sim H G w1),Step H G w1 H' c w'):Step H G w H' c w':=
 (Step.same a e b).trans (h (Step.same a e b).sim)
theorem qzj {H H':Heap} {vs:List V} {nm g off lim:Nat} (h:jk H vs (.ptr nm g off lim)=some H') {cells:List V} {elem:TypeId} {gen floor a:Nat} {exact:Bool}
  (b:H.get nm=some (.row cells elem gen floor a exact)):g=gen/\off+vs.length<=lim/\lim<=cells.length:=by
 simp only [jk,b,cond_eq_ite,zA,Nat.ble_eq,Nat.beq_eq] at h;split at h
 .simp_all
 .cases h
theorem qng {z:Value} {size a C:Nat} {rest cells:List Value} (b:z.cells.size=size) (c:rest.length=(C-a) * z.cells.size) (d:cells.length=a * size) (e:a<=C) :
  0+C * size<=(cells++rest).toArray.size:=by
 simp only [List.size_toArray,List.length_append,c,d,b,Nat.zero_add];rw [<-Nat.add_mul];exact zU _ (by omega)
section grow
variable {H:Heap} {G:qj} {w:World} {nm g b sh m:Nat}
theorem q0v (b:Sim H G w) {cells:List V} {e:TypeId} {floor a:Nat} {exact:Bool} (d:H.get nm=some (.row cells e g floor a exact)):G nm (g+1)=none:=by
 cases c:G nm (g+1) with
 | none=>rfl
 | some x=>
  obtain ⟨h,i,f⟩:=b.obj nm _ (b.lt _ _ _ _ _ c).2 d;have:=(f _ _ _ _ c).1;omega
theorem q4l (h:G nm (g+1)=none) (x:Nat×Nat×Nat) (nm' a:Nat) (y) (b:G nm' a=some y):qgp G nm (g+1) x nm' a=some y:=by
 simp only [qgp];by_cases c:nm'=nm/\a=g+1
 .simp_all
 .simp_all
theorem qz8 (x:Nat×Nat×Nat) (nm' c:Nat) (y) (a:qgp G nm (g+1) x nm' c=some y) (b:nm'≠nm):G nm' c=some y:=by
 simp only [qgp] at a;rw [zF (λq=>b q.1)] at a;exact a
theorem qgt (x:Nat×Nat×Nat) (a:Nat) (y) (b:qgp G nm (g+1) x nm a=some y):(a=g+1/\y=x)∨G nm a=some y:=by
 simp only [qgp] at b;by_cases c:a=g+1
 .simp_all
 .simp_all
theorem Sim.zoj (n:Sim H G w) {cells items:List V} {e:TypeId} {floor u:Nat} {exact:Bool} (I:H.get nm=some (.row cells e g floor u exact)) (v:G nm g=some (b,sh,m))
  {l:List Value} (S:qn G w items l) {arr arr':Array Value} {C:Nat×Nat} (D:w.heap[b]? = some (.cells arr e C))
  (d:arr'.toList=arr.toList.take (m-sh)++l++arr.toList.drop (m-sh+l.length)) (o:arr'.size=arr.size) (T:m-sh+l.length<=arr.size) (J:H.ro<=nm) :
  Step H G w {H with qbu:=H.qbu.set nm (.row (cells++items) e (g+1) floor u false)} (qgp G nm (g+1) (b,sh,m+items.length)) (w.setRow b arr'):=by
 obtain ⟨q1,q0,U⟩:=n.obj nm _ (n.lt _ _ _ _ _ v).2 I;obtain ⟨r1,r2,r3,r4,a0,r5⟩:=U g b sh m v;obtain ⟨W,a6,y,a2,X,a4,a5⟩:=r5 q1;rw [D] at y;cases y;have hm:=r4 rfl;have a7:=S.length;have K:=n.lt _ _ _ _ _ v;have f:=setRow_heap w b arr arr' e C D;have p:(w.setRow b arr').heap.size=w.heap.size:=by unfold World.setRow;simp
 have z:=q0v n I;refine n.turn nm _ (λnm'=>qwf nm') (zN _) (λ_ h _=>h) rfl rfl J K.2 (.inr (by rw [I];simp)) (q4l z _) (qz8 _) (by rw [p];exact zN _) (λL s A t r=>?_) (λg1 E Y n1 g2 Z n2 h1 h2 a8=>?_)
  (λs a9 k=>qd5 (λq=>k g sh m (q ▸ v))) (λs x F=>?_) (λa=>?_)
 .rcases qgt _ _ _ r with ⟨rfl,i⟩ | i
  .grind
  .exact ⟨by rw [p];exact (n.lt _ _ _ _ _ i).1,.inr ⟨_,_,i⟩⟩
 .rcases qgt _ _ _ h1 with ⟨rfl,i⟩ | i
  .grind
  .have:=(n.lt _ _ _ _ _ i).1;omega
 .by_cases j:s=b
  .subst j;simp only [World.shape?,D,f,o] at F ⊢;exact F
  .simp only [World.shape?,qd5 j] at F ⊢;exact F
 .refine ⟨by omega,by simp,λL s A t r=>?_⟩;rcases qgt _ _ _ r with ⟨rfl,i⟩ | i
  .cases i;refine ⟨zN _,by omega,by simp;omega,λ_=>by simp;omega,by simp,λ_=>⟨arr',C,f,by omega,?_,λ_=>a4 rfl,by simp⟩⟩;rw [List.take_of_length_le (by simp;omega),d,List.drop_append_of_le_length (by omega)];have M:(arr.toList.take (m-sh)++l++arr.toList.drop (m-sh+l.length)).take (m+items.length-sh)=arr.toList.take (m-sh)++l:=by
    rw [List.take_append_of_le_length (by simp;omega),List.take_of_length_le (by simp;omega)]
   rw [M];rw [List.take_of_length_le (by omega)] at X;exact (jd.ext a X).append (qn.ext a S).c
  .obtain ⟨Y,Z,s3,s4,aa,s5⟩:=U L s A t i;refine ⟨by omega,Z,by simp;omega,λq=>by omega,by simp,λN=>?_⟩;obtain ⟨B,O,E,b2,b3,b4,b5⟩:=s5 N;rw [List.take_append_of_le_length s3];have P:t-sh<=m-sh:=Nat.sub_le_sub_right (by rw [hm];exact s3) sh;have k:L≠g+1:=Nat.ne_of_lt (Nat.lt_succ_of_le Y);have Q:t-sh<=(arr.toList.take (m-sh)).length:=by rw [List.length_take,Array.length_toList];exact Nat.le_min.2 ⟨P,zR P a2⟩
   by_cases j:s=b
   .subst j;have R:=(n.inj _ _ _ _ _ _ _ _ _ v i).2;subst R;rw [D] at E;cases E;refine ⟨arr',C,f,by rw [o];exact b2,?_,λq=>absurd q k,by simp⟩;have M:arr'.toList.take (t-sh)=arr.toList.take (t-sh):=by
     rw [d,List.append_assoc,List.take_append_of_le_length Q,List.take_take,Nat.min_eq_left P]
    rw [M];exact jd.ext a b3
   .exact ⟨B,O,(qd5 j).trans E,b2,jd.ext a b3,λq=>absurd q k,by simp⟩
theorem Sim.zh7 (d:Sim H G w) {cells items:List V} {e:TypeId} {floor j off:Nat} {exact:Bool} (t:H.get nm=some (.row cells e g floor j exact)) (B:nm<H.next)
  {l ol:List Value} (C:qn G w items l) (hol:jd G w (cells.drop off) ol) (k:off<=cells.length) (rest:List Value) (u:H.ro<=nm) :
  Step H G w {H with qbu:=H.qbu.set nm (.row (cells++items) e (g+1) floor j false)} (qgp G nm (g+1) (w.heap.size,off,cells.length+items.length)) (push w (.cells ((ol++l)++rest).toArray e)):=by
 obtain ⟨W,X,K⟩:=d.obj nm _ B t;have L:=C.length;have m:=hol.length;simp only [List.length_drop] at m;have n:=q0v d t;refine d.turn nm _ (λnm'=>qwf nm') (zN _) (λ_ h _=>h) rfl rfl u B (.inr (by rw [t];simp)) (q4l n _) (qz8 _) (by rw [size_push];omega) (λD s o E f=>?_) (λg1 F I Y g2 J Z M v N=>?_)
  (λs y _=>qlx y) (λs x O=>qy2 O) (λb=>?_)
 .rcases qgt _ _ _ f with ⟨rfl,a⟩ | a
  .cases a;exact ⟨by rw [size_push];omega,.inl (zN _)⟩
  .exact ⟨by rw [size_push];have:=(d.lt _ _ _ _ _ a).1;omega,.inr ⟨_,_,a⟩⟩
 .rcases qgt _ _ _ M with ⟨rfl,a⟩ | a
  .rcases qgt _ _ _ v with ⟨rfl,p⟩ | p
   .simp_all
   .have:=(d.lt _ _ _ _ _ p).1;omega
  .have:=(d.lt _ _ _ _ _ a).1;omega
 .refine ⟨by omega,by simp,λD s o E f=>?_⟩;rcases qgt _ _ _ f with ⟨rfl,a⟩ | a
  .cases a;refine ⟨zN _,by omega,by simp,λ_=>by simp,by simp,λ_=>⟨_,(0,0),qb4 _ _,by simp;omega,?_,λ_ i _ v=>by simp at v,by simp⟩⟩;rw [List.take_of_length_le (by simp),List.drop_append_of_le_length k];have P:(((ol++l)++rest).toArray.toList).take (cells.length+items.length-off)=ol++l:=by
    simp only [];rw [List.take_append_of_le_length (by simp;omega),List.take_of_length_le (by simp;omega)]
   rw [P];exact (jd.ext b hol).append (qn.ext b C).c
  .obtain ⟨I,J,Q,s4,R,S⟩:=K D s o E a;refine ⟨by omega,J,by simp;omega,λq=>by omega,by simp,λz=>?_⟩;obtain ⟨r,A,F,T,U,b4,b5⟩:=S z;rw [List.take_append_of_le_length Q];exact ⟨r,A,(qlx (d.lt _ _ _ _ _ a).1).trans F,T,jd.ext b U,λq=>absurd q (Nat.ne_of_lt (Nat.lt_succ_of_le I)),by simp⟩
end grow
theorem zb4 {H:Heap} {G:qj} {w:World} (p:Sim H G w) {nm g off len sz gen floor i:Nat} {cap:Option Nat} {rx:Value} {cells:List V} {e:TypeId} {exact:Bool} (q:Rel G w (.slice nm g off len sz cap) rx)
  (r:H.get nm=some (.row cells e gen floor i exact)) (s:floor<=g) (t:off+len * sz=cells.length) :
  ∃ o,jd G w (cells.drop off) o/\(cells.drop off).length=len * sz/\∀ w',w'.heap=w.heap->(Builtin.firstCells sz len rx).run P w'=.ok o.toArray w':=by
 obtain ⟨b,sh,m,ro,c,D,E,ad,u,rfl,F,I,v,x,d,J,K,L⟩:=q;have y:Rel G w (.ptr nm g off (off+len * sz)) (.pointer (some ⟨b,off-sh,none⟩)):=by
  simp only [Rel];exact ⟨b,sh,m,u,v,x,rfl⟩
 obtain ⟨a,l,z,A,j,k⟩:=qzy p y r s (zN _) (Nat.le_of_eq t);cases z;have h:=j.length;have B:(cells.drop off).take (len * sz)=cells.drop off:=List.take_of_length_le (by simp;omega);rw [B] at j k h;refine ⟨l,j,k,λw' n=>?_⟩;simp only [Builtin.firstCells];have d:(ro+sh=off/\ad=⟨b,ro,none⟩)∨c=0:=by
  rcases d with d | d
  .grind
  .exact .inr d
 rcases d with ⟨d,rfl⟩ | d
 .have:ro=off-sh:=by omega
  subst this;have f:=(A.of_heap n).run P;rw [<-h,k] at f;exact f
 .have C:len=0:=by omega
  subst C;have:l=[]:=List.length_eq_zero_iff.1 (by omega);subst this;simp [loadCells,loadCellsFrom]
theorem qzn {H:Heap} {G:qj} {w:World} (A:Sim H G w) {t u ty e:Nat} {U:TypeDesc} {i:TypeInfo} {z:Value} (ht:P.underlying t=some (.slice e)) (hu:P.underlying u=some U) (B:(∃ M,U=.slice M)∨U=.string)
  (hi:P.info? e=some i) (W:i.zero=some z) (X:z.cells.size=i.size) {nm g off len n b sh m ro c M N floor r:Nat} {ad:Addr} {exact:Bool} {cells items:List V} {rx:Value} {l:List Value}
  (Y:H.get nm=some (.row cells e g floor r exact)) (D:G nm g=some (b,sh,m)) (O:qn G w items l) (E:items.all V.jg=true) (ab:items.length=n * i.size)
  (f:∀ w',w'.heap=w.heap->(Builtin.lenOf rx).run P w'=.ok n w'/\(Builtin.firstCells i.size n rx).run P w'=.ok l.toArray w')
  (hold:∃ Q,jd G w (cells.drop off) Q/\(cells.drop off).length=len * i.size/\∀ w',w'.heap=w.heap->(Builtin.firstCells i.size len (.slice (some ad) len c)).run P w'=.ok Q.toArray w')
  (R:c=0∨ad=⟨b,ro,none⟩) (hn:n≠0) (c2:off+len * i.size=cells.length) (c3:r<=cells.length) (e2:len<=c) (e3:sh<=off) (S:ro+sh=off∨c=0) (Z:w.shape? b=some (M,N)) (e8:ro+c * i.size<=N)
  (F:(len+n) * i.bytes<=room) (I:len+n<=room) (u1:H.ro<=nm) :
  ∃ rv w' G',(Builtin.append_ #[t,u] ty #[.slice (some ad) len c,rx]).run P w=.ok rv w'/\
   Step H G w {H with qbu:=H.qbu.set nm (.row (cells++items) e (g+1) floor r false)} G' w'/\Rel G' w' (.slice nm (g+1) off (len+n) i.size none) rv:=by
 have s:=A.obj nm _ (A.lt _ _ _ _ _ D).2 Y;have hm:m=cells.length:=(s.2.2 g b sh m D).2.2.2.1 rfl;obtain ⟨o,fz,a1,a2,_,a4,_⟩:=(s.2.2 g b sh m D).2.2.2.2.2 s.1;have a8:(len+n) * i.size=len * i.size+n * i.size:=Nat.add_mul _ _ _;have a0:=A.lt _ _ _ _ _ D;have a9:=O.length;have T:N=o.size:=by
  simp only [World.shape?,a1,zS,zP] at Z;exact Z.2.symm
 by_cases p:len+n<=c
 .clear F I;obtain rfl:ad=⟨b,ro,none⟩:=by
   rcases R with R | R
   .omega
   .exact R
  have J:ro=off-sh:=by rcases S with S | S<;>omega
  have aa:(len+n) * i.size<=c * i.size:=zU _ p;have K:off-sh+len * i.size=m-sh:=by omega
  have v:m-sh+l.length<=o.size:=by omega
  have a3:=qep P b (m-sh) e fz l 0 o w a1 (λj hj _ f2=>a4 rfl j (by omega) f2) (by omega) (qn.jg O E);have d:=A.zoj Y D O (arr':=(o.toList.take (m-sh)++l++o.toList.drop (m-sh+l.length)).toArray) a1 rfl (by simp;omega) v u1;refine ⟨_,_,_,run_append_fits ht hu B hi (f w rfl).1 (f w rfl).2 p (λa ha=>?_) (λh=>by cases h),d,?_⟩
  .cases ha;rw [qev,J,K];exact a3
  .have a5:=d.ext.shp _ _ Z;exact ⟨b,sh,m+items.length,ro,c,M,N,_,qde _ _ _ _,rfl,.inr rfl,p,e3,by omega,S,(λk hk=>by cases hk),a5,e8⟩
 .obtain ⟨Q,o1,o2,o3⟩:=hold;obtain ⟨w1,C,rest,q,a6,hC,y,hr⟩:=qg5 (w:=w) (ty:=ty) ht hu B hi W (base:=some ad) (sLen:=len) (sCap:=c) (x:=rx) (l:=l) (old:=Q) f o3 (by omega) F I;have d:=Step.qyq A q a6 (λa7=>a7.zh7 Y a0.2 (qn.same q O) (jd.same q o1) (by omega) rest u1);have L:w1.heap.size=w.heap.size:=by rw [q]
  refine ⟨_,_,_,hr,d,?_⟩;have hol:=o1.length;exact ⟨w1.heap.size,off,cells.length+items.length,0,C,e,_,⟨w1.heap.size,0,none⟩,qde _ _ _ _,by rw [L],.inr rfl,hC,zN _,by omega,.inl (by omega),(λk hk=>by cases hk),qpf,qng X y (by simp;omega) hC⟩
theorem qj0 {H H':Heap} {G:qj} {w:World} (A:Sim H G w) {t u ty e:Nat} {du:TypeDesc} {j:TI} (U:P.underlying t=some (.slice e)) (hu:P.underlying u=some du) (y:(∃ e',du=.slice e')∨du=.string)
  (he:typeOf P e=some j) {s x v:V} {rs rx:Value} (J:Rel G w s rs) (a7:Rel G w x rx) (h:jt H e j.size j.bytes s x=some (v,H')) :
  ∃ rv w' G',(Builtin.append_ #[t,u] ty #[rs,rx]).run P w=.ok rv w'/\Step H G w H' G' w'/\Rel G' w' v rv:=by
 obtain ⟨af,_,i,z,hi,I,K,L,_,_,M⟩:=qm he;simp only [jt,zI] at h;obtain ⟨⟨n,o⟩,h1,h⟩:=h;obtain ⟨l,hl,N,d⟩:=qjp A a7 h1;have a0:=hl.length;rw [<-I] at d;cases s with
 | nils=>
  subst J;simp only [cond_eq_ite,Nat.beq_eq,zA,Nat.ble_eq] at h;split at h
  .rename_i W;subst W;cases h;exact ⟨_,w,G,run_append_fits U hu y hi (d w rfl).1 (d w rfl).2 (zN _) (λ_ h=>by cases h) (λ_=>rfl),Step.refl A,by simp [Rel]⟩
  .rename_i W;split at h
   .rename_i hc;cases h;obtain ⟨w1,C,rest,q,O,X,p,hr⟩:=qg5 (w:=w) (ty:=ty) U hu y hi L (base:=none) (sLen:=0) (sCap:=0) (x:=rx) (l:=l) (old:=[]) d (λw' _=>by simp [Builtin.firstCells]) (by omega) (by rw [Nat.zero_add,K];exact hc.1) (by rw [Nat.zero_add];exact hc.2);simp only [Nat.zero_add,List.nil_append] at hr X p;have f:=Step.qyq A q O (λQ=>Q.newRow (qn.same q hl) rest e false (by simp));have B:w1.heap.size=w.heap.size:=by rw [q]
    refine ⟨_,_,_,hr,f,?_⟩;exact ⟨w1.heap.size,0,o.length,0,C,e,_,⟨w1.heap.size,0,none⟩,qde _ _ _ _,by rw [B],.inr rfl,X,zN _,by rw [Nat.zero_add,N];exact zN _,.inl rfl,(λk hk=>by cases hk),qpf,qng M p (by omega) X⟩
   .cases h
 | slice nm g off len a1 cap=>
  have D:=J;obtain ⟨b,sh,m,ro,c,e',mm,ad,e1,rfl,Y,e2,e3,e4,e5,e6,e7,e8⟩:=J;simp only [cond_eq_ite,Nat.beq_eq,Bool.not_eq_true',zA,Nat.ble_eq,Bool.and_eq_false_iff] at h;split at h
  .cases h
  rename_i a2;have a2:j.size=a1:=by
   by_cases hq:j.size=a1
   .exact hq
   .simp_all
  subst a2;split at h
  .rename_i W;subst W;cases h;have a8:l=[]:=List.length_eq_zero_iff.1 (by rw [<-a0,N];simp);subst a8;exact ⟨_,w,G,run_append_fits U hu y hi (d w rfl).1 (d w rfl).2 e2 (λ_ _=>by simp [storeCells]) (λh=>by cases h),Step.refl A,D⟩
  rename_i W;split at h
  .cases h
  rename_i Z;have Z:(len+n) * j.bytes<=room/\len+n<=room:=by
   constructor<;>(apply Nat.le_of_not_lt;intro ag;apply Z)
   .left;rw [<-Bool.not_eq_true,Nat.ble_eq];omega
   .right;rw [<-Bool.not_eq_true,Nat.ble_eq];omega
  split at h
  .cases h
  rename_i E;have E:o.all V.jg=true:=by
   cases hq:o.all V.jg with
   | true=>rfl
   | false=>exact absurd hq E
  have a3:∀ cs,km H j.size (.slice nm g off len j.size cap)=some (len,cs)->∃ ol,qn G w cs ol/\cs.length=len * j.size/\∀ w',w'.heap=w.heap->(Builtin.firstCells i.size len (.slice (some ad) len c)).run P w'=.ok ol.toArray w':=by
   intro cs a9;obtain ⟨ol,o1,o2,o3⟩:=qjp (P:=P) A D a9;exact ⟨ol,o1,o2,λw' aa=>by rw [I];exact (o3 w' aa).2⟩
  split at h
  .rename_i cells ah ai ab aj exact ho;obtain ⟨q1,q0,q2⟩:=A.obj nm _ (A.lt _ _ _ _ _ e1).2 ho;obtain ⟨r1,r2,r3,r4,ak,r5⟩:=q2 g b sh m e1;split at h
   .
    rename_i k;obtain ⟨hk,al⟩:=e6 k rfl;subst hk;split at h
    .rename_i F;simp only [zM,zP] at h;obtain ⟨H1,R,rfl,rfl⟩:=h;have S:c≠0:=by omega
     obtain rfl:ad=⟨b,ro,none⟩:=by
      rcases Y with Y | Y
      .exact absurd Y S
      .exact Y
     have a4:ro=off-sh:=by rcases e5 with e5 | e5<;>omega
     obtain ⟨p1,p2,p3⟩:=qzj R ho;have hm:=r4 p1;have a5:(len+n) * j.size=len * j.size+n * j.size:=Nat.add_mul _ _ _;have hp:Rel G w (.ptr nm g (off+len * j.size) (off+(len+n) * j.size)) (.pointer (some ⟨b,off+len * j.size-sh,none⟩)):=by
      simp only [Rel];exact ⟨b,sh,m,e1,by omega,by omega,rfl⟩
     obtain ⟨a,w',ha,ae,f⟩:=qek A hp hl R P;cases ha;refine ⟨_,w',G,run_append_fits U hu y hi (d w rfl).1 (d w rfl).2 F (λa ha=>?_) (λh=>by cases h),f,?_⟩
     .cases ha;rw [qev,I,a4,show off-sh+len * j.size=off+len * j.size-sh by omega];exact ae
     .refine Rel.ext f.ext ?_;simp only [Rel];exact ⟨b,sh,m,ro,c,e',mm,_,e1,rfl,.inr rfl,F,e3,by omega,e5,e6,e7,e8⟩
    .rename_i F;simp only [zM,zP] at h;obtain ⟨⟨r,old⟩,R,rfl,rfl⟩:=h;have T:r=len:=by
      exact qqx R
     subst T;obtain ⟨ol,o1,o2,o3⟩:=a3 old R;obtain ⟨w1,C,rest,q,O,X,p,hr⟩:=qg5 (w:=w) (ty:=ty) U hu y hi L (base:=some ad) (sLen:=r) (sCap:=c) (x:=rx) (l:=l) (old:=ol) d o3 (by omega) (by rw [K];exact Z.1) Z.2;have f:=Step.qyq A q O (λQ=>Q.newRow (qn.same q (o1.append hl)) rest e false (by simp));have B:w1.heap.size=w.heap.size:=by rw [q]
     refine ⟨_,_,_,hr,f,?_⟩;have hol:=o1.length;have a5:(r+n) * j.size=r * j.size+n * j.size:=Nat.add_mul _ _ _;simp only [Rel];exact ⟨w1.heap.size,0,(old++o).length,0,C,e,_,⟨w1.heap.size,0,none⟩,qde _ _ _ _,by rw [B],.inr rfl,X,zN _,by simp;omega,.inl rfl,(λk hk=>by cases hk),qpf,qng M p (by simp;omega) X⟩
   .
    split at h
    .rename_i hc;obtain ⟨⟨⟨⟨⟨c1,c2⟩,c3⟩,c4⟩,c5⟩,c6⟩:=hc;subst c1;subst c6;have c5:j.size≠0:=by
      intro h0;rw [h0] at c5;simp at c5
     simp only [zM,zP] at h;obtain ⟨H1,R,rfl,rfl⟩:=h;obtain ⟨u1,rfl⟩:=qgn R;have a6:=zb4 (P:=P) A D ho q1 c2;rw [<-I] at *;exact qzn A U hu y hi L M ho e1 hl E N d a6 Y W c2 c3 e2 e3 e5 e7 e8 (by rw [K];exact Z.1) Z.2 u1
    .cases h
  .cases h
 | _=>simp at h
theorem qd8 {H H':Heap} {G:qj} {w:World} (j:Sim H G w) {t u ty e:Nat} {a:TypeDesc} {b:TI} (k:P.underlying t=some (.slice e)) (hu:P.underlying u=some a) (c:(∃ l,a=.slice l)∨a=.string)
  (he:typeOf P e=some b) {s x v:V} {rs rx:Value} (d:Rel G w s rs) (f:Rel G w x rx) (h:kv H e b.size b.bytes s x=some (v,H')) :
  ∃ g w' i,(Builtin.append_ #[t,u] ty #[rs,rx]).run P w=.ok g w'/\Step H G w H' i w'/\Rel i w' v g:=
 qj0 j k hu c he (d.qb2 _) f h
end
end Go.E2
/- E2: single operations against the model's, first part. -/
namespace Go.E2
open Go
def qws (G:qj) (w:World) (d:D) (rd:Deferred):Prop:=
 ∃ fn cap,rd.target=.fn fn cap/\qkx G d.fn fn/\qn G w d.captured cap.toList/\qn G w d.args rd.args.toList
def qan (G:qj) (w:World):List Dfr->List Deferred->Prop
 | [],l=>l=[]
 | d::ds,l=>∃ x a,l=x::a/\qan G w ds a/\match d with
  | .mark nm=>∃ b sh n,G nm 0=some (b,sh,n)/\x = {target:=.collected b,args:=#[]}
  | .call d=>qws G w d x
structure SimFr (G:qj) (w:World) (fr:Fr) (a:Act):Prop where
 tmps:qzk G w fr.tmps a.tmps
 n:a.tmps.size=fr.n
 dfr:qan G w fr.defers a.defers
theorem qws.up {G a:qj} {w w':World} (h:Up G w a w') {d:D} {rd:Deferred} (e:qws G w d rd):qws a w' d rd:=by
 obtain ⟨fn,cap,b,c,f,g⟩:=e;exact ⟨fn,cap,b,c.ext h.sub,qn.up h f,qn.up h g⟩
theorem qan.up {G i:qj} {w w':World} (h:Up G w i w'):∀ {ds:List Dfr} {l:List Deferred},qan G w ds l->qan i w' ds l
 | [],_,e=>by simpa [qan] using e
 | .mark nm::ds,_,e=>by
  simp only [qan] at e ⊢;obtain ⟨x,a,c,f,b,sh,n,g,j⟩:=e;exact ⟨x,a,c,qan.up h f,b,sh,n,h.sub _ _ _ g,j⟩
 | .call d::ds,_,e=>by
  simp only [qan] at e ⊢;obtain ⟨x,a,c,f,g⟩:=e;exact ⟨x,a,c,qan.up h f,g.up h⟩
theorem qan.ext {r:Nat} {G a:qj} {w w':World} (h:Ext r G w a w') {ds:List Dfr} {l:List Deferred} (e:qan G w ds l):qan a w' ds l:=qan.up h.up e
theorem SimFr.ext {r:Nat} {G b:qj} {w w':World} (h:Ext r G w b w') {fr:Fr} {a:Act} (e:SimFr G w fr a):SimFr b w' fr a:=
 ⟨e.tmps.ext h,e.n,e.dfr.ext h⟩
theorem qim {G:qj} {w:World}:Rel G w zs undef:=by
 simp only [zs,undef,Rel];exact ⟨#[],rfl,qn.nil⟩
theorem SimFr.put {G:qj} {w:World} {fr:Fr} {a:Act} (e:SimFr G w fr a) (dst:Option Tmp) {v:V} {x:Value} (h:Rel G w v x):SimFr G w (fr.put dst v) (a.put dst x):=by
 cases dst with
 | none=>exact e
 | some d=>
  simp only [Fr.put,Act.put,cond_eq_ite,Nat.blt_eq];by_cases c:d<fr.n
  .rw [zT c];refine ⟨λk u b=>?_,by simp [e.n],e.dfr⟩;simp only [Tree.zn] at b;by_cases f:k=d
   .subst f;have:(a.tmps.setIfInBounds k x).getD k undef=x:=by
     have g:k<a.tmps.size:=by rw [e.n];exact c
     simp [Array.getElem?_setIfInBounds_self_of_lt g]
    rw [zT rfl] at b;cases b;rw [this];exact h
   .rw [zF f] at b;have:(a.tmps.setIfInBounds d x).getD k undef=a.tmps.getD k undef:=by
     simp [Array.getElem?_setIfInBounds_ne (Ne.symm f)]
    rw [this];exact e.tmps k u b
  .rw [zF c];have:a.tmps.setIfInBounds d x=a.tmps:=Array.setIfInBounds_eq_of_size_le (by rw [e.n];exact Nat.le_of_not_lt c);rw [this];exact ⟨e.tmps,e.n,e.dfr⟩
theorem qlg {G:qj} {w:World} {fr:Fr} {a:Act} (e:SimFr G w fr a) {t:Nat} {v:V} (h:fr.tmp t=some v):Rel G w v (a.tmps.getD t undef):=e.tmps t v h
theorem qq {H:Heap} {G:qj} {w:World} (b:Sim H G w) {fr:Fr} {a:Act} (e:SimFr G w fr a) {x:Operand} {v:V} (h:opd fr H x=some v):Rel G w v (a.eval x):=by
 cases x with
 | tmp t=>exact qlg e h
 | const c=>exact qiq G w _ _ _ h
 | global g=>
  simp only [opd,cond_eq_ite,Nat.blt_eq] at h;split at h
  .rename_i j;split at h
   .rename_i cells k fl l ex i;cases h;obtain ⟨n,d⟩:=b.globs g _ j i;have:=(b.obj g _ (b.lt _ _ _ _ _ d).2 i).2.2 0 g 0 n d;simp only [Rel,Act.eval];exact ⟨g,0,n,d,zN _,Nat.le_of_eq (this.2.2.2.1 rfl).symm,rfl⟩
   .cases h
  .cases h
 | func f=>
  simp only [opd,zS] at h;subst h;simp only [Rel,Act.eval,qkx];exact ⟨_,_,_,rfl,rfl,qn.nil,qn.nil⟩
theorem qfk {H:Heap} {G:qj} {w:World} (b:Sim H G w) {fr:Fr} {a:Act} (e:SimFr G w fr a):∀ {l:List Operand} {vs:List V},qay fr H l=some vs->qn G w vs (l.map a.eval)
 | [],vs,h=>by simp only [qay,zS] at h;subst h;exact qn.nil
 | x::l,vs,h=>by
  simp only [qay,zI,zM] at h;obtain ⟨v,c,us,d,rfl⟩:=h;exact qn.cons (qq b e c) (qfk b e d)
def zdb (G:qj) (w:World) (c:Tgt) (args:List V) (t:Target) (a:Array Value):Prop:=
 match c with
 | .func f=>∃ cap,t=.fn (.func f) cap/\qn G w args (a.toList++cap.toList)
 | .round l=>∃ cap b sh n,t=.fn (.yield b) cap/\G l 0=some (b,sh,n)/\qn G w args a.toList
def ka (P:Program) (o:Oper) (a:Act) (H:Heap) (G:qj) (w:World) (H':Heap) (out:Out):Prop:=
 match out with
 | .val v=>∃ x w' c,(execOp a.eval o).run P w=.ok (.value x) w'/\Step H G w H' c w'/\Rel c w' v x
 | .skip=>∃ w' c,(execOp a.eval o).run P w=.ok .skip w'/\Step H G w H' c w'
 | .call e args=>H'=H/\∃ t b,(execOp a.eval o).run P w=(invoke t b).run P w/\zdb G w e args t b
 | .defer d=>H'=H/\∃ rd,(execOp a.eval o).run P w=.ok (.defer rd) w/\qws G w d rd
 | .panic v=>H'=H/\∃ x,(execOp a.eval o).run P w=.halt (.panic x) w/\Rel G w v x
section
variable {P:Program} {o:Oper} {a:Act} {H:Heap} {G:qj} {w:World}
theorem ka.pure (b:Sim H G w) {v:V} {x:Value} (h:(execOp a.eval o).run P w=.ok (.value x) w) (c:Rel G w v x):ka P o a H G w H (.val v):=
 ⟨x,w,G,h,Step.refl b,c⟩
end
end Go.E2
/- E2: single operations against the model's, second part: each operation. -/
namespace Go.E2
open Go
section
variable {P:Program} {o:Oper} {a:Act} {H:Heap} {G:qj} {w:World} {fr:Fr}
theorem zaw (c:Sim H G w) (e:SimFr G w fr a) {x:Operand} (b:o.op=.move x∨o.op=.assign x) {v:V} (h:opd fr H x=some v):ka P o a H G w H (.val v):=by
 refine ka.pure c (x:=a.eval x) ?_ (qq c e h);rcases b with b | b<;>simp [execOp,b]
theorem zi7 (d:Sim H G w) (e:SimFr G w fr a) {c x y:Operand} (g:o.op=.pick c x y) {b:Bool} {v:V} (i:opd fr H c=some (.bool b)) (h:opd fr H (if b then x else y)=some v):ka P o a H G w H (.val v):=by
 have f:=qq d e i;simp only [Rel] at f;have j:=qq d e h;refine ka.pure d (x:=a.eval (if b then x else y)) ?_ j;simp only [execOp,g,f,asBool];cases b<;>simp
theorem q6e (k:Sim H G w) (e:SimFr G w fr a) {x:Operand} (s:o.op=.nilCheck x) {v:V} (h:opd fr H x=some v)
  (j:match v with | .nilp | .nili | .nilf | .func (.method _) _ _=>False | _=>True):ka P o a H G w H (.val v):=by
 have d:=qq k e h;refine ka.pure k (x:=a.eval x) ?_ d;generalize u:a.eval x=rx at d;simp only [execOp,s,u];cases v with
 | func fn f c=>
  obtain ⟨z,A,B,rfl,i,_⟩:=d;cases fn with
  | method n=>exact j.elim
  | yield l=>obtain ⟨b,sh,n,_,rfl⟩:=i;simp
  | func g=>simp only [qkx] at i;subst i;simp
  | methodOf t n=>simp only [qkx] at i;subst i;simp
  | via t p f q=>simp only [qkx] at i;subst i;simp
 | ptr nm g off lim=>simp only [Rel] at d;obtain ⟨b,sh,n,_,_,_,rfl⟩:=d;simp
 | slice nm g off len sz cap=>simp only [Rel] at d;obtain ⟨b,sh,n,ro,c,e,m,_,_,rfl,_⟩:=d;simp
 | iface t y=>simp only [Rel] at d;obtain ⟨r,rfl,_⟩:=d;simp
 | agg cs=>simp only [Rel] at d;obtain ⟨r,rfl,_⟩:=d;simp
 | tuple cs=>simp only [Rel] at d;obtain ⟨r,rfl,_⟩:=d;simp
 | map nm=>simp only [Rel] at d;obtain ⟨b,sh,n,_,rfl⟩:=d;simp
 | nilp=>exact j.elim
 | nili=>exact j.elim
 | nilf=>exact j.elim
 | _=>simp only [Rel] at d;subst d;simp
theorem q1d (d:Sim H G w) {v:V} {x:Value} (e:Rel G w v x) {t:TypeId}
  (c:(execOp a.eval o).run P w=.ok (.value (.pointer (some ⟨w.heap.size,0,none⟩))) (push w (.cells x.cells t))):ka P o a H G w (z5 H v.cells t) (.val (.ptr H.next 0 0 v.cells.length)):=by
 have b:=d.newRow (qc3 e) [] t true (λ_=>rfl);simp only [zJ,Array.toArray_toList] at b;exact ⟨_,_,_,c,b,qys⟩
theorem zfl (b:Sim H G w) {t:TypeId} {ti:TI} (c:o.op=.alloc t) (d:typeOf P t=some ti):ka P o a H G w (z5 H ti.zero.cells t) (.val (.ptr H.next 0 0 ti.zero.cells.length)):=by
 obtain ⟨z,e,_,f⟩:=qbc d w;refine q1d b (f G w) ?_;simp [execOp,c,Instr.alloc,e,newVar,Go.newRow];rfl
theorem zps (b:Sim H G w) (e:SimFr G w fr a) {t:TypeId} {x:Operand} (c:o.op=.box t x) {v:V} (h:opd fr H x=some v):ka P o a H G w (z5 H v.cells t) (.val (.ptr H.next 0 0 v.cells.length)):=by
 refine q1d b (qq b e h) ?_;simp [execOp,c,Instr.box,newVar,Go.newRow];rfl
theorem zi5 (b:Sim H G w) (e:SimFr G w fr a) {t:TypeId} {ti:TI} (c:typeOf P t=some ti) {x:Operand} (d:o.op=.load t x) {p v:V} (f:opd fr H x=some p) (h:jr H ti p=some v):ka P o a H G w H (.val v):=by
 obtain ⟨y,ad,g,i,j⟩:=qjb b c (qq b e f) h;refine ka.pure b (x:=y) ?_ j;simp [execOp,d,Instr.loadAt,g,Instr.sureAddr,i]
theorem zfq (b:Sim H G w) (e:SimFr G w fr a) {t:TypeId} {ti:TI} (c:typeOf P t=some ti) {x y:Operand} (d:o.op=.store t x y) {p v:V} (f:opd fr H x=some p) (g:opd fr H y=some v) {H':Heap} (h:qfm H ti p v=some H'):ka P o a H G w H' .skip:=by
 obtain ⟨ad,w',i,j,k⟩:=q63 b c (qq b e f) (qq b e g) h;refine ⟨w',G,?_,k⟩;simp [execOp,d,Instr.storeAt,i,Instr.sureAddr,j]
theorem qy0 {s:TypeId} {ti:TI} (d:typeOf P s=some ti) {k:Nat} {f:Field} (b:qc1 ti k=some f):∃ a,ti.under=.struct a/\a[k]? = some f/\P.underlying s=some (.struct a):=by
 unfold qc1 at b;split at b
 .rename_i a c;exact ⟨a,c,b,c ▸ (qm d).1⟩
 .cases b
theorem q3o (j:Sim H G w) (e:SimFr G w fr a) {s:TypeId} {ti fi:TI} (l:typeOf P s=some ti) {x:Operand} {k:Nat} {f:Field} (m:o.op=.fieldAddr s x k) (q:qc1 ti k=some f) (d:typeOf P f.type=some fi)
  (r:fi.size≠0) {p v:V} (t:opd fr H x=some p) (h:(match p with | .ptr nm g off lim=>some (.ptr nm g (off+f.offset) lim) | _=>none)=some v) :
  ka P o a H G w H (.val v):=by
 obtain ⟨D,E,u,i⟩:=qy0 l q;have y:=qq j e t;have c:∀ b ro,a.eval x=.pointer (some ⟨b,ro,none⟩)->(execOp a.eval o).run P w=.ok (.value (.pointer (some ⟨b,ro+f.offset,none⟩))) w:=by
  intro b ro z;simp [execOp,m,Instr.fieldAt,run_underlying i,u,z,Instr.sureAddr,fieldPlace,z7 d,r,qev]
 cases p with
 | ptr nm g off lim=>
  cases h;obtain ⟨b,sh,n,A,F,B,C⟩:=y;refine ka.pure j (c _ _ C) ?_;exact ⟨b,sh,n,A,by omega,B,by rw [show off+f.offset-sh=off-sh+f.offset by omega]⟩
 | _=>cases h
theorem q3p (r:Sim H G w) (e:SimFr G w fr a) {t s:TypeId} {ti d:TI} (A:typeOf P t=some ti) (hu:ti.under=.slice s) (u:typeOf P s=some d) {x i:Operand} (B:o.op=.indexAddr t x i) {p q v:V}
  (C:opd fr H x=some p) (D:opd fr H i=some q) (h:kj d.size p q=some v):ka P o a H G w H (.val v):=by
 have E:=qq r e C;have F:=qq r e D;have y:P.underlying t=some (.slice s):=hu ▸ (qm A).1;have f:∀ b ro len c k (j:Int),a.eval x=.slice (some ⟨b,ro,none⟩) len c->a.eval i=.int k j->0<=j->j<len->(execOp a.eval o).run P w=.ok (.value (.pointer (some ⟨b,ro+j.toNat * d.size,none⟩))) w:=by
  intro b ro len c k j I J K L;simp [execOp,B,Instr.indexAt,run_underlying y,I,J,asIntOf,z7 u,K,L,qev]
 cases p with
 | slice nm g off len sz cap=>
  cases q with
  | int k j=>
   simp only [kj] at h;split at h
   .rename_i M;obtain ⟨z,N,c3⟩:=M;rw [Nat.beq_eq] at z;subst z;cases h;obtain ⟨b,sh,n,ro,c,S,m,ad,O,Q,l,T,U,R,W,X,Y,Z⟩:=E;obtain rfl:ad=⟨b,ro,none⟩:=by
     rcases l with l | l
     .omega
     .exact l
    refine ka.pure r (f _ _ _ _ _ _ Q F N c3) ?_;refine ⟨b,sh,n,O,by omega,R,?_⟩;rw [show off+j.toNat * d.size-sh=ro+j.toNat * d.size by omega]
   .cases h
  | _=>cases h
 | _=>cases q<;>cases h
theorem qwa (f:Sim H G w) (e:SimFr G w fr a) {t l:TypeId} {n:Nat} {ti c:TI} (z:typeOf P t=some ti) (hu:ti.under=.array n l) (q:typeOf P l=some c) {x i:Operand} (A:o.op=.indexAddr t x i) {p v:V} {k:IntKind} {j:Int}
  (B:opd fr H x=some p) (C:opd fr H i=some (.int k j)) (r:0<=j) (s:j<n)
  (h:(match p with | .ptr nm g off lim=>some (.ptr nm g (off+j.toNat * c.size) lim) | _=>none)=some v):ka P o a H G w H (.val v):=by
 have D:=qq f e B;have y:=qq f e C;simp only [Rel] at y;have u:P.underlying t=some (.array n l):=hu ▸ (qm z).1;have d:∀ b ro,a.eval x=.pointer (some ⟨b,ro,none⟩)->(execOp a.eval o).run P w=.ok (.value (.pointer (some ⟨b,ro+j.toNat * c.size,none⟩))) w:=by
  intro b ro E;simp [execOp,A,Instr.indexAt,run_underlying u,E,y,asIntOf,Instr.sureAddr,z7 q,r,s,qev]
 cases p with
 | ptr nm g off lim=>
  cases h;obtain ⟨b,sh,m,F,K,I,J⟩:=D;refine ka.pure f (d _ _ J) ?_;exact ⟨b,sh,m,F,by omega,I,by rw [show off+j.toNat * c.size-sh=off-sh+j.toNat * c.size by omega]⟩
 | _=>cases h
end
end Go.E2
/- E2: single operations against the model's, third part: operators, parts, slices. -/
namespace Go.E2
open Go
section
variable {P:Program} {o:Oper} {a:Act} {H:Heap} {G:qj} {w:World} {fr:Fr}
theorem qjg {t:TypeId} {ti:TI} (c:typeOf P t=some ti) {xs:List V} {b:Array Value} (d:qn G w xs b.toList) {off:Nat} {v:V} (h:qjy ti xs off=some v) :
  ∃ y,(∀ w',(part t b off).run P w'=.ok y w')/\Rel G w v y:=by
 simp only [qjy,cond_eq_ite] at h;cases a:ti.isAgg with
 | true=>
  simp only [a,if_true,Nat.ble_eq] at h;split at h
  .rename_i e;cases h;refine ⟨.agg (b.extract off (off+ti.size)),λw'=>by simp [part,qrb c,a,z7 c],?_⟩;refine ⟨_,rfl,?_⟩;have:=(d.drop off).take ti.size;simpa [Array.toList_extract,List.extract_eq_take_drop] using this
  .cases h
 | false=>
  simp only [a,Bool.false_eq_true,if_false] at h;obtain ⟨y,f,g⟩:=d.get h;refine ⟨y,λw'=>?_,g⟩;simp only [part,Sem.run_bind,qrb c,Result.andThen_ok,a,Bool.false_eq_true,if_false];have:b[off]? = some y:=by simpa using f
  simp [this]
theorem zux {s:List UInt8} {x:Value}:Rel G w (.str s) x↔x=.string ⟨s.toArray⟩:=by simp [Rel]
theorem toList_mk (s:List UInt8):(⟨s.toArray⟩:ByteArray).toList=s:=by rw [ByteArray.toList_eq]
theorem zcd {op:BinOp} {k:IntKind} {x y:Int} {v:V} (t:TypeId) (h:jb op k x y=some v):∃ z,(∀ w',(binOp op t (.int k x) (.int k y)).run P w'=.ok z w')/\Rel G w v z:=by
 cases op<;>simp only [jb] at h<;>try (cases h;done)
 all_goals try
  (cases h
   exact ⟨_,λw'=>by simp [binOp,Op.intArith,Op.intBits,Op.intCmp];rfl,by simp [Rel]⟩)
 all_goals
  split at h
  .cases h
  .rename_i a;cases h;exact ⟨_,λw'=>by simp [binOp,Op.intDiv,a];rfl,by simp [Rel]⟩
theorem qvv {op:BinOp} {k c:IntKind} {x y:Int} {v:V} (t:TypeId) (a:op=.shl∨op=.shr) (h:q4a op k x y=some v):∃ z,(∀ w',(binOp op t (.int k x) (.int c y)).run P w'=.ok z w')/\Rel G w v z:=by
 simp only [q4a] at h;split at h
 .cases h
 .rename_i b;rcases a with rfl | rfl
  .cases h;exact ⟨_,λw'=>by simp [binOp,Op.shift,b];rfl,by simp [Rel]⟩
  .cases h;exact ⟨_,λw'=>by simp [binOp,Op.shift,b];rfl,by simp [Rel]⟩
theorem qro:∀ x y:List UInt8,Op.bytesLess x y=qal x y
 | _,[]=>by simp [Op.bytesLess,qal]
 | [],_::_=>by simp [Op.bytesLess,qal]
 | a::x,b::y=>by simp only [Op.bytesLess,qal,qro x y]
theorem zc5 {op:BinOp} {x y:List UInt8} {v:V} (t:TypeId) (h:qks op x y=some v):∃ z,(∀ w',(binOp op t (.string ⟨x.toArray⟩) (.string ⟨y.toArray⟩)).run P w'=.ok z w')/\Rel G w v z:=by
 cases op<;>simp only [qks] at h<;>try (cases h;done)
 case add=>
  simp only [cond_eq_ite,Nat.ble_eq] at h;split at h
  .rename_i a;cases h;have b:x.length+y.length<=140737488355328:=a;refine ⟨.string (⟨x.toArray⟩++⟨y.toArray⟩),λw'=>?_,?_⟩
   .have:¬ (9223372036854775807<((x.length:Int)+(y.length:Int))):=by omega
    simp [binOp,Op.stringOp,ByteArray.size,this]
   .rfl
  .cases h
 all_goals
  cases h;exact ⟨_,λw'=>by simp [binOp,Op.stringOp,qro];rfl,by simp [Rel]⟩
theorem qyn {n:Nat} {t:TypeId} {a:Array Field} (h:qge P n t=true) (hu:P.underlying t=some (.struct a)) :
  P.stoodInHeld t=false/\P.eqGuardType P.depth t=false/\∀ f ∈ a.toList,f.name≠ "_" := by
 cases n with
 | zero=>simp [qge] at h
 | succ n=>
  simp only [qge,hu,zA,Bool.not_eq_true'] at h;refine ⟨h.1.1,h.1.2,λf b=>?_⟩;have:=(Array.all_eq_true'.1 h.2) f (by simpa using b);simp only [zA,bne_iff_ne] at this;exact this.1
mutual
theorem qna {E:Env} (s:E.types=typeOf P) (j:E.eqOk=qge P 20):∀ (d D:Nat) (t:TypeId) (x y:V) (rx n:Value) (b:Bool),d<=D->eqV E d t x y=some b->Rel G w x rx->Rel G w y n->
  ∀ w',(Op.equalIn D t rx n).run P w'=.ok b w'
 | 0,_,_,_,_,_,_,_,_,h,_,_=>by simp [eqV] at h
 | d+1,0,_,_,_,_,_,_,F,_,_,_=>by omega
 | d+1,D+1,t,x,y,rx,n,b,F,h,e,f=>by
  intro w';simp only [eqV,s] at h;split at h
  .cases h
  rename_i ti H;have c:=(qm H).1;split at h
  .
   rename_i I k a W o i;rw [i] at c;split at h
   .rename_i J;subst J;cases h;simp only [Rel] at e f;subst e;subst f;exact run_equalIn_int w' D t k I a o c
   .cases h
  .rename_i a o i;rw [i] at c;cases h;simp only [Rel] at e f;subst e;subst f;rw [run_equalIn_string w' D t _ _ c,toList_mk,toList_mk]
  .rename_i a o i;rw [i] at c;cases h;simp only [Rel] at e f;subst e;subst f;exact run_equalIn_bool' w' D t _ _ c
  .rename_i u K L i;rw [i] at c;simp only [j,cond_eq_ite] at h;split at h
   .rename_i p;obtain ⟨M,X,N⟩:=qyn p c;simp only [Rel] at e f;obtain ⟨v,rfl,e⟩:=e;obtain ⟨z,rfl,f⟩:=f;have l:P.fieldsOf t=u:=by simp [Program.fieldsOf,c]
    rw [run_equalIn_struct w' D t v z (by rw [l];exact c) M,l];exact qm9 s j d D u.toList K L v z b (by omega) h e f N w'
   .cases h
  all_goals try (
   rename_i i;rw [i] at c;cases h;simp only [Rel] at e f
   first
    | (subst e;subst f;simp [Op.equalIn,run_underlying c];done)
    | (subst e;obtain ⟨_,_,_,_,_,_,_,_,_,rfl,_⟩:=f;simp [Op.equalIn,run_underlying c];done)
    | (subst e;obtain ⟨_,_,_,_,_,_,_,_,rfl,_⟩:=f;simp [Op.equalIn,run_underlying c];done)
    | (subst f;obtain ⟨_,_,_,_,_,_,_,_,_,rfl,_⟩:=e;simp [Op.equalIn,run_underlying c];done)
    | (subst f;obtain ⟨_,_,_,_,_,_,_,_,rfl,_⟩:=e;simp [Op.equalIn,run_underlying c];done)
    | (subst e;obtain ⟨_,_,_,_,_,_,rfl,_⟩:=f;simp [Op.equalIn,run_underlying c];done)
    | (subst f;obtain ⟨_,_,_,_,_,_,rfl,_⟩:=e;simp [Op.equalIn,run_underlying c];done)
    | (subst e;obtain ⟨_,_,_,rfl,_⟩:=f;simp [Op.equalIn,run_underlying c];done)
    | (subst f;obtain ⟨_,_,_,rfl,_⟩:=e;simp [Op.equalIn,run_underlying c];done)
    | (subst e;obtain ⟨_,_,_,_,rfl⟩:=f;simp [Op.equalIn,run_underlying c];done)
    | (subst f;obtain ⟨_,_,_,_,rfl⟩:=e;simp [Op.equalIn,run_underlying c];done)
    | (subst e;obtain ⟨_,_,_,_,_,_,rfl⟩:=f;simp [Op.equalIn,run_underlying c,samePointer];done)
    | (subst f;obtain ⟨_,_,_,_,_,_,rfl⟩:=e;simp [Op.equalIn,run_underlying c,samePointer];done)
    | (subst e;obtain ⟨_,rfl,_⟩:=f;simp [Op.equalIn,run_underlying c];done)
    | (subst f;obtain ⟨_,rfl,_⟩:=e;simp [Op.equalIn,run_underlying c];done)
   done)
  .rename_i Y nm g off lim nm' Z A B i;rw [i] at c;simp only [zI,cond_eq_ite,zA,Bool.not_eq_true',Nat.beq_eq] at h;obtain ⟨O,q,h⟩:=h;split at h
   .rename_i Q;obtain ⟨m,rfl,rfl⟩:=Q;have m:O.size≠0:=by
     intro R;rw [R] at m;cases m
    cases h;obtain ⟨b1,S,n1,T,q2,q3,rfl⟩:=e;obtain ⟨b2,U,n2,C,q5,q6,rfl⟩:=f;rw [T] at C;cases C;simp [Op.equalIn,run_underlying c,z7 q,m,sameAddr];rw [Bool.eq_iff_iff];simp only [beq_iff_eq,Nat.beq_eq];constructor
    .intro r;simp only [Addr.mk.injEq,true_and,and_true] at r;omega
    .intro r;subst r;rfl
   .cases h
  .cases h
theorem qm9 {E:Env} (l:E.types=typeOf P) (g:E.eqOk=qge P 20):∀ (d D:Nat) (e:List Field) (i j:List V) (a c:Array Value) (b:Bool),d<=D->eqFields E d e i j=some b->qn G w i a.toList->qn G w j c.toList->
  (∀ f ∈ e,f.name≠ "_")->∀ w',(Op.eqFields D a c e).run P w'=.ok b w'
 | 0,_,_,_,_,_,_,_,_,h,_,_,_=>by simp [eqFields] at h
 | d+1,D,e,i,j,a,c,b,I,h,n,o,p=>by
  intro w';cases e with
  | nil=>
   simp only [eqFields,zS] at h;subst h;simp [Op.eqFields]
  | cons f e=>
   simp only [eqFields,l] at h;split at h
   .cases h
   rename_i ti q;simp only [zI] at h;obtain ⟨u,s,v,t,r,x,k⟩:=h;obtain ⟨y,z,A⟩:=qjg q n s;obtain ⟨B,C,F⟩:=qjg q o t;have m:=qna l g d D f.type u v y B r (by omega) x A F;simp only [Op.eqFields,p f (by simp),ne_eq,not_false_eq_true,if_true,Sem.run_bind,z,C,Result.andThen_ok,m];cases r with
   | true=>
    simp only [zO] at k;simp only [Bool.not_true,Bool.false_eq_true,if_false];exact qm9 l g d D e i j a c b (by omega) k n o (λf H=>p f (by simp [H])) w'
   | false=>
    simp only [zQ,zS] at k;subst k;simp
end
end
end Go.E2
/- E2: single operations against the model's, fourth part. -/
namespace Go.E2
open Go
section
variable {P:Program} {o:Oper} {a:Act} {H:Heap} {G:qj} {w:World} {fr:Fr}
def qok:Value->Bool
 | .int .. | .float .. | .complex .. | .string _=>false
 | _=>true
theorem q6u {t:TypeId} {x y:Value} (a:qok x=true):binOp .eql t x y=(do pure (.bool (<-Op.equal t x y))):=by
 cases x<;>first
  | (simp [qok] at a;done)
  | (cases y<;>rfl)
theorem q6v {t:TypeId} {x y:Value} (a:qok x=true):binOp .neq t x y=(do pure (.bool (!(<-Op.equal t x y)))):=by
 cases x<;>first
  | (simp [qok] at a;done)
  | (cases y<;>rfl)
theorem q1l {x:V} {rx:Value} (d:Rel G w x rx) (i:∀ k n,x≠.int k n) (j:∀ s,x≠.str s):qok rx=true:=by
 cases x with
 | int k n=>simp_all
 | str s=>simp_all
 | ptr nm g off lim=>simp only [Rel] at d;obtain ⟨b,sh,n,_,_,_,rfl⟩:=d;rfl
 | slice nm g off len sz cap=>simp only [Rel] at d;obtain ⟨b,sh,n,ro,c,e,m,_,_,rfl,_⟩:=d;rfl
 | func f a b=>simp only [Rel] at d;obtain ⟨_,_,_,rfl,_⟩:=d;rfl
 | iface t y=>simp only [Rel] at d;obtain ⟨h,rfl,_⟩:=d;rfl
 | agg cs=>simp only [Rel] at d;obtain ⟨h,rfl,_⟩:=d;rfl
 | tuple cs=>simp only [Rel] at d;obtain ⟨h,rfl,_⟩:=d;rfl
 | map nm=>simp only [Rel] at d;obtain ⟨b,sh,n,_,rfl⟩:=d;rfl
 | _=>simp only [Rel] at d;subst d;rfl
theorem eq_left {E:Env} {d:Nat} {t:TypeId} {x y:V} {b:Bool} (h:eqV E d t x y=some b) :
  (∃ k n a c,x=.int k n/\y=.int a c)∨(∃ s e,x=.str s/\y=.str e)∨((∀ k n,x≠.int k n)/\(∀ s,x≠.str s)):=by
 cases d with
 | zero=>simp [eqV] at h
 | succ d=>
  unfold eqV at h;split at h
  .cases h
  .grind
theorem q4t {E:Env} (l:E.types=typeOf P) (d:E.eqOk=qge P 20) {op:BinOp} {t:TypeId} {x y v:V} {rx m:Value} (a:Rel G w x rx) (c:Rel G w y m) (h:qbr E op t x y=some v) :
  ∃ z,(∀ w',(binOp op t rx m).run P w'=.ok z w')/\Rel G w v z:=by
 unfold qbr at h;split at h
 .simp only [Rel] at a c;subst a;subst c;exact qvv t (.inl rfl) h
 .simp only [Rel] at a c;subst a;subst c;exact qvv t (.inr rfl) h
 .simp only [Rel] at a c;subst a;subst c;split at h
  .rename_i o;subst o;exact zcd t h
  .cases h
 .simp only [Rel] at a c;subst a;subst c;exact zc5 t h
 .rename_i f g;simp only [zM] at h;obtain ⟨b,e,rfl⟩:=h;rcases eq_left e with ⟨k,n,p,q,rfl,rfl⟩ | ⟨s,r,rfl,rfl⟩ | ⟨i,j⟩
  .grind
  .simp_all
  .rw [q6u (q1l a i j)];have:=qna l d 1000 Op.maxDepth t _ _ _ _ b (by simp [Op.maxDepth]) e a c;exact ⟨.bool b,λw'=>by simp [Op.equal,this],by simp [Rel]⟩
 .rename_i f g;simp only [zM] at h;obtain ⟨b,e,rfl⟩:=h;rcases eq_left e with ⟨k,n,p,q,rfl,rfl⟩ | ⟨s,r,rfl,rfl⟩ | ⟨i,j⟩
  .grind
  .simp_all
  .rw [q6v (q1l a i j)];have:=qna l d 1000 Op.maxDepth t _ _ _ _ b (by simp [Op.maxDepth]) e a c;exact ⟨.bool (!b),λw'=>by simp [Op.equal,this],by simp [Rel]⟩
 .cases h
theorem zi8 (b:Sim H G w) (e:SimFr G w fr a) {op:UnOp} {t:TypeId} {x:Operand} (d:o.op=.unOp op t x) {p v:V} (f:opd fr H x=some p) (h:q1z op p=some v):ka P o a H G w H (.val v):=by
 have c:=qq b e f;unfold q1z at h;split at h<;>try (cases h;done)
 all_goals
  cases h;simp only [Rel] at c;refine ka.pure b (by simp [execOp,d,c,Op.unary,Op.intArith,Op.intBits];rfl) (by simp [Rel])
theorem q8l (i:Sim H G w) (e:SimFr G w fr a) {src dst:TypeId} {j l:TI} (b:typeOf P src=some j) (c:typeOf P dst=some l) {m k:IntKind} (d:j.under=.int m) (f:l.under=.int k) {x:Operand} (q:o.op=.convert src dst x)
  {r:IntKind} {n:Int} (s:opd fr H x=some (.int r n)):ka P o a H G w H (.val (.int k (k.wrap n))):=by
 have p:=qq i e s;simp only [Rel] at p;have g:P.underlying src=some (.int m):=d ▸ (qm b).1;have h:P.underlying dst=some (.int k):=f ▸ (qm c).1;refine ka.pure i (x:=.int k (k.wrap n)) ?_ (by simp [Rel]);simp [execOp,q,p,convert,run_underlying g,run_underlying h,Conv.intToInt]
theorem q8m (k:Sim H G w) (e:SimFr G w fr a) {src dst:TypeId} {l m:TI} (b:typeOf P src=some l) (c:typeOf P dst=some m) (d:l.under=.string) (f:m.under=.string) {x:Operand} (n:o.op=.convert src dst x)
  {s:List UInt8} (p:opd fr H x=some (.str s)):ka P o a H G w H (.val (.str s)):=by
 have g:=qq k e p;have h:=g;simp only [Rel] at g;have i:P.underlying src=some .string:=d ▸ (qm b).1;have j:P.underlying dst=some .string:=f ▸ (qm c).1;refine ka.pure k (x:=a.eval x) ?_ h;simp [execOp,n,g,convert,run_underlying i,run_underlying j]
theorem qun (c:Sim H G w) (e:SimFr G w fr a) {t:TypeId} {ti:TI} (f:typeOf P t=some ti) (b:∀ g,ti.under≠.interface g) {x:Operand} (h:o.op=.makeInterface t x) {p:V} (i:opd fr H x=some p):ka P o a H G w H (.val (.iface t p)):=by
 have j:=qq c e i;refine ka.pure c (x:=.iface t (a.eval x)) ?_ (by simp only [Rel];exact ⟨_,rfl,j⟩);have k:=(qm f).1;simp only [execOp,h,Instr.makeInterface,Sem.run_bind,run_underlying k,Result.andThen_ok];generalize l:ti.under=d;cases d<;>first | (exact absurd rfl (b _)) | simp
theorem q6d (b:Sim H G w) (e:SimFr G w fr a) {f:FuncId} {first captured:Array Operand} (c:o.op=.makeFunc (.func f) first captured) {p q:List V} (d:qay fr H first.toList=some p) (g:qay fr H captured.toList=some q) :
  ka P o a H G w H (.val (.func (.func f) p q)):=by
 refine ka.pure b (x:=.func (.func f) (first.map a.eval) (captured.map a.eval)) (by simp [execOp,c,Instr.makeFunc]) ?_;exact ⟨_,_,_,rfl,rfl,by simpa using qfk b e d,by simpa using qfk b e g⟩
theorem q8n (d:Sim H G w) (e:SimFr G w fr a) {x:Operand} {i:Nat} (f:o.op=.extract x i) {vs:List V} {v:V} (g:opd fr H x=some (.tuple vs)) (h:vs[i]? = some v):ka P o a H G w H (.val v):=by
 have b:=qq d e g;obtain ⟨c,b,j⟩:=b;obtain ⟨y,k,l⟩:=j.get h;refine ka.pure d (x:=y) ?_ l;have:c[i]? = some y:=by simpa using k
 simp [execOp,f,b,Instr.extract,this]
theorem zfo (g:Sim H G w) (e:SimFr G w fr a) {t:TypeId} {ti fi:TI} (i:typeOf P t=some ti) {k:Nat} {f:Field} (j:qc1 ti k=some f) (b:typeOf P f.type=some fi) {x:Operand} (l:o.op=.field t x k) {cs:List V} {v:V}
  (m:opd fr H x=some (.agg cs)) (h:qjy fi cs f.offset=some v):ka P o a H G w H (.val v):=by
 have c:=qq g e m;obtain ⟨n,c,p⟩:=c;obtain ⟨u,z,q,d⟩:=qy0 i j;obtain ⟨y,r,s⟩:=qjg b p h;refine ka.pure g (x:=y) ?_ s;simp [execOp,l,c,Instr.field,run_underlying d,q,asAgg,r]
theorem q6c (f:Sim H G w) (e:SimFr G w fr a) {t:TypeId} {ti:TI} (n:typeOf P t=some ti) (hu:ti.under=.string) {x i:Operand} (p:o.op=.index t x i) {s:List UInt8} {k:IntKind} {j:Int} {b:UInt8}
  (q:opd fr H x=some (.str s)) (r:opd fr H i=some (.int k j)) (u:0<=j) (h:s[j.toNat]? = some b):ka P o a H G w H (.val (.int .u8 b.toNat)):=by
 have l:=qq f e q;have m:=qq f e r;simp only [Rel] at l m;have g:P.underlying t=some .string:=hu ▸ (qm n).1;refine ka.pure f (x:=.int .u8 b.toNat) ?_ (by simp [Rel]);have v:(ByteArray.mk s.toArray)[j.toNat]? = some b:=by
  have c:j.toNat<s.length:=by
   rw [List.getElem?_eq_some_iff] at h;exact h.1
  rw [List.getElem?_eq_getElem c] at h;have d:j.toNat<(ByteArray.mk s.toArray).size:=by simpa [ByteArray.size] using c
  rw [getElem?_pos (ByteArray.mk s.toArray) j.toNat d];exact h
 simp [execOp,p,l,m,Instr.index,asIntOf,run_underlying g,u,v]
theorem q6b (d:Sim H G w) (e:SimFr G w fr a) {t f:TypeId} {n:Nat} {ti g:TI} (q:typeOf P t=some ti) (hu:ti.under=.array n f) (b:typeOf P f=some g) {x i:Operand} (r:o.op=.index t x i) {cs:List V} {k:IntKind} {j:Int} {v:V}
  (s:opd fr H x=some (.agg cs)) (u:opd fr H i=some (.int k j)) (z:0<=j/\j<n) (h:qjy g cs (j.toNat * g.size)=some v):ka P o a H G w H (.val v):=by
 have c:=qq d e s;have p:=qq d e u;simp only [Rel] at c p;obtain ⟨A,c,l⟩:=c;have m:P.underlying t=some (.array n f):=hu ▸ (qm q).1;obtain ⟨y,B,C⟩:=qjg b l h;refine ka.pure d (x:=y) ?_ C;simp [execOp,r,c,p,Instr.index,asIntOf,run_underlying m,z,z7 b,B]
theorem zi3 (q:Sim H G w) (e:SimFr G w fr a) {c:Go.Call} {f:Operand} (r:o.op=.call c) (s:c.callee=.value f) {args:List V} {p:V} {k:Tgt} {vs:List V} (i:qay fr H c.args.toList=some args) (z:opd fr H f=some p)
  (h:qdr p args=some (.call k vs)):ka P o a H G w H (.call k vs):=by
 have t:=qfk q e i;have A:=qq q e z;have d:(c.args.map a.eval).toList=c.args.toList.map a.eval:=by simp
 cases p with
 | func fn first j=>
  obtain ⟨B,u,m,v,x,y,C⟩:=A;cases fn with
  | func g=>
   obtain ⟨rfl,rfl⟩:=h;subst x;refine ⟨rfl,.fn (.func g) m,u++c.args.map a.eval,?_,m,rfl,?_⟩
   .simp [execOp,r,resolve,s,v,Deferred.ofValue]
   .rw [Array.toList_append,d];exact (y.append t).append C
  | yield l=>
   obtain ⟨rfl,rfl⟩:=h;obtain ⟨b,sh,n,D,rfl⟩:=x;refine ⟨rfl,.fn (.yield b) m,u++c.args.map a.eval,?_,m,b,sh,n,rfl,D,?_⟩
   .simp [execOp,r,resolve,s,v,Deferred.ofValue]
   .rw [Array.toList_append,d];exact y.append t
  | _=>simp [qdr] at h
 | _=>simp [qdr] at h
theorem zfm {E:Env} (d:E.types=typeOf P) (b:E.eqOk=qge P 20) (c:Sim H G w) (e:SimFr G w fr a) {op:BinOp} {t f:TypeId} {x y:Operand} (g:o.op=.binOp op t x y f) {p q v:V} (i:opd fr H x=some p) (j:opd fr H y=some q)
  (k:∀ w',(eqGuard op t x y (a.eval x) (a.eval y)).run P w'=.ok () w') (h:qbr E op t p q=some v):ka P o a H G w H (.val v):=by
 obtain ⟨z,l,m⟩:=q4t d b (qq c e i) (qq c e j) h;refine ka.pure c (x:=z) ?_ m;simp [execOp,g,k,l]
theorem qcf (f:Sim H G w) (e:SimFr G w fr a) {c:Go.Call} {b:Builtin} (g:o.op=.call c) (h:c.callee=.builtin b) {args:List V} (d:qay fr H c.args.toList=some args) :
  qn G w args (c.args.map a.eval).toList/\∃ cs,(execOp a.eval o).run P w=(builtin b c.argTypes o.type cs (c.args.map a.eval)).run P w:=by
 refine ⟨by simpa using qfk f e d,(c.args.map λ| .const _=>true | _=>false),?_⟩;simp only [execOp,g,resolve,h,Sem.run_bind,Sem.run_pure,Result.andThen_ok,invoke];rfl
end
end Go.E2
/- E2: single operations against the model's, fifth part: builtins, slices, builds. -/
namespace Go.E2
open Go
section
variable {P:Program} {o:Oper} {a:Act} {H:Heap} {G:qj} {w:World} {fr:Fr}
theorem qax {lo hi:Nat} {x:Option V} {rx:Option Value} (a:match x,rx with | none,none=>True | some v,some r=>Rel G w v r | _,_=>False) {d n:Nat} (h:jx lo hi x d=some n) :
  (x=none/\rx=none/\n=d)∨∃ k i,x=some (.int k i)/\rx=some (.int k i)/\(lo:Int)<=i/\i<=hi/\n=i.toNat:=by
 cases x with
 | none=>
  cases rx with
  | none=>simp only [jx,zS] at h;exact .inl ⟨rfl,rfl,h.symm⟩
  | some r=>exact a.elim
 | some v=>
  cases rx with
  | none=>exact a.elim
  | some r=>
   cases v with
   | int k i=>
    subst a;simp only [jx] at h;split at h
    .grind
    .cases h
   | _=>simp [jx] at h
theorem run_sliceBound {k:IntKind} {i:Int} {y:Nat} {c:BoundsCode} (a:0<=i) (b:i<=y):∀ w',(Instr.sliceBound (.int k i) y c).run P w'=.ok i.toNat w':=by
 simp [Instr.sliceBound,asIntOf,a,b]
def zg8 (G:qj) (w:World) (x:Option V) (rx:Option Value):Prop:=
 match x,rx with
 | none,none=>True
 | some v,some r=>Rel G w v r
 | _,_=>False
theorem qfi (b:Sim H G w) (e:SimFr G w fr a) {x:Option Operand} {v:Option V} (h:qhm fr H x=some v):zg8 G w v (x.map a.eval):=by
 cases x with
 | none=>simp only [qhm,zS] at h;subst h;trivial
 | some x=>
  simp only [qhm,zM] at h;obtain ⟨u,c,rfl⟩:=h;exact qq b e c
theorem qeh {isSlice:Bool} {len cap c:Nat} {lo hi:Option V} {b d:Option Value} (p:zg8 G w lo b) (q:zg8 G w hi d) {l h:Nat} (r:jx 0 c hi len=some h) (s:jx 0 h lo 0=some l) (x:c<=cap) (hlen:len<=c) :
  l<=h/\h<=c/\∀ w',(Instr.sliceBounds isSlice len cap b d none).run P w'=.ok (l,h,cap) w':=by
 have t:=qax q r;have n:=qax p s;rcases t with ⟨rfl,rfl,rfl⟩ | ⟨k,i,rfl,rfl,u,y,rfl⟩
 .rcases n with ⟨rfl,rfl,rfl⟩ | ⟨v,j,rfl,rfl,f,g,rfl⟩
  .exact ⟨Nat.zero_le _,hlen,λw'=>by simp [Instr.sliceBounds]⟩
  .have a:0<=j:=by simpa using f
   exact ⟨by omega,hlen,λw'=>by simp [Instr.sliceBounds,run_sliceBound a g]⟩
 .have e:0<=i:=by simpa using u
  have o:i<=cap:=by omega
  rcases n with ⟨rfl,rfl,rfl⟩ | ⟨v,j,rfl,rfl,f,g,rfl⟩
  .exact ⟨Nat.zero_le _,by omega,λw'=>by simp [Instr.sliceBounds,run_sliceBound e o]⟩
  .have a:0<=j:=by simpa using f
   have m:j<=i.toNat:=g;exact ⟨by omega,by omega,λw'=>by simp [Instr.sliceBounds,run_sliceBound e o,run_sliceBound a m]⟩
theorem extract_mk (s:List UInt8) (l h:Nat):(ByteArray.mk s.toArray).extract l h=⟨((s.take h).drop l).toArray⟩:=by
 apply ByteArray.ext;simp [ByteArray.data_extract];rw [List.drop_take]
theorem q6h (c:Sim H G w) (e:SimFr G w fr a) {t:TypeId} {ti:TI} (i:typeOf P t=some ti) (hu:ti.under=.string) {x:Operand} {lo hi:Option Operand} (j:o.op=.slice t x lo hi none) {s:List UInt8} {vlo b:Option V} {v:V}
  (k:opd fr H x=some (.str s)) (m:qhm fr H lo=some vlo) (n:qhm fr H hi=some b) (h:qbe 1 (.str s) vlo b none=some v):ka P o a H G w H (.val v):=by
 have g:=qq c e k;simp only [Rel] at g;have d:P.underlying t=some .string:=hu ▸ (qm i).1;simp only [qbe,V.qb2,qdv,zI,zM] at h;obtain ⟨p,q,l,r,rfl⟩:=h;obtain ⟨y,z,u⟩:=qeh (P:=P) (isSlice:=false) (cap:=s.length) (qfi c e m) (qfi c e n) q r (zN _) (zN _);refine ka.pure c (x:=.string ⟨((s.take p).drop l).toArray⟩) ?_ (by simp [Rel]);have f:(ByteArray.mk s.toArray).size=s.length:=by simp [ByteArray.size]
 simp [execOp,j,g,Instr.sliceAt,run_underlying d,Instr.slice,f,u,extract_mk]
theorem q8o (r:Sim H G w) (e:SimFr G w fr a) {t E:TypeId} {ti d:TI} (ht:typeOf P t=some ti) (hu:ti.under=.slice E) (u:typeOf P E=some d) {x:Operand} {lo hi:Option Operand} (N:o.op=.slice t x lo hi none) {p:V} {vlo y:Option V} {v:V}
  (hp:opd fr H x=some p) (h1:qhm fr H lo=some vlo) (h2:qhm fr H hi=some y) (j:∀ s,p≠.str s) (h:qbe d.size p vlo y none=some v):ka P o a H G w H (.val v):=by
 have q:=qq r e hp;have z:P.underlying t=some (.slice E):=hu ▸ (qm ht).1;have O:=qfi r e h1;have Q:=qfi r e h2
 replace q:=q.qb2 d.size
 unfold qbe at h;have j:∀ s,p.qb2 d.size≠.str s:=λs F=>j s (V.zgf F);generalize p.qb2 d.size=p at q h j;cases p with
 | str s=>simp_all
 | nils=>
  simp only [Rel] at q;simp only [qdv,jx,zB,zI,zM] at h;obtain ⟨i,I,l,J,rfl⟩:=h;obtain ⟨R,S,K⟩:=qeh (P:=P) (isSlice:=true) (len:=0) (cap:=0) (c:=0) O Q I J (zN _) (zN _);have L:i=0:=by omega
  have M:l=0:=by omega
  subst L;subst M;refine ka.pure r (x:=.slice none 0 0) ?_ (by simp [Rel]);simp [execOp,N,q,Instr.sliceAt,run_underlying z,Instr.slice,K,z7 u]
 | slice nm g off len sz cap=>
  obtain ⟨b,sh,n,ro,c,T,m,ad,U,q2,D,q3,q4,q5,q6,q7,W,q9⟩:=q;simp only [qdv,cond_eq_ite,Bool.not_eq_true'] at h;split at h
  .cases h
  rename_i X;have X:d.size=sz:=by
   by_cases F:d.size=sz
   .exact F
   .simp_all
  subst X;simp only [zI,zM] at h;obtain ⟨i,I,l,J,rfl⟩:=h;have A:cap.getD len<=c:=by
   cases cap with
   | none=>exact q3
   | some k=>simp_all
  have B:len<=cap.getD len:=by
   cases cap with
   | none=>simp_all
   | some k=>simp_all
  obtain ⟨R,S,K⟩:=qeh (P:=P) (isSlice:=true) (cap:=c) O Q I J A B;have a0:l * d.size<=i * d.size:=zU _ R;have a1:i * d.size<=c * d.size:=zU _ (by omega);have a2:(i-l) * d.size=i * d.size-l * d.size:=Nat.sub_mul _ _ _;have a3:(c-l) * d.size=c * d.size-l * d.size:=Nat.sub_mul _ _ _;have Y:off+i * d.size<=n:=by
   cases cap with
   | none=>
    have:i * d.size<=len * d.size:=zU _ (by simpa using S);omega
   | some k=>grind
  have f:∀ k,cap.map (· - l)=some k->c-l=k/\off+l * d.size+k * d.size<=n:=by
   intro k Z;simp only [zM] at Z;obtain ⟨k0,h5,rfl⟩:=Z;obtain ⟨h6,h7⟩:=q7 k0 h5;subst h6;omega
  refine ka.pure r (x:=.slice (if c=l then some ad else some (ad.add (l * d.size))) (i-l) (c-l)) ?_ ?_
  .simp only [execOp,N,Option.map_none,Sem.run_bind,q2,Instr.sliceAt,run_underlying z,Result.andThen_ok,Instr.slice,K,z7 u,Sem.run_pure,zH]
  .by_cases C:c=l
   .rw [zT C];exact ⟨b,sh,n,ro,c-l,T,m,ad,U,rfl,.inl (by omega),by omega,by omega,by omega,.inr (by omega),f,W,by omega⟩
   .rw [zF C];exact ⟨b,sh,n,ro+l * d.size,c-l,T,m,_,U,rfl,.inr (by rcases D with D | D;omega;rw [D,qev]),by omega,by omega,by omega,.inl (by omega),f,W,by omega⟩
 | _=>simp [qdv] at h
theorem quu {isSlice:Bool} {len cap c:Nat} {lo:Option V} {a b:V} {f:Option Value} {d e:Value} (A:zg8 G w lo f) (B:Rel G w a d) (C:Rel G w b e) {l h m:Nat} (hm:jx 0 c (some b) c=some m) (D:jx 0 m (some a) len=some h) (E:jx 0 h lo 0=some l) (M:c<=cap) :
  l<=h/\h<=m/\m<=c/\∀ w',(Instr.sliceBounds isSlice len cap f (some d) (some e)).run P w'=.ok (l,h,m) w':=by
 have F:=qax (x:=some b) (rx:=some e) C hm;have H:=qax (x:=some a) (rx:=some d) B D;have I:=qax A E;rcases F with ⟨g,_,_⟩ | ⟨N,i,_,j,k,J,rfl⟩
 .cases g
 rcases H with ⟨g,_,_⟩ | ⟨O,n,_,o,p,q,rfl⟩
 .cases g
 cases j;cases o;have t:0<=i:=by simpa using k
 have u:0<=n:=by simpa using p
 have v:i<=cap:=by omega
 have y:n<=i.toNat:=q;rcases I with ⟨rfl,rfl,rfl⟩ | ⟨Q,z,rfl,rfl,r,s,rfl⟩
 .exact ⟨Nat.zero_le _,by omega,by omega,λw'=>by simp [Instr.sliceBounds,run_sliceBound t v,run_sliceBound u y]⟩
 .have K:0<=z:=by simpa using r
  have L:z<=n.toNat:=s;exact ⟨by omega,by omega,by omega,λw'=>by simp [Instr.sliceBounds,run_sliceBound t v,run_sliceBound u y,run_sliceBound K L]⟩
theorem q6g (i:Sim H G w) (e:SimFr G w fr a) {t B:TypeId} {ti d:TI} (U:typeOf P t=some ti) (hu:ti.under=.slice B) (C:typeOf P B=some d) {x hi F:Operand} {lo:Option Operand} (W:o.op=.slice t x lo (some hi) (some F)) {nm g off len sz:Nat} {cap:Option Nat} {vlo:Option V} {j p v:V}
  (I:opd fr H x=some (.slice nm g off len sz cap)) (X:qhm fr H lo=some vlo) (Y:opd fr H hi=some j) (Z:opd fr H F=some p) (h:qbe d.size (.slice nm g off len sz cap) vlo (some j) (some p)=some v):ka P o a H G w H (.val v):=by
 have r:=qq i e I;have D:P.underlying t=some (.slice B):=hu ▸ (qm U).1;have r1:=qfi i e X;have r2:=qq i e Y;have r3:=qq i e Z
 replace r:=r.qb2 d.size
 unfold qbe at h;obtain ⟨J,s⟩:∃ J,V.qb2 d.size (.slice nm g off len sz cap)=.slice nm g off len J cap:=by
  rcases V.qd7 (nm:=nm) (g:=g) (off:=off) (len:=len) (z:=sz) (sz:=d.size) (cap:=cap) with q | ⟨_,q⟩
  .exact ⟨_,q⟩
  .exact ⟨_,q⟩
 rw [s] at r h;clear s I;clear sz
 rename Nat=>sz
 simp only [Rel] at r;obtain ⟨b,sh,n,ro,c,K,L,ad,M,q2,A,q3,q4,q5,q6,N,O,q9⟩:=r;simp only [qdv,cond_eq_ite,Bool.not_eq_true'] at h;split at h
 .cases h
 rename_i E;have E:d.size=sz:=by
  by_cases Q:d.size=sz
  .exact Q
  .exact absurd (by rw [<-Bool.not_eq_true,Nat.beq_eq];exact Q) E
 subst E;simp only [zI,zM] at h;obtain ⟨m,h5,R,h6,l,h7,rfl⟩:=h;have u:cap.getD len<=c:=by
  cases cap with
  | none=>exact q3
  | some k=>rw [(N k rfl).1];exact zN _
 obtain ⟨b1,b2,S,b4⟩:=quu (P:=P) (isSlice:=true) (cap:=c) r1 r2 r3 h5 h6 h7 u;have a0:l * d.size<=m * d.size:=zU _ (by omega);have a1:m * d.size<=c * d.size:=zU _ (by omega);have a2:(R-l) * d.size<=(m-l) * d.size:=zU _ (by omega);have a3:(m-l) * d.size=m * d.size-l * d.size:=Nat.sub_mul _ _ _;have T:off+m * d.size<=n:=by
  cases cap with
  | none=>
   have:m * d.size<=len * d.size:=zU _ (by simpa using S);omega
  | some k=>
   have:m * d.size<=k * d.size:=zU _ (by simpa using S);have:=(N k rfl).2;omega
 have f:∀ k,some (m-l)=some k->m-l=k/\off+l * d.size+k * d.size<=n:=by
  intro k hk;cases hk;exact ⟨rfl,by omega⟩
 refine ka.pure i (x:=.slice (if m=l then some ad else some (ad.add (l * d.size))) (R-l) (m-l)) ?_ ?_
 .simp only [execOp,W,zH,Sem.run_bind,q2,Instr.sliceAt,run_underlying D,Result.andThen_ok,Instr.slice,b4,z7 C,Sem.run_pure]
 .by_cases y:m=l
  .rw [zT y];simp only [Rel];exact ⟨b,sh,n,ro,m-l,K,L,ad,M,rfl,.inl (by omega),by omega,by omega,by omega,.inr (by omega),f,O,by omega⟩
  .rw [zF y];simp only [Rel];exact ⟨b,sh,n,ro+l * d.size,m-l,K,L,_,M,rfl,.inr (by rcases A with A | A;omega;rw [A,qev]),by omega,by omega,by omega,.inl (by omega),f,O,by omega⟩
end
end Go.E2
/- E2: single operations against the model's, sixth part: builds and builtins. -/
namespace Go.E2
open Go
section
variable {P:Program} {o:Oper} {a:Act} {H:Heap} {G:qj} {w:World} {fr:Fr}
theorem q0q (off:Nat):∀ (l:List Value) (k:Nat) (cs:Array Value),off+k+l.length<=cs.size->
  ((l.zipIdx k).foldl (λ(cs:Array Value) (x:Value×Nat)=>cs.setIfInBounds (off+x.2) x.1) cs).toList=cs.toList.take (off+k)++l++cs.toList.drop (off+k+l.length)
 | [],k,cs,_=>by simp
 | v::l,k,cs,h=>by
  simp only [List.zipIdx_cons,List.foldl_cons];rw [q0q off l (k+1) (cs.setIfInBounds (off+k) v) (by simp at h ⊢;omega)];have e:=list_seg_step cs.toList (off+k) v l (by simp at h ⊢;omega);simpa [Array.toList_setIfInBounds,Nat.add_assoc] using e
theorem q37 {cs vs:List V} {l x:List Value} {off:Nat} (h:qn G w cs l) (a:qn G w vs x):qn G w (setCells cs off vs) (l.take off++x++l.drop (off+x.length)):=by
 unfold setCells;rw [a.length];exact ((h.take _).append a).append (h.drop _)
theorem qls (place:Nat->Option (Nat×Nat)):∀ (parts:List (Nat×V)) (b:List (Nat×Value)) (cells cs:List V) (a:Array Value),qn G w cells a.toList->
  parts.map (·.1)=b.map (·.1)->qn G w (parts.map (·.2)) (b.map (·.2))->qds place cells parts=some cs->∃ c,Instr.fill place a b=some c/\qn G w cs c.toList
 | [],b,cells,cs,a,f,d,e,h=>by
  cases b with
  | nil=>simp only [qds,zS] at h;subst h;exact ⟨a,rfl,f⟩
  | cons x r=>simp at d
 | (i,v)::parts,b,cells,cs,a,f,d,e,h=>by
  cases b with
  | nil=>simp at d
  | cons x r=>
   obtain ⟨j,y⟩:=x;simp only [List.map_cons,List.cons.injEq] at d;obtain ⟨rfl,d⟩:=d;simp only [List.map_cons] at e;rw [qn.q45] at e;simp only [qds] at h;split at h
   .cases h
   .rename_i off size m;simp only [cond_eq_ite,zA,Nat.beq_eq,Nat.ble_eq] at h;split at h
    .rename_i k;have l:=qc3 e.1;have n:=l.length;have g:=f.length;simp only [Array.length_toList] at n g;have o:(y.cells.zipIdx.foldl (λ(cs:Array Value) (x:Value×Nat)=>cs.setIfInBounds (off+x.2) x.1) a).toList=a.toList.take off++y.cells.toList++a.toList.drop (off+y.cells.toList.length):=by
      have:=q0q off y.cells.toList 0 a (by simp;omega);simp only [Nat.add_zero] at this;rw [<-this,<-Array.foldl_toList,Array.toList_zipIdx]
     obtain ⟨c,p,q⟩:=qls place parts r (setCells cells off v.cells) cs _ (by rw [o];exact q37 f l) d e.2 h;refine ⟨c,?_,q⟩;have s:y.cells.size=size:=by omega
     have t:¬ (off+y.cells.size > a.size):=by omega
     simp only [Instr.fill,m];rw [zF (by simp only [s,ne_eq,not_true_eq_false,decide_false,Bool.false_or,decide_eq_true_eq];omega)];exact p
    .cases h
theorem quq (c:Sim H G w) (e:SimFr G w fr a) {parts:Array (Nat×Operand)} {vs:List V} (h:qay fr H (parts.toList.map (·.2))=some vs) :
  (((parts.toList.map (·.1)).zip vs).map (·.1)=((parts.map λ(x:Nat×Operand)=>(x.1,a.eval x.2)).toList).map (·.1))/\
  qn G w (((parts.toList.map (·.1)).zip vs).map (·.2)) (((parts.map λ(x:Nat×Operand)=>(x.1,a.eval x.2)).toList).map (·.2)):=by
 have b:=qfk c e h;have d:=b.length;simp only [List.length_map,Array.length_toList] at d;constructor
 .rw [List.map_fst_zip (by simp;omega)];simp
 .rw [List.map_snd_zip (by simp;omega)];simpa [List.map_map,Function.comp_def] using b
def placeOf (f:Field):Sem (Nat×Nat):=do pure (f.offset,<-sizeOf f.type)
theorem qvk (w':World):∀ (l:List Field),(∀ f ∈ l,∃ ti,typeOf P f.type=some ti)->
  ∃ a:List (Nat×Nat),(l.mapM placeOf).run P w'=.ok a w'/\∀ i:Nat,a[i]? = (l[i]?).bind λf=>(typeOf P f.type).map λfi=>(f.offset,fi.size)
 | [],_=>⟨[],by simp,λi=>by simp⟩
 | f::l,h=>by
  obtain ⟨a,c,d⟩:=qvk w' l (λg e=>h g (by simp [e]));obtain ⟨ti,b⟩:=h f (by simp);have j:(placeOf f).run P w'=.ok (f.offset,ti.size) w':=by simp [placeOf,z7 b]
  refine ⟨(f.offset,ti.size)::a,?_,λi=>?_⟩
  .simp [List.mapM_cons,j,c]
  .cases i with
   | zero=>simp [b]
   | succ i=>simpa using d i
theorem qyj (j:Sim H G w) (e:SimFr G w fr a) {t:TypeId} {ti:TI} (k:typeOf P t=some ti) {b:Array Field} (hu:ti.under=.struct b) {parts:Array (Nat×Operand)} (n:o.op=.build t parts) {vs cs:List V}
  (p:qay fr H (parts.toList.map (·.2))=some vs) (c:∀ f ∈ b.toList,∃ fi,typeOf P f.type=some fi)
  (h:qds (λ(i:Nat)=>(b[i]?).bind λ(f:Field)=>(typeOf P f.type).map λfi=>(f.offset,fi.size)) ti.zero.cells ((parts.toList.map (·.1)).zip vs)=some cs):ka P o a H G w H (.val (.agg cs)):=by
 obtain ⟨z,q,_,r⟩:=qbc k w;have g:P.underlying t=some (.struct b):=hu ▸ (qm k).1;obtain ⟨s,u⟩:=quq j e p;obtain ⟨l,v,y⟩:=qvk (P:=P) w b.toList c;obtain ⟨d,A,B⟩:=qls _ _ _ _ _ z.cells (qc3 (r G w)) s u h;refine ka.pure j (x:=.agg d) ?_ (by simp only [Rel];exact ⟨d,rfl,B⟩);have C:(b.mapM placeOf).run P w=.ok l.toArray w:=by
  rw [Array.mapM_eq_mapM_toList];simp only [Sem.run_map,v,Result.andThen_ok]
 have D:(λ(i:Nat)=>l.toArray[i]?)=(λ(i:Nat)=>(b[i]?).bind λ(f:Field)=>(typeOf P f.type).map λfi=>(f.offset,fi.size)):=by
  funext i;rw [List.getElem?_toArray,y i,Array.getElem?_toList]
 have E:(b.mapM (m:=Sem) λ(f:Field)=>do pure (f.offset,<-sizeOf f.type))=b.mapM placeOf:=rfl;simp only [execOp,n,Sem.run_bind,Instr.build,q,Result.andThen_ok,run_underlying g,E,C,D,A,Sem.run_pure]
theorem qzt (j:Sim H G w) (e:SimFr G w fr a) {t c:TypeId} {n:Nat} {ti d:TI} (k:typeOf P t=some ti) (hu:ti.under=.array n c) (f:typeOf P c=some d) {parts:Array (Nat×Operand)} (l:o.op=.build t parts) {vs cs:List V}
  (m:qay fr H (parts.toList.map (·.2))=some vs) (h:qds (λi=>some (i * d.size,d.size)) ti.zero.cells ((parts.toList.map (·.1)).zip vs)=some cs):ka P o a H G w H (.val (.agg cs)):=by
 obtain ⟨z,p,_,q⟩:=qbc k w;have g:P.underlying t=some (.array n c):=hu ▸ (qm k).1;obtain ⟨r,s⟩:=quq j e m;obtain ⟨b,u,v⟩:=qls _ _ _ _ _ z.cells (qc3 (q G w)) r s h;refine ka.pure j (x:=.agg b) ?_ (by simp only [Rel];exact ⟨b,rfl,v⟩);simp only [execOp,l,Sem.run_bind,Instr.build,p,Result.andThen_ok,run_underlying g,z7 f,u,Sem.run_pure]
theorem zcx (a:Array Value) (n:Nat):((Array.range (n * a.size)).map (λi=>a[i % a.size]!)).toList=(List.replicate n a.toList).flatten:=by
 rw [Array.toList_map,Array.toList_range]
 induction n with
 | zero=>simp
 | succ n b=>
  rw [Nat.succ_mul,List.range_add,List.map_append,b,List.replicate_succ',List.flatten_concat,List.map_map];congr 1;apply List.ext_getElem
  .simp
  .intro i d c;have hi:i<a.size:=by simpa using c
   simp [Nat.mod_eq_of_lt hi,hi]
theorem qrh {z:List V} {a:Array Value} (h:qn G w z a.toList) (n:Nat):qn G w (List.replicate n z).flatten ((Array.range (n * a.size)).map (λi=>a[i % a.size]!)).toList:=by
 rw [zcx]
 induction n with
 | zero=>exact qn.nil
 | succ n b=>simpa [List.replicate_succ] using h.append b
theorem qmg {e:TypeId} {cells:Array Value}:(Go.newRow e cells).run P w=.ok ⟨w.heap.size,0,none⟩ (push w (.cells cells e)):=by
 simp [Go.newRow];rfl
theorem qs3 {nm b n sz c:Nat} {a:World} {arr:Array Value} {e:TypeId} {len:Nat} (d:b=a.heap.size) (hlen:len<=c) (g:c * sz=n) (h:arr.size=n) :
  Rel (qgp G nm 0 (b,0,n)) (push a (.cells arr e)) (.slice nm 0 0 len sz (some c)) (.slice (some ⟨b,0,none⟩) len c):=by
 subst d;have:len * sz<=c * sz:=zU _ hlen;simp only [Rel];exact ⟨a.heap.size,0,n,0,c,e,arr.size,_,qde _ _ _ _,rfl,.inr rfl,hlen,zN _,by omega,.inl rfl,(λk f=>by cases f;exact ⟨rfl,by omega⟩),qpf,by omega⟩
theorem qvc {α:Type} (n:Nat) (l:List α):(List.replicate n l).flatten.length=n * l.length:=by
 simp
theorem qr2 (place:Nat->Option (Nat×Nat)):∀ (parts:List (Nat×V)) (cells cs:List V),qds place cells parts=some cs->cs.length=cells.length
 | [],cells,cs,h=>by simp only [qds,zS] at h;rw [h]
 | (i,v)::parts,cells,cs,h=>by
  simp only [qds] at h;split at h
  .cases h
  .rename_i off a b;simp only [cond_eq_ite,zA,Nat.beq_eq,Nat.ble_eq] at h;split at h
   .rename_i c;rw [qr2 place parts _ cs h,qdb (by omega)]
   .cases h
theorem qzu (v:Sim H G w) (e:SimFr G w fr a) {t j:TypeId} {len:Nat} {ti b:TI} (B:typeOf P t=some ti) (hu:ti.under=.slice j) (c:typeOf P j=some b) {parts:Array (Nat×Operand)} (y:o.op=.buildSlice t len parts) {vs cs:List V}
  (C:qay fr H (parts.toList.map (·.2))=some vs) (K:len * b.size<=16777216) (h:qds (λi=>some (i * b.size,b.size)) (List.replicate len b.zero.cells).flatten ((parts.toList.map (·.1)).zip vs)=some cs) :
  ka P o a H G w (z5 H cs j) (.val (.slice H.next 0 0 len b.size (some len))):=by
 obtain ⟨z,D,g,E⟩:=qbc c w;have k:z.cells.size=b.size:=by
  obtain ⟨_,_,i,L,hi,_,_,p,_,_,F⟩:=qm c;rw [hi] at g;simp only [zB,p,zS] at g;rw [<-g];exact F
 have l:P.underlying t=some (.slice j):=hu ▸ (qm B).1;obtain ⟨I,J⟩:=quq v e C;have m:=qrh (qc3 (E G w)) len;rw [k] at m;obtain ⟨q,r,A⟩:=qls _ _ _ _ _ _ m I J h;have d:=v.newRow A [] j true (λ_=>rfl);simp only [zJ,Array.toArray_toList] at d;have f:cs.length=len * b.size:=by
  rw [qr2 _ _ _ _ h,qvc,(qm c).2.2.choose_spec.choose_spec.2.2.2.2.2.1]
 refine ⟨.slice (some ⟨w.heap.size,0,none⟩) len len,_,_,?_,d,?_⟩
 .have s:¬ (len * b.size > 2 ^ 24):=by omega
  by_cases u:len * b.size=0
  .have n:Instr.fill (λi=>some (i * b.size,b.size)) #[] (Array.map (λ(x:Nat×Operand)=>(x.1,a.eval x.2)) parts).toList=some q:=by
    rw [u,Array.range_zero'] at r;simpa using r
   simp only [Array.toList_map] at n;simp [execOp,y,Instr.buildSlice,run_underlying l,z7 c,u,n,qmg,Array.range_zero']
  .simp only [execOp,y,Sem.run_bind,Instr.buildSlice,run_underlying l,Result.andThen_ok,z7 c,s,if_false,u,D,Sem.run_pure,k,r,qmg]
 .have:=A.length;exact qs3 rfl (zN _) f.symm (by simpa [f] using this.symm)
end
end Go.E2
/- E2: single operations against the model's, seventh part. -/
namespace Go.E2
open Go
section
variable {P:Program} {o:Oper} {a:Act} {H:Heap} {G:qj} {w:World} {fr:Fr}
theorem zc9 {d:TypeId} {e:TI} (b:typeOf P d=some e) {z:Value} (a:(P.info? d).bind (·.zero)=some z):z.cells.size=e.size:=by
 obtain ⟨_,_,i,g,hi,_,_,c,_,_,f⟩:=qm b;rw [hi] at a;simp only [zB,c,zS] at a;rw [<-a];exact f
theorem q3q (r:Sim H G w) (e:SimFr G w fr a) {t h:TypeId} {ti f:TI} (K:typeOf P t=some ti) (hu:ti.under=.slice h) (b:typeOf P h=some f) {x y:Operand} (B:o.op=.makeSlice t x y) {l c:Int}
  (L:opd fr H x=some (.int .i64 l)) (M:opd fr H y=some (.int .i64 c)) (T:0<=l) (N:l<=c) (C:c * (f.bytes:Int)<=281474976710656) (U:c<=281474976710656) :
  ka P o a H G w (z5 H (List.replicate c.toNat f.zero.cells).flatten h) (.val (.slice H.next 0 0 l.toNat f.size (some c.toNat))):=by
 obtain ⟨z,O,s,Q⟩:=qbc b w;have j:=zc9 b s;have k:P.underlying t=some (.slice h):=hu ▸ (qm K).1;have u:=qq r e L;have v:=qq r e M;simp only [Rel] at u v;have m:=qrh (qc3 (Q G w)) c.toNat
 rw [j] at m;have d:=r.newRow m [] h true (λ_=>rfl);simp only [zJ,Array.toArray_toList] at d;have A:f.zero.cells.length=f.size:=(qm b).2.2.choose_spec.choose_spec.2.2.2.2.2.1;have g:(List.replicate c.toNat f.zero.cells).flatten.length=c.toNat * f.size:=by rw [qvc,A]
 obtain ⟨_,_,i,V,hi,_,n,_⟩:=qm b;have p:IntKind.i64.wrap l=l:=IntWalk.i64_in _ (by omega);have q:IntKind.i64.wrap c=c:=IntWalk.i64_in _ (by omega);have R:(i.bytes:Int) * l<=281474976710656:=by
  have:(i.bytes:Int) * l<=(i.bytes:Int) * c:=Int.mul_le_mul_of_nonneg_left N (by omega);rw [n] at this ⊢;rw [Int.mul_comm] at C;omega
 have S:(i.bytes:Int) * c<=281474976710656:=by rw [n,Int.mul_comm];exact C
 refine ⟨.slice (some ⟨w.heap.size,0,none⟩) l.toNat c.toNat,_,_,?_,d,?_⟩
 .have D:¬ (c<0):=by omega
  have E:¬ (281474976710656<(i.bytes:Int) * c):=by omega
  have F:¬ (l<0):=by omega
  have I:¬ (c<l):=by omega
  by_cases J:c.toNat * f.size=0
  .simp [execOp,B,Instr.makeSlice,run_underlying k,u,v,asInt,asIntOf,typeInfo,hi,p,q,D,E,F,I,z7 b,J,qmg,Array.range_zero']
  .simp [execOp,B,Instr.makeSlice,run_underlying k,u,v,asInt,asIntOf,typeInfo,hi,p,q,D,E,F,I,z7 b,J,qmg,O,j]
 .exact qs3 rfl (by omega) g.symm (by rw [g];simp)
theorem qwl {c:Go.Call} {x:V} (b:qn G w [x] (c.args.map a.eval).toList):∃ rx,c.args.map a.eval = #[rx]/\Rel G w x rx:=by
 obtain ⟨rx,f,d,e,rfl⟩:=b;exact ⟨rx,by apply Array.ext';simpa using d,e⟩
theorem qtg {c:Go.Call} {x y:V} (d:qn G w [x,y] (c.args.map a.eval).toList):∃ rx b,c.args.map a.eval = #[rx,b]/\Rel G w x rx/\Rel G w y b:=by
 obtain ⟨rx,h,e,f,b,i,rfl,g,rfl⟩:=d;exact ⟨rx,b,by apply Array.ext';simpa using e,f,g⟩
theorem qzc {α:Type} {x:Array α} {l:List α} (h:x.toList=l):x=l.toArray:=by apply Array.ext';simpa using h
theorem qum (g:Sim H G w) (e:SimFr G w fr a) {c:Go.Call} (i:o.op=.call c) (j:c.callee=.builtin .len) {x:V} {t:TypeId} {n:Nat} (b:qay fr H c.args.toList=some [x]) (f:c.argTypes.toList=[t])
  (d:∀ rx,Rel G w x rx->∀ ty,(Builtin.len_ #[t] ty #[rx]).run P w=.ok (goInt n) w):ka P o a H G w H (.val (qcn n)):=by
 obtain ⟨k,cs,h⟩:=qcf g e i j b (P:=P);obtain ⟨rx,l,m⟩:=qwl k;rw [l,qzc f] at h;refine ka.pure g (x:=goInt n) ?_ (by simp [qcn,goInt,Rel]);rw [h];simp only [builtin,Sem.run_bind,d rx m,Result.andThen_ok,Sem.run_pure]
theorem q1b (m:Sim H G w) (e:SimFr G w fr a) {c:Go.Call} (p:o.op=.call c) (q:c.callee=.builtin .append) {s x v:V} {H':Heap} {t u d:TypeId} {ti f g:TI} (b:qay fr H c.args.toList=some [s,x]) (i:c.argTypes.toList=[t,u])
  (r:typeOf P t=some ti) (hu:typeOf P u=some f) (j:ti.under=.slice d) (k:(∃ y,f.under=.slice y)∨f.under=.string) (l:typeOf P d=some g) (h:kv H d g.size g.bytes s x=some (v,H')):ka P o a H G w H' (.val v):=by
 obtain ⟨z,cs,n⟩:=qcf m e p q b (P:=P);obtain ⟨rx,K,A,B,C⟩:=qtg z;rw [A,qzc i] at n;obtain ⟨D,w',E,F,I,J⟩:=qd8 (ty:=o.type) m (j ▸ (qm r).1) (qm hu).1 k l B C h;refine ⟨D,w',E,?_,I,J⟩;rw [n];simp only [builtin,Sem.run_bind,F,Result.andThen_ok,Sem.run_pure]
theorem qlm {G:qj} {w:World}:∀ {cs:List V} {l:List UInt8} {d:List Value},qn G w cs d->qc6 cs=some l->d=l.map λb=>Value.int .u8 b.toNat
 | [],l,d,c,h=>by
  simp only [qn] at c;simp only [qc6,zS] at h;subst h;subst c;rfl
 | v::cs,l,d,c,h=>by
  simp only [qn] at c;obtain ⟨x,i,rfl,e,f⟩:=c;unfold qc6 at h;split at h
  .rename_i a;cases a
  .rename_i n vs a;cases a;split at h
   .rename_i j;simp only [zM] at h;obtain ⟨k,g,rfl⟩:=h;simp only [Rel] at e;subst e;rw [qlm f g];simp only [List.map_cons,List.cons.injEq,Value.int.injEq,true_and,and_true];rw [UInt8.toNat_ofNat'];omega
   .cases h
  .cases h
theorem qi4 {w:World} {b a:Nat} {n:Nat} (h:a≠b):(w.freeze ⟨b,0,none⟩ n).heap[a]? = w.heap[a]?:=by
 unfold World.freeze;split
 .rfl
 .grind
theorem zco {l:List UInt8} {n:Int} (h:l.length=n.toNat) (b:0<n):l≠[]:=by
 intro a;subst a;simp at h;omega
theorem zia {l:List UInt8} {n:Int} (h:l.length=n.toNat) (a:0<n):n=(l.length:Int):=by omega
theorem zck {l:List UInt8} {n:Int} (h:l.length=n.toNat) (a:n<=140737488355328):l.length<=9223372036854775807:=by omega
theorem toNat_ne {n:Int} (a:0<n):n.toNat≠0:=by omega
theorem zex {n m k:Nat} {a b:Nat} (c:a=n) (d:n<=m) (e:m-0<=k) (f:b=a):b<=k:=by omega
theorem Sim.freeze (j:Sim H G w) {nm g b n:Nat} {cells:List V} {elem:TypeId} {floor q:Nat} {exact:Bool}
  (J:H.get nm=some (.row cells elem g floor q exact)) (u:G nm g=some (b,0,n)) (z:H.ro<=nm) {arr:Array Value} {A:Nat×Nat} (B:w.heap[b]? = some (.cells arr elem A)) {m:Nat} (hm:m≠0) :
  Step H G w {H with qbu:=H.qbu.set nm (.row cells elem g floor (max q m) exact)} G (w.freeze ⟨b,0,none⟩ m):=by
 obtain ⟨N,O,P⟩:=j.obj nm _ (j.lt _ _ _ _ _ u).2 J;have r:(w.freeze ⟨b,0,none⟩ m).heap.size=w.heap.size:=by unfold World.freeze;split<;>simp
 have Q:∃ d,(w.freeze ⟨b,0,none⟩ m).heap[b]? = some (.cells arr elem d)/\∀ i,m<=i->i<d.2->i<A.2:=by
  unfold World.freeze;rw [zF hm];obtain ⟨lo,hi⟩:=A;refine ⟨if (lo == hi)=true then (0,0+m) else (min lo 0,max hi (0+m)),by simp only [Array.getElem?_modify,if_true,B,zH],λi v k=>?_⟩;split at k
  .grind
  .grind
 obtain ⟨d,s,C⟩:=Q;refine j.turn nm _ (λm=>qwf m) (zN _) (λ_ h _=>h) rfl rfl z (j.lt _ _ _ _ _ u).2 (.inr (by rw [J];simp)) (λ_ _ _ h=>h) (λ_ _ _ h _=>h) (by rw [r];exact zN _)
  (λK p l L a=>⟨by rw [r];exact (j.lt _ _ _ _ _ a).1,.inr ⟨_,_,a⟩⟩) (λ_ _ _ _ _ _ _ v k _=>(j.inj _ _ _ _ _ _ _ _ _ v k).2) (λp R D=>qi4 (λe=>D g 0 n (e ▸ u))) ?_ ?_ (by unfold World.freeze;split<;>exact ⟨rfl,rfl⟩)
 .intro p x y;by_cases c:p=b
  .subst c;simp only [World.shape?,B,s] at y ⊢;exact y
  .simp only [World.shape?,qi4 c] at y ⊢;exact y
 .intro f;refine ⟨N,O,λK p l L a=>?_⟩;obtain ⟨S,T,U,W,E,X⟩:=P K p l L a;refine ⟨S,T,U,W,E,λF=>?_⟩;obtain ⟨t,I,t1,t2,t3,t4,M⟩:=X F;by_cases c:p=b
  .subst c;have Y:(0:Nat)=l:=(j.inj _ _ _ _ _ _ _ _ _ u a).2;rw [B] at t1;cases t1;exact ⟨arr,d,s,t2,jd.ext f t3,λo i v k=>t4 o i (by omega) (C i (by omega) k),M⟩
  .exact ⟨t,I,(qi4 c).trans t1,t2,jd.ext f t3,λo i v k=>t4 o i (by omega) k,M⟩
theorem qwb (s:Sim H G w) (e:SimFr G w fr a) {c:Go.Call} (Z:o.op=.call c) (hc:c.callee=.builtin .unsafeString) {nm g lim:Nat} {n:Int} {A it elem:TypeId} {ti R:TI} {cells:List V} {floor t:Nat} {exact:Bool}
  (k:qay fr H c.args.toList=some [.ptr nm g 0 lim,.int .i64 n]) (B:c.argTypes.toList=[A,it]) (ht:typeOf P A=some ti) (C:ti.under=.pointer elem) (D:typeOf P elem=some R) (E:R.size=1)
  (p:H.get nm=some (.row cells elem g floor t exact)) (q:0<n) (F:n<=140737488355328) {cs:List V} (d:zq H n.toNat (.ptr nm g 0 lim)=some cs) {l:List UInt8} (hl:qc6 cs=some l) {H':Heap} (hu:H.upd nm (.row cells elem g floor (max t n.toNat) exact)=some H') :
  ka P o a H G w H' (.val (.str l)):=by
 obtain ⟨hr,a0,S⟩:=qcf s e Z hc k (P:=P);obtain ⟨rx,ry,h1,T,h3⟩:=qtg hr;rw [h1,qzc B] at S;obtain ⟨ad,rl,U,hh,u,W⟩:=qht s T d;obtain ⟨b,sh,m,I,q1,q2,X⟩:=T;subst h3;have J:sh=0:=by omega
 subst J;rw [X] at U;cases U;obtain ⟨u1,rfl⟩:=qgn hu;obtain ⟨p1,p0,p2⟩:=s.obj nm _ (s.lt _ _ _ _ _ I).2 p;obtain ⟨_,_,_,_,_,p5⟩:=p2 g b 0 m I;obtain ⟨r,fz,Y,a2,_,_,_⟩:=p5 p1;have h:=qlm u hl;have f:l.length=n.toNat:=by
  have:=u.length;rw [h,List.length_map] at this;omega
 have v:w.shape? b=some (elem,r.size):=by simp only [World.shape?,Y]
 have K:P.cellsOf elem=1:=by
  obtain ⟨_,_,i,z,hi,L,_⟩:=qm D;simp [Program.cellsOf,hi,L,E]
 have M:n.toNat<=m:=by
  simp only [zq,p,cond_eq_ite,zA,Nat.ble_eq] at d;split at d
  .grind
  .cases d
 have N:l.length<=r.size:=zex rfl M a2 f;have O:l≠[]:=zco f q;have Q:(n:Int)=(l.length:Int):=zia f q;have y:=Lib.run_unsafeString_row (P:=P) w A it o.type elem (C ▸ (qm ht).1) K b r.size v l O N (zck f F) (λj x hj=>by
  have:=hh j (.int .u8 x.toNat) (by rw [h];simp [hj]);exact this)
 refine ⟨.string ⟨l.toArray⟩,_,G,?_,s.freeze p I u1 Y (m:=n.toNat) (toNat_ne q),by simp only [Rel]⟩;rw [S,X,Q];simp only [builtin,Sem.run_bind,y,Result.andThen_ok,Sem.run_pure,Nat.sub_zero];rfl
theorem qq9 (f:Sim H G w) (e:SimFr G w fr a) {c:Go.Call} (h:o.op=.call c) (i:c.callee=.builtin .unsafeString) {j it:TypeId}
  (b:qay fr H c.args.toList=some [.nilp,.int .i64 0]) (d:c.argTypes.toList=[j,it]):ka P o a H G w H (.val (.str [])):=by
 obtain ⟨k,l,g⟩:=qcf f e h i b (P:=P);obtain ⟨rx,q,m,n,p⟩:=qtg k;rw [m,qzc d] at g;subst n;subst p;refine ka.pure f (x:=.string .empty) ?_ (by simp only [Rel];rfl);rw [g];simp only [builtin,Sem.run_bind,Lib.run_unsafeString_none,Result.andThen_ok,Sem.run_pure]
theorem q3n (z:Sim H G w) (e:SimFr G w fr a) {src dst i:TypeId} {M N O:TI} (B:typeOf P src=some M) (C:typeOf P dst=some N) (D:typeOf P i=some O) (E:M.under=.slice i) (F:O.under=.int .u8)
  (I:N.under=.string) {x:Operand} (R:o.op=.convert src dst x) {p:V} (S:opd fr H x=some p) (T:∀ s,p≠.str s) {r:Nat×List V} (A:km H 1 p=some r) {l:List UInt8} (J:qc6 r.2=some l):ka P o a H G w H (.val (.str l)):=by
 have d:=qq z e S;have j:P.underlying src=some (.slice i):=E ▸ (qm B).1;have q:P.underlying dst=some .string:=I ▸ (qm C).1;have t:P.underlying i=some (.int .u8):=F ▸ (qm D).1;obtain ⟨n,cs⟩:=r;have f:execOp a.eval o=(do let v <-convert src dst (a.eval x);pure (.value v)):=by simp only [execOp,R]
 generalize a.eval x=rx at d f;obtain ⟨Z,U,h2,W⟩:=qjp z d A;have Q:=(W w rfl).2;have K:=qlm U J;cases p with
 | str s=>grind
 | nils=>
  simp only [Rel] at d;obtain ⟨rfl,rfl⟩:=A;simp only [qc6,zS] at J;subst J;refine ka.pure z (x:=.string .empty) ?_ (by simp only [Rel];rfl);simp only [f,Sem.run_bind,d,run_convert_bytes_nil w src i j t 0 0 dst q,Result.andThen_ok,Sem.run_pure]
 | slice nm g off len sz cap=>
  have h:=d;obtain ⟨b,sh,m,ro,c,e',k,ad,e1,X,_⟩:=h;subst X;have u:n=len:=qqx A;subst u;have L:(loadCells ad n).run P w=.ok ((l.map λx=>(x.toNat:Int)).map (Value.int .u8)).toArray w:=by
   simp only [Builtin.firstCells,Nat.mul_one] at Q;rw [Q,K];simp [List.map_map]
  have y:(⟨ByteArray.empty.data++((l.map λx=>(x.toNat:Int)).map λn=>UInt8.ofNat n.toNat).toArray⟩:ByteArray)=⟨l.toArray⟩:=by
   apply ByteArray.ext;have Y:(l.map λx=>(x.toNat:Int)).map (λn=>UInt8.ofNat n.toNat)=l:=by
    rw [List.map_map]
    conv=>rhs;rw [<-List.map_id l]
    refine List.map_congr_left λx _=>?_;simp
   rw [Y];simp
  refine ka.pure z (x:=.string ⟨l.toArray⟩) ?_ (by simp only [Rel]);simp only [f,Sem.run_bind,run_convert_bytes_string w src dst i _ _ _ j t q,run_bytesToString w _ _ _ _ L,Result.andThen_ok,Sem.run_pure,foldl_push_bytes,y]
 | _=>simp [km,V.qb2,qcj] at A
end
end Go.E2
/- E2: single operations on maps against the model's. -/
namespace Go.E2
open Go
section
variable {P:Program} {o:Oper} {a:Act} {H:Heap} {G:qj} {w:World} {fr:Fr}
theorem qtv (x y:List UInt8):((⟨x.toArray⟩:ByteArray) == ⟨y.toArray⟩)=(x == y):=by
 have a:((⟨x.toArray⟩:ByteArray) == ⟨y.toArray⟩)=(x.toArray == y.toArray):=rfl;rw [a,Bool.eq_iff_iff,beq_iff_eq,beq_iff_eq];exact ⟨λh=>by simpa using congrArg Array.toList h,λh=>by rw [h]⟩
theorem qql {f:TypeDesc} {x y:V} {rx c:Value} (d:Rel G w x rx) (e:Rel G w y c) {b:Bool} (h:qjk f x y=some b):Instr.sameNow f rx c=some b/\(b=true->c=rx/\Instr.sameBits 10000 c rx=true):=by
 unfold qjk at h;split at h
 .rename_i k i l j;subst d;subst e;split at h
  .rename_i g;subst g;cases h;refine ⟨by simp [Instr.sameNow],λa=>?_⟩;simp only [beq_iff_eq] at a;subst a;exact ⟨rfl,by simp [Instr.sameBits]⟩
  .cases h
 .rename_i s t;subst d;subst e;cases h;refine ⟨by simp only [Instr.sameNow,qtv],λa=>?_⟩;simp only [beq_iff_eq] at a;subst a;exact ⟨rfl,by simp [Instr.sameBits,qtv]⟩
 .rename_i s t;subst d;subst e;cases h;refine ⟨by simp [Instr.sameNow],λa=>?_⟩;simp only [beq_iff_eq] at a;subst a;exact ⟨rfl,by simp [Instr.sameBits]⟩
 .cases h
theorem qfs {g:TypeDesc} {k:V} {c:Value} (m:Rel G w k c):∀ (d:List (V×V×Nat)) (l:List MapEntry) (i:Nat) (r:Option (Nat×V)),qa2 G w d l->qne g k d i=some r->
  (r=none/\Instr.findNow g c l i=some none)∨∃ j v x e,r=some (j,v)/\Instr.findNow g c l i=some (some (j,x))/\Rel G w v x/\i<=j/\l[j-i]? = some e/\Instr.sameBits 10000 e.key c=true
 | [],l,i,r,a,h=>by
  simp only [qa2] at a;subst a;simp only [qne,zS] at h;subst h;exact .inl ⟨rfl,rfl⟩
 | (E,v,b)::d,l,i,r,a,h=>by
  simp only [qa2] at a;obtain ⟨e,t,rfl,q,u,_,y⟩:=a;simp only [qne] at h;split at h
  .rename_i n;cases h;obtain ⟨f,s⟩:=qql m q n;refine .inr ⟨i,v,e.val,e,rfl,by simp only [Instr.findNow,f],u,zN _,by simp,(s rfl).1 ▸ (s rfl).2⟩
  .rename_i n;obtain ⟨f,_⟩:=qql m q n;rcases qfs m d t (i+1) r y h with ⟨o,p⟩ | ⟨j,z,x,A,o,p,B,F,C,D⟩
   .exact .inl ⟨o,by simp only [Instr.findNow,f];exact p⟩
   .refine .inr ⟨j,z,x,A,o,by simp only [Instr.findNow,f];exact p,B,by omega,?_,D⟩;rw [show j-i=(j-(i+1))+1 by omega,List.getElem?_cons_succ];exact C
  .cases h
theorem run_checkKey {b:TypeId} {a:TypeDesc} (hu:P.underlying b=some a) (c:plainKey a=true) (e:Bool) (n:Nat) (v:Value):(Instr.checkKey e (n+1) b v).run P w=.ok () w:=by
 cases a<;>simp [plainKey] at c<;>simp [Instr.checkKey,run_underlying hu]
theorem run_findKey {a:TypeId} {b:TypeDesc} (hu:P.underlying a=some b) {c:Value} {l:List MapEntry} {r:Option (Nat×Value)} (h:Instr.findNow b c l 0=some r):(Instr.findKey a c l).run P w=.ok r w:=by
 simp [Instr.findKey,run_underlying hu,h]
theorem qf6:∀ {f g:List V} {l e:List Value} (n:Nat),qhh f g=true->qn G w f l->qn G w g e->e.length=l.length/\((e.zip l).all λ(x,y)=>Instr.sameBits n x y)=true
 | [],[],l,e,n,_,c,d=>by
  simp only [qn] at c d;subst c;subst d;exact ⟨rfl,rfl⟩
 | .int k a::f,.int p b::g,l,e,n,h,c,d=>by
  simp only [qhh,zA,decide_eq_true_eq,beq_iff_eq] at h;obtain ⟨⟨rfl,rfl⟩,h⟩:=h;simp only [qn,Rel] at c d;obtain ⟨x,i,rfl,rfl,c⟩:=c;obtain ⟨y,j,rfl,rfl,d⟩:=d;obtain ⟨m,o⟩:=qf6 n h c d;exact ⟨by simp [m],by simp only [List.zip_cons_cons,List.all_cons,o,Bool.and_true];simp [Instr.sameBits]⟩
 | .bool a::f,.bool b::g,l,e,n,h,c,d=>by
  simp only [qhh,zA,beq_iff_eq] at h;obtain ⟨rfl,h⟩:=h;simp only [qn,Rel] at c d;obtain ⟨x,i,rfl,rfl,c⟩:=c;obtain ⟨y,j,rfl,rfl,d⟩:=d;obtain ⟨m,o⟩:=qf6 n h c d;exact ⟨by simp [m],by simp only [List.zip_cons_cons,List.all_cons,o,Bool.and_true];simp [Instr.sameBits]⟩
 | .str a::f,.str b::g,l,e,n,h,c,d=>by
  simp only [qhh,zA,beq_iff_eq] at h;obtain ⟨rfl,h⟩:=h;simp only [qn,Rel] at c d;obtain ⟨x,i,rfl,rfl,c⟩:=c;obtain ⟨y,j,rfl,rfl,d⟩:=d;obtain ⟨m,o⟩:=qf6 n h c d;exact ⟨by simp [m],by simp only [List.zip_cons_cons,List.all_cons,o,Bool.and_true];simp [Instr.sameBits,qtv]⟩
theorem qmo {n:Nat} {e:Bool} {cs:List V} {a:Array Value} (b:qn G w cs a.toList) (w':World):∀ (d:List Field),(d.all λf=>match typeOf P f.type with
 | some fi=>plainKey fi.under&&(qjy fi cs f.offset).isSome
 | none=>false)=true->(forIn d PUnit.unit (λf _=>if f.name≠ "_" then (do
   let v <-part f.type a f.offset
   Instr.checkKey e (n+1) f.type v
   pure (ForInStep.yield PUnit.unit)) else pure (ForInStep.yield PUnit.unit)):Sem PUnit).run P w'=.ok PUnit.unit w'
 | [],_=>by simp
 | f::d,h=>by
  simp only [List.all_cons,zA] at h;obtain ⟨g,k⟩:=h;have i:=qmo (n:=n) (e:=e) b w' d k;split at g
  .rename_i fi c;simp only [zA,Option.isSome_iff_exists] at g;obtain ⟨l,v,m⟩:=g;obtain ⟨y,o,_⟩:=qjg c b m;have p:=run_checkKey (w:=w') (qm c).1 l e n y;simp only [List.forIn_cons,Sem.run_bind];by_cases j:f.name = "_"
   .simp only [j,ne_eq,not_true_eq_false,if_false,Sem.run_pure,Result.andThen_ok];exact i
   .simp only [j,ne_eq,not_false_eq_true,if_true,Sem.run_bind,o,p,Sem.run_pure,Result.andThen_ok];exact i
  .cases g
theorem qvb {sp:Nat->Option (List V->Heap->Option (CR×Heap))} {c:TypeId} {ks:List V} {a:Array Value} (n:qn G w ks a.toList):∀ (k:List (V×V×Nat)) (l:List MapEntry) (i:Nat) (r:Option (Nat×V)),qa2 G w k l->q5j (qw P sp) c ks k i=some r->
  (r=none/\(Instr.findAsking c (.agg a) l i).run P w=.ok none w)∨∃ j v x e,r=some (j,v)/\(Instr.findAsking c (.agg a) l i).run P w=.ok (some (j,x)) w/\Rel G w v x/\i<=j/\l[j-i]? = some e/\Instr.sameBits 10000 e.key (.agg a)=true
 | [],l,i,r,f,h=>by
  simp only [qa2] at f;subst f;simp only [q5j,zS] at h;subst h;exact .inl ⟨rfl,by simp [Instr.findAsking]⟩
 | (J,v,b)::k,l,i,r,f,h=>by
  simp only [qa2] at f;obtain ⟨e,y,rfl,d,z,_,A⟩:=f;have g:Rel G w (.agg ks) (.agg a):=by simp only [Rel];exact ⟨_,rfl,n⟩
  simp only [q5j] at h;split at h
  .rename_i o;have m:(Op.equal c (.agg a) e.key).run P w=.ok true w:=qna (E:=qw P sp) rfl rfl 1000 Op.maxDepth c _ _ _ _ true (by simp [Op.maxDepth]) o g d w;split at h
   .rename_i K;rw [cond_eq_ite] at h;split at h
    .rename_i p;cases h;simp only [Rel] at d;obtain ⟨L,q,d⟩:=d;obtain ⟨u,B⟩:=qf6 9999 p n d;refine .inr ⟨i,v,e.val,e,rfl,by simp only [Instr.findAsking,Sem.run_bind,m,Result.andThen_ok,if_true,Sem.run_pure],z,zN _,by simp,?_⟩;rw [q];simp only [Array.length_toList] at u;simp only [Instr.sameBits,u,B,beq_self_eq_true,Bool.and_self]
    .cases h
   .cases h
  .rename_i o;have m:(Op.equal c (.agg a) e.key).run P w=.ok false w:=qna (E:=qw P sp) rfl rfl 1000 Op.maxDepth c _ _ _ _ false (by simp [Op.maxDepth]) o g d w;rcases qvb n k y (i+1) r A h with ⟨s,t⟩ | ⟨j,C,x,D,s,t,F,M,H,I⟩
   .exact .inl ⟨s,by simp only [Instr.findAsking,Sem.run_bind,m,Result.andThen_ok,Bool.false_eq_true,if_false];exact t⟩
   .refine .inr ⟨j,C,x,D,s,by simp only [Instr.findAsking,Sem.run_bind,m,Result.andThen_ok,Bool.false_eq_true,if_false];exact t,F,by omega,?_,I⟩;rw [show j-i=(j-(i+1))+1 by omega,List.getElem?_cons_succ];exact H
  .cases h
theorem qxv {sp:Nat->Option (List V->Heap->Option (CR×Heap))} {a:TypeId} {y:TypeDesc} (hu:P.underlying a=some y) {k:V} {d:Value} (f:Rel G w k d) {es:List (V×V×Nat)} {l:List MapEntry} {r:Option (Nat×V)} (hm:qa2 G w es l) (h:qi1 (qw P sp) a y k es=some r) :
  (∀ e,(Instr.checkKey e 10000 a d).run P w=.ok () w)/\((r=none/\(Instr.findKey a d l).run P w=.ok none w)∨∃ j v x e,r=some (j,v)/\(Instr.findKey a d l).run P w=.ok (some (j,x)) w/\Rel G w v x/\l[j]? = some e/\Instr.sameBits 10000 e.key d=true):=by
 unfold qi1 at h;rw [cond_eq_ite] at h;split at h
 .rename_i z;refine ⟨λe=>run_checkKey hu z e 9999 d,?_⟩;rcases qfs f es l 0 r hm h with ⟨b,c⟩ | ⟨j,m,x,o,b,c,p,A,q,s⟩
  .exact .inl ⟨b,run_findKey hu c⟩
  .exact .inr ⟨j,m,x,o,b,run_findKey hu c,p,by simpa using q,s⟩
 .split at h
  .rename_i B cs _;rw [cond_eq_ite] at h;split at h
   .rename_i t;simp only [Rel] at f;obtain ⟨g,rfl,f⟩:=f;refine ⟨λe=>?_,?_⟩
    .rw [show (10000:Nat)=9998+1+1 from rfl,Instr.checkKey];simp only [Sem.run_bind,run_underlying hu,Result.andThen_ok];rw [<-Array.forIn_toList];have:=qmo (P:=P) (n:=9998) (e:=e) f w B.toList t;rw [this];rfl
    .have i:∀ x,(Instr.findAsking a (.agg g) l 0).run P w=.ok x w->(Instr.findKey a (.agg g) l).run P w=.ok x w:=by
      intro x u;cases l with
      | nil=>
       have C:x=none:=by
        simp [Instr.findAsking] at u;exact u.symm
       subst C;simp [Instr.findKey,run_underlying hu,Instr.findNow]
      | cons e l=>
       simp only [Instr.findKey,Sem.run_bind,run_underlying hu,Result.andThen_ok,Instr.findNow,Instr.sameNow];exact u
     rcases qvb f es l 0 r hm h with ⟨b,c⟩ | ⟨j,m,x,o,b,c,p,A,q,s⟩
     .exact .inl ⟨b,i _ c⟩
     .exact .inr ⟨j,m,x,o,b,i _ c,p,by simpa using q,s⟩
   .cases h
  .cases h
theorem qyk (f:Sim H G w) (e:SimFr G w fr a) {t l m:TypeId} {ti:TI} (s:typeOf P t=some ti) (h:ti.under=.map l m) {r:Option Operand} (p:o.op=.makeMap t r) (u:∀ x,r=some x->∃ k n,opd fr H x=some (.int k n)) :
  ka P o a H G w (H.new (.map [] 0)) (.val (.map H.next)):=by
 have i:P.underlying t=some (.map l m):=h ▸ (qm s).1;have c:=f.new (.map [] 0) (.map #[] 0) 0 (λ_ g b sh n d=>by
  simp only [qgp] at d;by_cases j:g=0
  .rw [zT ⟨trivial,j⟩] at d;cases d;exact ⟨j,#[],qb4 _ _,by simp [qa2]⟩
  .rw [zF (λx=>j x.2),f.fresh] at d;cases d)
 refine ⟨.map (some w.heap.size),_,_,?_,c,?_⟩
 .cases r with
  | none=>simp [execOp,p,Instr.makeMap];rfl
  | some x=>
   obtain ⟨k,n,v⟩:=u x rfl;have q:=qq f e v;simp only [Rel] at q;simp [execOp,p,Instr.makeMap,q,run_underlying i,asInt,asIntOf];rfl
 .simp only [Rel];exact ⟨w.heap.size,0,0,qde _ _ _ _,rfl⟩
theorem zcq {sp:Nat->Option (List V->Heap->Option (CR×Heap))} (B:Sim H G w) (e:SimFr G w fr a) {t f O:TypeId} {ti N D:TI} (ht:typeOf P t=some ti) (Q:ti.under=.map f O) (hk:typeOf P f=some N) (he:typeOf P O=some D) {x y:Operand} {ok:Bool} (ho:o.op=.lookup t x y ok) {m k:V}
  {r:Option (Nat×V)} (h:(match m with
    | .nilm=>qi1 (qw P sp) f N.under k []
    | .map nm=>match H.get nm with
     | some (.map p _)=>qi1 (qw P sp) f N.under k p
     | _=>none
    | _=>none:Option (Option (Nat×V)))=some r) (hx:opd fr H x=some m) (hy:opd fr H y=some k):ka P o a H G w H (match r with
     | some (_,x)=>.val (if ok then .tuple [x,.bool true] else x)
     | none=>.val (if ok then .tuple [D.zero,.bool false] else D.zero)):=by
 have E:P.underlying t=some (.map f O):=Q ▸ (qm ht).1;have R:=(qm hk).1;have S:=qq B e hx;have Z:=qq B e hy;obtain ⟨z,hz,_,F⟩:=qbc he w;obtain ⟨g,I⟩:∃ g,g=a.eval x:=⟨_,rfl⟩;obtain ⟨c,J⟩:∃ c,c=a.eval y:=⟨_,rfl⟩;rw [<-I] at S;rw [<-J] at Z;have K:execOp a.eval o=(do let v <-Instr.lookup t g c ok;pure (.value v)):=by simp only [execOp,ho,I,J]
 have i:∀ (p:List (V×V×Nat)) (d:Array MapEntry),qa2 G w p d.toList->qi1 (qw P sp) f N.under k p=some r->
   (∀ s,(Instr.findKey f c d.toList).run P w=.ok s w->(∀ e,(Instr.checkKey e 10000 f c).run P w=.ok () w)->(Instr.lookup t g c ok).run P w=.ok (match s with
      | some (_,v)=>if ok then .tuple #[v,.bool true] else v
      | none=>if ok then .tuple #[z,.bool false] else z) w)->
   ka P o a H G w H (match r with
     | some (_,x)=>.val (if ok then .tuple [x,.bool true] else x)
     | none=>.val (if ok then .tuple [D.zero,.bool false] else D.zero)):=by
  intro p d hm T l;obtain ⟨C,T⟩:=qxv R Z hm T;rcases T with ⟨rfl,U⟩ | ⟨j,v,x',e',rfl,U,r3,_⟩
  .have W:=l _ U C;refine ka.pure B (x:=if ok then .tuple #[z,.bool false] else z) (by rw [K];simp only [Sem.run_bind,W,Result.andThen_ok,Sem.run_pure]) ?_;cases ok with
   | true=>
    exact ⟨_,rfl,qn.cons (F G w) (qn.cons (by simp only [Rel]) qn.nil)⟩
   | false=>exact F G w
  .have W:=l _ U C;refine ka.pure B (x:=if ok then .tuple #[x',.bool true] else x') (by rw [K];simp only [Sem.run_bind,W,Result.andThen_ok,Sem.run_pure]) ?_;cases ok with
   | true=>
    exact ⟨_,rfl,qn.cons r3 (qn.cons (by simp only [Rel]) qn.nil)⟩
   | false=>exact r3
 cases m with
 | nilm=>
  refine i [] #[] (by simp [qa2]) h (λs u C=>?_);subst S;have A:=C true;have L:(Instr.findKey f c []).run P w=.ok s w:=u;simp only [Instr.lookup,Sem.run_bind,run_underlying E,Result.andThen_ok,Sem.run_pure,A,L,List.isEmpty_toArray,List.isEmpty_nil];cases s with
  | none=>simp_all
  | some q=>simp_all
 | map nm=>
  simp only at h;split at h
  .rename_i p ck X;obtain ⟨b,sh,n,hg,rfl⟩:=S;obtain ⟨_,d,hb,M⟩:=B.obj nm _ (B.lt _ _ _ _ _ hg).2 X 0 b sh n hg;refine i p d M h (λs u C=>?_);have A:=C d.isEmpty;have Y:(getObj b).run P w=.ok (.map d ck) w:=by simp [getObj,Sem.run,hb]
   simp only [Instr.lookup,Sem.run_bind,run_underlying E,Result.andThen_ok,Sem.run_pure,Y,A,u];cases s with
   | none=>simp_all
   | some q=>simp_all
  .cases h
 | _=>cases h
theorem qa2.append {c a:List (V×V×Nat)}:∀ {l b:List MapEntry},qa2 G w c l->qa2 G w a b->qa2 G w (c++a) (l++b):=by
 induction c with
 | nil=>intro l b h d;simp only [qa2] at h;subst h;exact d
 | cons e c f=>
  intro l b h d;obtain ⟨x,g,rfl,i,j,k,m⟩:=h;exact ⟨x,g++b,rfl,i,j,k,f m d⟩
theorem qa2.modify {k x:V} {f rx:Value} (g:Rel G w k f) (j:Rel G w x rx):∀ {a:List (V×V×Nat)} {l:List MapEntry} (i:Nat),qa2 G w a l->qa2 G w (a.modify i λe=>(k,x,e.2.2)) (l.modify i λe=>{e with key:=f,val:=rx})
 | [],l,i,h=>by simp only [qa2] at h;subst h;cases i<;>simp [qa2]
 | (p,v,b)::a,l,0,h=>by
  simp only [qa2] at h;obtain ⟨y,m,rfl,n,o,c,d⟩:=h;simp only [List.modify_zero_cons,qa2];exact ⟨_,m,rfl,g,j,c,d⟩
 | (p,v,b)::a,l,i+1,h=>by
  simp only [qa2] at h;obtain ⟨y,m,rfl,n,o,c,d⟩:=h;simp only [List.modify_succ_cons,qa2];exact ⟨y,_,rfl,n,o,c,qa2.modify g j i d⟩
theorem qid {sp:Nat->Option (List V->Heap->Option (CR×Heap))} (A:Sim H G w) (e:SimFr G w fr a) {t O et:TypeId} {ti ki:TI} (ht:typeOf P t=some ti) (T:ti.under=.map O et) (hk:typeOf P O=some ki) {x y z:Operand} (Q:o.op=.mapUpdate t x y z∨o.op=.insert t x y z) {nm:Nat} {k v:V}
  (hx:opd fr H x=some (.map nm)) (hy:opd fr H y=some k) (hz:opd fr H z=some v) {es:List (V×V×Nat)} {B:Nat} (C:H.get nm=some (.map es B)) {r:Option (Nat×V)} (h:qi1 (qw P sp) O ki.under k es=some r) {H':Heap}
  (hu:(match r with
    | some (i,_)=>H.upd nm (.map (es.modify i λe=>(k,v,e.2.2)) B)
    | none=>H.upd nm (.map (es++[(k,v,B)]) (B+1)))=some H'):ka P o a H G w H' .skip:=by
 have D:P.underlying t=some (.map O et):=T ▸ (qm ht).1;have U:=(qm hk).1;have rm:=qq A e hx;have R:=qq A e hy;have W:=qq A e hz;obtain ⟨c,E⟩:∃ c,c=a.eval y:=⟨_,rfl⟩;obtain ⟨f,F⟩:∃ f,f=a.eval z:=⟨_,rfl⟩;rw [<-E] at R;rw [<-F] at W;obtain ⟨b,sh,n,S,X⟩:=rm;have Y:execOp a.eval o=(do Instr.mapUpdate t (.map (some b)) c f;pure .skip):=by
  rcases Q with Q | Q<;>simp only [execOp,Q,X,E,F]
 have p:=A.obj nm _ (A.lt _ _ _ _ _ S).2 C;obtain ⟨_,l,I,g⟩:=p 0 b sh n S;obtain ⟨hp,hf⟩:=qxv U R g h;have J:=hp false;have K:(getObj b).run P w=.ok (.map l B) w:=by simp [getObj,Sem.run,I]
 have q:∀ Z,(setObj b Z).run P w=.ok () (qmw w b Z):=λZ=>by simp [setObj,Sem.run,I,qmw]
 have a0:w.shape? b=none:=by simp only [World.shape?,I]
 have fin:∀ (s:List (V×V×Nat)) (d:Array MapEntry) (m:Nat),qa2 G w s d.toList->H.upd nm (.map s m)=some H'->(Instr.mapUpdate t (.map (some b)) c f).run P w=.ok () (qmw w b (.map d m))->ka P o a H G w H' .skip:=by
  intro s d m a1 a2 L;obtain ⟨u1,rfl⟩:=qgn a2;refine ⟨qmw w b (.map d m),G,by rw [Y];simp only [Sem.run_bind,L,Result.andThen_ok,Sem.run_pure],A.setObj _ C S u1 _ I a0 (λM g' b' a3 m' u=>?_)⟩;obtain ⟨f0,a5,f1,_⟩:=p g' b' a3 m' u;subst f0;rw [S] at u;cases u;exact ⟨rfl,d,qi5 I,a1.ext M⟩
 rcases hf with ⟨rfl,r2⟩ | ⟨j,v',x',e',rfl,r2,r3,r5,r6⟩
 .refine fin _ (l.push {key:=c,val:=f,born:=B}) _ ?_ hu ?_
  .rw [Array.toList_push];exact g.append (by simp only [qa2];exact ⟨_,[],rfl,R,W,rfl,rfl⟩)
  .simp only [Instr.mapUpdate,Sem.run_bind,run_underlying D,Result.andThen_ok,K,J,r2,q]
 .refine fin _ (l.modify j λe=>{e with key:=c,val:=f}) _ ?_ hu ?_
  .rw [Array.toList_modify];exact qa2.modify R W j g
  .have N:((l[j]?).map (·.key)).getD c=e'.key:=by
    rw [Array.getElem?_toList] at r5;rw [r5];rfl
   have a4:(Instr.keyThatStays e'.key c).run P w=.ok c w:=by
    simp only [Instr.keyThatStays,r6,if_true,Sem.run_pure]
   simp only [Instr.mapUpdate,Sem.run_bind,run_underlying D,Result.andThen_ok,K,J,r2,N,a4,q]
theorem zfp (f:Sim H G w) (e:SimFr G w fr a) {t:TypeId} {ti:TI} (l:typeOf P t=some ti) (h:ti.under=.string) {x:Operand} (m:o.op=.range t x) {s:List UInt8} (p:opd fr H x=some (.str s)) :
  ka P o a H G w (H.new (.siter s 0)) (.val (.ptr H.next 0 0 0)):=by
 have i:P.underlying t=some .string:=h ▸ (qm l).1;have c:=f.new (.siter s 0) (.stringIter ⟨s.toArray⟩ 0) 0 (λ_ g b sh n d=>by
  simp only [qgp] at d;by_cases j:g=0
  .rw [zT ⟨trivial,j⟩] at d;cases d;exact ⟨j,qb4 _ _⟩
  .rw [zF (λx=>j x.2),f.fresh] at d;cases d)
 have k:=qq f e p;simp only [Rel] at k;refine ⟨.pointer (some ⟨w.heap.size,0,none⟩),_,_,?_,c,qys⟩;simp [execOp,m,Instr.range,k,run_underlying i];rfl
theorem zi6 (l:Sim H G w) (e:SimFr G w fr a) {x:Operand} (J:o.op=.next x true) {nm g lim:Nat} (K:opd fr H x=some (.ptr nm g 0 lim)) {s:List UInt8} {pos:Nat} (m:H.get nm=some (.siter s pos)) {out:Out} {H':Heap} (h:q57 H nm s pos=some (out,H')) :
  ka P o a H G w H' out:=by
 have E:=qq l e K;simp only [Rel] at E;obtain ⟨b,sh,n,z,T,_,p⟩:=E;have i:=l.obj nm _ (l.lt _ _ _ _ _ z).2 m;obtain ⟨rfl,q⟩:=i g b sh n z;have A:0-sh=0:=by omega
 rw [A] at p;have r:(getObj b).run P w=.ok (.stringIter ⟨s.toArray⟩ pos) w:=by simp [getObj,Sem.run,q]
 have t:∀ B,(setObj b B).run P w=.ok () (qmw w b B):=λB=>by simp [setObj,Sem.run,q,qmw]
 have C:w.shape? b=none:=by simp only [World.shape?,q]
 have u:(⟨s.toArray⟩:ByteArray).size=s.length:=rfl;have y:execOp a.eval o=(do let v <-Instr.next (.pointer (some ⟨b,0,none⟩)) true o.type;pure (.value v)):=by simp only [execOp,J,p]
 unfold q57 at h;rw [cond_eq_ite] at h;split at h
 .rename_i j;have f:pos<s.length:=by simpa using j
  obtain ⟨⟨c,L⟩,F⟩:∃ d,d=Utf8.decode ⟨s.toArray⟩ pos:=⟨_,rfl⟩;rw [<-F] at h;simp only [zM,zP] at h;obtain ⟨H1,M,rfl,rfl⟩:=h;obtain ⟨N,rfl⟩:=qgn M;refine ⟨.tuple #[.bool true,goInt pos,.int .i32 c],qmw w b (.stringIter ⟨s.toArray⟩ (pos+L)),G,?_,l.setObj _ m z N _ q C (λI O Q D R k=>?_),?_⟩
  .rw [y];simp only [Instr.next,Sem.run_bind,r,Result.andThen_ok,u,f,if_true,<-F,t,Sem.run_pure]
  .obtain ⟨S,U⟩:=i O Q D R k;subst S;rw [z] at k;cases k;exact ⟨rfl,qi5 q⟩
  .simp only [Rel];exact ⟨_,rfl,by simp [qn,Rel,qcn,goInt]⟩
 .rename_i j;have f:¬ pos<s.length:=by simpa using j
  cases h;refine ka.pure l (x:=.tuple #[.bool false]) ?_ (by simp only [Rel];exact ⟨_,rfl,by simp [qn,Rel]⟩);rw [y];simp only [Instr.next,Sem.run_bind,r,Result.andThen_ok,u,f,if_false,Sem.run_pure]
theorem q6f (i:Sim H G w) (e:SimFr G w fr a) {t u:TypeId} {len:Nat} {ti c:TI} (F:typeOf P t=some ti) (hu:ti.under=.array len u) (y:typeOf P u=some c) {x:Operand} {lo hi:Option Operand} (I:o.op=.slice t x lo hi none) {nm g off lim:Nat} {vlo j:Option V} {v:V}
  (J:opd fr H x=some (.ptr nm g off lim)) (K:qhm fr H lo=some vlo) (L:qhm fr H hi=some j) {cells:List V} {elem:TypeId} {gen floor z:Nat} {exact:Bool} (A:H.get nm=some (.row cells elem gen floor z exact)) (B:floor<=g) (D:off+len * c.size<=lim)
  (h:qbe c.size (.slice nm g off len c.size (some len)) vlo j none=some v):ka P o a H G w H (.val v):=by
 have M:=qq i e J;have C:P.underlying t=some (.array len u):=hu ▸ (qm F).1;have N:=qfi i e K;have O:=qfi i e L;obtain ⟨b,sh,n,s,q4,q5,Q⟩:=M;obtain ⟨_,_,q⟩:=i.obj nm _ (i.lt _ _ _ _ _ s).2 A;obtain ⟨_,k2,_,_,_,R⟩:=q g b sh n s;obtain ⟨f,fz,S,a2,_⟩:=R B;have E:w.shape? b=some (elem,f.size):=by simp only [World.shape?,S]
 have m:Nat.beq c.size c.size=true:=by rw [Nat.beq_eq]
 rw [qbe,V.qg4] at h;simp only [qdv,m,Bool.not_true,zQ,Option.getD_some,zH,zI,zM] at h;obtain ⟨p,T,l,U,rfl⟩:=h;obtain ⟨W,X,Y⟩:=qeh (P:=P) (isSlice:=false) (cap:=len) N O T U (zN _) (zN _);have Z:l * c.size<=p * c.size:=zU _ W;have a0:p * c.size<=len * c.size:=zU _ X;have a3:(p-l) * c.size=p * c.size-l * c.size:=Nat.sub_mul _ _ _;have a4:(len-l) * c.size=len * c.size-l * c.size:=Nat.sub_mul _ _ _;have d:∀ k,some (len-l)=some k->len-l=k/\off+l * c.size+k * c.size<=n:=by
  intro k hk;cases hk;exact ⟨rfl,by omega⟩
 refine ka.pure i (x:=.slice (some (if len=l then ⟨b,off-sh,none⟩ else ⟨b,off-sh+l * c.size,none⟩)) (p-l) (len-l)) ?_ ?_
 .simp only [execOp,I,Option.map_none,Sem.run_bind,Q,Instr.sliceAt,run_underlying C,Result.andThen_ok,Instr.sureAddr,Y,z7 y,Sem.run_pure,qev]
 .by_cases r:len=l
  .rw [zT r];exact ⟨b,sh,n,off-sh,len-l,elem,f.size,_,s,rfl,.inr rfl,by omega,by omega,by omega,.inr (by omega),d,E,by omega⟩
  .rw [zF r];simp only [Rel];exact ⟨b,sh,n,off-sh+l * c.size,len-l,elem,f.size,_,s,rfl,.inr rfl,by omega,by omega,by omega,.inl (by omega),d,E,by omega⟩
theorem Rel.shorter {nm g off len sz:Nat} {cap:Option Nat} {ad:Addr} {c m:Nat} (h:Rel G w (.slice nm g off len sz cap) (.slice (some ad) len c)) (hm:m<=len):Rel G w (.slice nm g off m sz cap) (.slice (some ad) m c):=by
 simp only [Rel] at h ⊢;obtain ⟨b,sh,n,ro,r,e,k,a,d,f,i,s,j,t,l,o,p,q⟩:=h;cases f;have:m * sz<=len * sz:=zU _ hm;exact ⟨b,sh,n,ro,c,e,k,ad,d,rfl,i,by omega,j,by omega,l,o,p,q⟩
theorem zi4 (y:Sim H G w) (e:SimFr G w fr a) {c:Go.Call} (U:o.op=.call c) (W:c.callee=.builtin .copy) {t u A:TypeId} {ti h:TI} {nm g off len nm' N i d:Nat} {cap j:Option Nat}
  (l:qay fr H c.args.toList=some [.slice nm g off len h.size cap,.slice nm' N i d h.size j]) (B:c.argTypes.toList=[t,u]) (X:typeOf P t=some ti) (C:ti.under=.slice A) (D:typeOf P A=some h) {r:Nat×List V}
  (Y:km H h.size (.slice nm' N i (min d len) h.size j)=some r) {H':Heap} (hw:(if min d len=0 then some H else jk H r.2 (.ptr nm g off (off+len * h.size)))=some H') :
  ka P o a H G w H' (.val (qcn (min d len))):=by
 obtain ⟨E,Z,F⟩:=qcf y e U W l (P:=P);obtain ⟨rx,ry,h1,h2,O⟩:=qtg E;rw [h1,qzc B] at F;have I:P.underlying t=some (.slice A):=C ▸ (qm X).1;have m:=h2;have p:=O;simp only [Rel] at m p;obtain ⟨b,sh,n,ro,cc,e1,k,ad,q1,rfl,z,q3,q4,q5,q6,q7,q8,q9⟩:=m;obtain ⟨b',a0,n',a1,q,a2,k',s,a3,rfl,a4,a5,a6,a7,a8,a9,aa,ab⟩:=p;obtain ⟨J,Q,m2,m3⟩:=qjp y (O.shorter (Nat.min_le_left d len)) Y;obtain ⟨R,S⟩:=m3 w rfl;have T:r.1=min d len:=by
  simp only [Builtin.lenOf] at R;have:=congrArg (λx=>match x with | Result.ok n _=>n | _=>0) R;simpa using this.symm
 rw [T] at S;have v:Nat.min d len=min d len:=rfl;have K:(Builtin.firstCells h.size (min d len) (.slice (some s) d q)).run P w=.ok J.toArray w:=S;have f:(Builtin.copy_ #[t,u] o.type #[.slice (some ad) len cc,.slice (some s) d q]).run P w=((storeCells ad J).run P w).andThen λ_ w'=>.ok (goInt ((min d len:Nat):Int)) w':=by
  simp [Builtin.copy_,run_underlying I,Builtin.lenOf,z7 D,v,K]
 by_cases L:min d len=0
 .rw [zT L] at hw;cases hw;have M:J=[]:=by
   have:=Q.length;rw [m2,T,L,Nat.zero_mul] at this;exact List.length_eq_zero_iff.1 this.symm
  subst M;refine ka.pure y (x:=goInt ((min d len:Nat):Int)) ?_ (by simp only [qcn,Rel];rfl);rw [F];simp only [builtin,Sem.run_bind,f,storeCells,Sem.run_pure,Result.andThen_ok]
 .rw [zF L] at hw;obtain rfl:ad=⟨b,ro,none⟩:=by
   rcases z with z | z
   .omega
   .exact z
  have hp:Rel G w (.ptr nm g off (off+len * h.size)) (.pointer (some ⟨b,ro,none⟩)):=by
   simp only [Rel];have:ro=off-sh:=by omega
   exact ⟨b,sh,n,q1,q4,q5,by rw [this]⟩
  obtain ⟨ad,w',e2,e3,e4⟩:=qek y hp Q hw P;cases e2;refine ⟨goInt ((min d len:Nat):Int),w',G,?_,e4,by simp only [qcn,Rel];rfl⟩;rw [F];simp only [builtin,Sem.run_bind,f,e3,Sem.run_pure,Result.andThen_ok]
theorem q1c (m:Sim H G w) (e:SimFr G w fr a) {c:Go.Call} (r:o.op=.call c) (s:c.callee=.builtin .clear) {x:V} (d:qay fr H c.args.toList=some [x]) {t p:TypeId} {ti:TI} (i:c.argTypes.toList=[t]) (u:typeOf P t=some ti) (j:ti.under=.slice p)
  (v:x=.nils∨∃ nm g off sz cap,x=.slice nm g off 0 sz cap):ka P o a H G w H (.val (.tuple [])):=by
 obtain ⟨l,y,q⟩:=qcf m e r s d (P:=P);obtain ⟨rx,z,h⟩:=qwl l;rw [z,qzc i] at q;have f:P.underlying t=some (.slice p):=j ▸ (qm u).1;refine ka.pure m (x:=.tuple #[]) ?_ (by simp only [Rel];exact ⟨_,rfl,qn.nil⟩);rw [q];rcases v with rfl | ⟨nm,g,off,sz,cap,rfl⟩
 .simp only [Rel] at h;subst h;simp [builtin,Builtin.clear_,run_underlying f]
 .simp only [Rel] at h;obtain ⟨b,sh,n,ro,A,B,k,ad,C,rfl,_⟩:=h;simp [builtin,Builtin.clear_,run_underlying f]
theorem zfn (x:Sim H G w) (e:SimFr G w fr a) {c:Go.Call} (B:o.op=.call c) (C:c.callee=.builtin .clear) {nm g off len:Nat} {cap:Option Nat} {t i:TypeId} {ti f:TI} (d:qay fr H c.args.toList=some [.slice nm g off len f.size cap]) (j:c.argTypes.toList=[t]) (D:typeOf P t=some ti) (l:ti.under=.slice i)
  (p:typeOf P i=some f) (S:¬ len=0) {H':Heap} (hw:jk H (List.replicate len f.zero.cells).flatten (.ptr nm g off (off+len * f.size))=some H'):ka P o a H G w H' (.val (.tuple [])):=by
 obtain ⟨q,E,y⟩:=qcf x e B C d (P:=P);obtain ⟨rx,F,A⟩:=qwl q;rw [F,qzc j] at y;have r:P.underlying t=some (.slice i):=l ▸ (qm D).1;obtain ⟨z,I,_,s⟩:=qbc p w;have u:=qrh (qc3 (s G w)) len;simp only [Rel] at A;obtain ⟨b,sh,n,ro,T,U,k,ad,J,rfl,h,V,K,L,W,X,Y,Z⟩:=A;have M:0<=len * f.size:=Nat.zero_le _;obtain ⟨m,rfl⟩:∃ m,len=m+1:=⟨len-1,by omega⟩;obtain rfl:ad=⟨b,ro,none⟩:=by
  rcases h with h | h
  .omega
  .exact h
 have N:Rel G w (.ptr nm g off (off+(m+1) * f.size)) (.pointer (some ⟨b,ro,none⟩)):=by
  simp only [Rel];have:ro=off-sh:=by omega
  exact ⟨b,sh,n,J,K,L,by rw [this]⟩
 obtain ⟨ad,w',O,Q,R⟩:=qek x N u hw P;cases O;refine ⟨.tuple #[],w',G,?_,R,by simp only [Rel];exact ⟨_,rfl,qn.nil⟩⟩;rw [y];have v:(storeCells ⟨b,ro,none⟩ (Builtin.zeroCells z.cells (m+1)).toList).run P w=.ok () w':=Q;simp [builtin,Builtin.clear_,run_underlying r,I,v]
theorem qzv (B:Sim H G w) (e:SimFr G w fr a) {t n:TypeId} {ti:TI} (C:typeOf P t=some ti) (i:∀ j,ti.under≠.interface j) {x:Operand} {ok:Bool} (I:o.op=.typeAssert x n t ok) {p v:V} (J:opd fr H x=some p) (h:qg8 t ti.zero ok p=some v) :
  ka P o a H G w H (.val v):=by
 have k:=qq B e J;have c:=(qm C).1;obtain ⟨z,D,_,l⟩:=qbc C w;obtain ⟨rx,m⟩:∃ rx,rx=a.eval x:=⟨_,rfl⟩;rw [<-m] at k;have s:execOp a.eval o=(do let v <-Instr.typeAssert rx n t ok;pure (.value v)):=by simp only [execOp,I,m]
 have d:∀ {q:V} {A:Value} {b:Bool},Rel G w q A->Rel G w (.tuple [q,.bool b]) (.tuple #[A,.bool b]):=by
  intro q A b K;simp only [Rel];exact ⟨_,rfl,qn.cons K (qn.cons (by simp only [Rel]) qn.nil)⟩
 have fin:∀ {r:Value},(Instr.typeAssert rx n t ok).run P w=.ok r w->Rel G w v r->ka P o a H G w H (.val v):=by
  intro r L M;exact ka.pure B (by rw [s];simp only [Sem.run_bind,L,Result.andThen_ok,Sem.run_pure]) M
 cases p with
 | nili=>
  simp only [Rel] at k;cases ok with
  | false=>simp [qg8] at h
  | true=>
   simp only [qg8,zO,zS] at h;subst h;refine fin (r:=.tuple #[z,.bool false]) ?_ (d (l G w));subst k;cases g:ti.under with
   | interface j=>exact absurd g (i j)
   | _=>rw [g] at c;simp [Instr.typeAssert,run_underlying c,D]
 | iface u y=>
  simp only [Rel] at k;obtain ⟨E,rfl,F⟩:=k;simp only [qg8,cond_eq_ite,Nat.beq_eq] at h;by_cases f:u=t
  .rw [zT f] at h;cases h;refine fin (r:=if ok then .tuple #[E,.bool true] else E) ?_ ?_
   .cases g:ti.under with
    | interface j=>exact absurd g (i j)
    | _=>rw [g] at c;simp [Instr.typeAssert,run_underlying c,f]
   .cases ok with
    | true=>exact d F
    | false=>exact F
  .rw [zF f] at h;cases ok with
   | false=>simp at h
   | true=>
    simp only [if_true,zS] at h;subst h;refine fin (r:=.tuple #[z,.bool false]) ?_ (d (l G w));cases g:ti.under with
    | interface j=>exact absurd g (i j)
    | _=>rw [g] at c;simp [Instr.typeAssert,run_underlying c,f,D]
 | _=>simp [qg8] at h
end
end Go.E2
