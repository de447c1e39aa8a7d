/- A VERIFIED EVALUATOR, texts E2a, E2b, E2c, E2d, E2e, E2f, E2g, E2h, E2i, E2j, E2k, E2l, E2m, E2w, E2n, E2o in one. -/
import GoSem.Step
import Derived.Orders
import Derived.KernelRfl
import Derived.RangeFuncIn
import Derived.OrdersIn
import Derived.WalkKit
import Derived.Lib.UnsafeStr
import Derived.Laws.BytesArg
import Derived.TacticsIn
import Derived.LoopNIn
import Derived.RangeFuncLeaves
import Derived.RangeFuncCalls
namespace Go
abbrev ZB := List UInt8
theorem zI {α β : Type _} {o : Option α} {f : α -> Option β} {b : β} : o.bind f = some b ↔ ∃ a, o = some a ∧ f a = some b := Option.bind_eq_some_iff
theorem zM {α β : Type _} {o : Option α} {f : α -> β} {b : β} : o.map f = some b ↔ ∃ a, o = some a ∧ f a = b := Option.map_eq_some_iff
theorem zS {α : Type _} (a b : α) : (some a = some b) = (a = b) := Option.some.injEq a b
theorem zP {α β : Type _} (a : α) (b : β) (c : α) (d : β) : ((a, b) = (c, d)) = (a = c ∧ b = d) := Prod.mk.injEq a b c d
theorem zN (n : Nat) : n ≤ n := Nat.le_refl n
theorem zA (a b : Bool) : ((a && b) = true) = (a = true ∧ b = true) := Bool.and_eq_true a b
theorem zE {n m : Nat} (h : Nat.beq n m = true) : n = m := Nat.eq_of_beq_eq_true h
theorem zL {n m k : Nat} (h : n < m) (a : m ≤ k) : n < k := Nat.lt_of_lt_of_le h a
theorem zC {α : Type _} {a : α} {l : List α} : a ∈ a :: l := List.mem_cons_self
theorem zD {α : Type _} {a b : α} {l : List α} : a ∈ b :: l ↔ a = b ∨ a ∈ l := List.mem_cons
theorem zB {α β : Type _} (a : α) (f : α -> Option β) : (some a).bind f = f a := Option.bind_some a f
theorem zF {c : Prop} {h : Decidable c} (n : ¬c) {α : Sort _} {t e : α} : ite c t e = e := if_neg n
theorem zT {c : Prop} {h : Decidable c} (n : c) {α : Sort _} {t e : α} : ite c t e = t := if_pos n
theorem zG {α : Type _} (y : α) {a : α} {l : List α} (h : a ∈ l) : a ∈ y :: l := List.mem_cons_of_mem y h
theorem zH {α β : Type _} (a : α) (f : α -> β) : (some a).map f = some (f a) := Option.map_some a f
theorem zJ {α : Type _} (l : List α) : l ++ [] = l := List.append_nil l
theorem zK (a : Int) : a ≤ a := Int.le_refl a
theorem zO {α : Sort _} {a b : α} : cond true a b = a := rfl
theorem zQ {α : Sort _} {a b : α} : cond false a b = b := rfl
theorem zR {n m k : Nat} (h : n ≤ m) (a : m ≤ k) : n ≤ k := Nat.le_trans h a
theorem zU {m n : Nat} (k : Nat) (h : m ≤ n) : m * k ≤ n * k := Nat.mul_le_mul_right k h
end Go
/- THE MACHINE E2: an executable big-step machine over memory with names, for programs of the model. Definitions alone; nothing is proved here of the model. -/
namespace Go.E2
inductive Tree (α:Type) where
 | nil
 | node (v:Option α) (l r:Tree α)
def Tree.get {α:Type}:Tree α->Nat->Option α
 | .nil,_=>none
 | .node v l r,n=>bif Nat.beq n 0 then v else bif Nat.beq (n % 2) 1 then l.get (n / 2) else r.get (n / 2-1)
def Tree.q3f {α:Type} (a:α):Nat->Tree α->Nat->Tree α
 | 0,t,_=>t
 | f+1,.nil,n=>bif Nat.beq n 0 then .node (some a) .nil .nil
   else bif Nat.beq (n % 2) 1 then .node none (Tree.q3f a f .nil (n / 2)) .nil else .node none .nil (Tree.q3f a f .nil (n / 2-1))
 | f+1,.node v l r,n=>bif Nat.beq n 0 then .node (some a) l r
   else bif Nat.beq (n % 2) 1 then .node v (Tree.q3f a f l (n / 2)) r else .node v l (Tree.q3f a f r (n / 2-1))
def Tree.set {α:Type} (t:Tree α) (n:Nat) (a:α):Tree α:=Tree.q3f a (n+1) t n
def Tree.del {α:Type}:Tree α->Nat->Tree α
 | .nil,_=>.nil
 | .node v l r,n=>bif Nat.beq n 0 then .node none l r else bif Nat.beq (n % 2) 1 then .node v (l.del (n / 2)) r else .node v l (r.del (n / 2-1))
def jj {α:Type} (src:Tree α):List Nat->Tree α->Tree α
 | [],t=>t
 | n::l,t=>jj src l (match src.get n with
  | some a=>t.set n a
  | none=>t.del n)
def Tree.ofList {α:Type} (l:List α):Tree α:=(l.foldl (λ(s:Tree α×Nat) a=>(s.1.set s.2 a,s.2+1)) (.nil,0)).1
inductive V where
 | int (k:IntKind) (n:Int)
 | bool (b:Bool)
 | str (s:List UInt8)
 | ptr (nm g off lim:Nat)
 | nilp
 | slice (nm g off len sz:Nat) (cap:Option Nat)
 | nils
 | func (fn:Fn) (first captured:List V)
 | nilf
 | iface (t:TypeId) (v:V)
 | nili
 | agg (cells:List V)
 | tuple (vs:List V)
 | map (nm:Nat)
 | nilm
def j8:V:=.tuple []
def V.cells:V->List V
 | .agg cs=>cs
 | v=>[v]
mutual
def qsu:Nat->Value->Option V
 | 0,_=>none
 | n+1,v=>match v with
  | .int k i=>some (.int k i)
  | .bool b=>some (.bool b)
  | .string s=>some (.str s.data.toList)
  | .pointer none=>some .nilp
  | .slice none 0 0=>some .nils
  | .map none=>some .nilm
  | .func (.func f) first d=>(zba n first.toList).bind λa=>(zba n d.toList).map λc=>.func (.func f) a c
  | .nilFunc=>some .nilf
  | .iface t v=>(qsu n v).map λx=>.iface t x
  | .nilIface=>some .nili
  | .agg cs=>(zba n cs.toList).map .agg
  | .tuple e=>(zba n e.toList).map .tuple
  | _=>none
def zba:Nat->List Value->Option (List V)
 | 0,_=>none
 | n+1,l=>match l with
  | []=>some []
  | v::a=>(qsu n v).bind λx=>(zba n a).map λb=>x::b
end
inductive O where
 | row (cells:List V) (elem:TypeId) (gen floor frz:Nat) (exact:Bool)
 | map (es:List (V×V×Nat)) (clock:Nat)
 | loop (st:LoopState) (pending:Option Code) (tmps:Tree V) (n:Nat) (params:List Tmp) (assign body:Code) (defers:Nat)
 | dfr
 | gone
structure Heap where
 qcg:Tree O
 next:Nat
 ro:Nat
 zm:Nat
def Heap.get (H:Heap) (n:Nat):Option O:=H.qcg.get n
def Heap.new (H:Heap) (o:O):Heap:=
 match H with
 | ⟨t,n,r,g⟩=>⟨t.set n o,n+1,r,g⟩
def Heap.upd (H:Heap) (n:Nat) (o:O):Option Heap:=
 match H with
 | ⟨t,k,r,g⟩=>bif Nat.blt n r then none else some ⟨t.set n o,k,r,g⟩
structure TI where
 under:TypeDesc
 size:Nat
 bytes:Nat
 zero:V
 isAgg:Bool
structure FI where
 body:Option Code
 ext:Nat
 ntmps:Nat
 results:List ResultVar
inductive Tgt where
 | func (f:FuncId)
 | round (l:Nat)
structure PE where
 v:V
 recovered:Bool
 goexit:Bool
inductive CR where
 | ret (v:V)
 | panic (chain:List PE)
structure Env where
 types:Nat->Option TI
 funcs:Nat->Option FI
 spec:Nat->Option (List V->Heap->Option (CR×Heap))
 eqOk:TypeId->Bool
 lies:TypeId->Nat->Nat->TypeId->Bool
inductive Dfr where
 | mark (nm:Nat)
structure Fr where
 tmps:Tree V
 n:Nat
 defers:List Dfr
def Fr.put (fr:Fr) (dst:Option Tmp) (v:V):Fr:=
 match dst with
 | some d=>match fr with
  | ⟨t,n,a⟩=>bif Nat.blt d n then ⟨t.set d v,n,a⟩ else ⟨t,n,a⟩
 | none=>fr
def Fr.tmp (fr:Fr) (t:Nat):Option V:=fr.tmps.get t
def opd (fr:Fr) (H:Heap):Operand->Option V
 | .tmp t=>fr.tmp t
 | .const v=>qsu 1000 v
 | .global g=>bif Nat.blt g H.zm then match H.get g with
  | some (.row cells _ 0 _ _ _)=>some (.ptr g 0 0 cells.length)
  | _=>none else none
 | .func f=>some (.func (.func f) [] [])
def qdm (fr:Fr) (H:Heap):List Operand->Option (List V)
 | []=>some []
 | x::a=>(opd fr H x).bind λv=>(qdm fr H a).map λb=>v::b
inductive Out where
 | val (v:V)
 | skip
 | call (t:Tgt) (args:List V)
 | panic (v:V)
inductive Ex where
 | normal
 | exit (id:Nat)
 | goto (l:Nat)
 | ret
 | panic (chain:List PE)
def qph (ti:TI) (cs:List V) (off:Nat):Option V:=
 bif ti.isAgg then (bif Nat.ble (off+ti.size) cs.length then some (.agg ((cs.drop off).take ti.size)) else none)
 else cs[off]?
def setCells (cs:List V) (off:Nat) (a:List V):List V:=cs.take off++a++cs.drop (off+a.length)
def qih (place:Nat->Option (Nat×Nat)):List V->List (Nat×V)->Option (List V)
 | cells,[]=>some cells
 | cells,(i,v)::b=>match place i with
  | none=>none
  | some (off,a)=>bif Nat.beq v.cells.length a&&Nat.ble (off+a) cells.length then qih place (setCells cells off v.cells) b else none
def qek (o:Oper) (all:Array Oper) (fr:Fr):Option Bool:=
 match o.guard with
 | none=>some true
 | some (j,a)=>match (all[j]?).bind (·.dst) with
  | none=>some false
  | some d=>match fr.tmp d with
   | some (.bool b)=>some (b == a)
   | some _=>some false
   | none=>none
def isHole:V->Bool
 | .tuple [.slice _ _ _ _ 0 _]=>true
 | _=>false
def qna (cs:List V):Option (List V):=bif cs.any isHole then none else some cs
def jz (H:Heap) (size:Nat):V->Option (List V)
 | .ptr nm g off lim=>match H.get nm with
  | some (.row cells _ _ a _ _)=>
   bif Nat.ble a g&&Nat.ble (off+size) lim&&Nat.ble lim cells.length then qna ((cells.drop off).take size) else none
  | _=>none
 | _=>none
def qkh (H:Heap) (ti:TI) (p:V):Option V:=
 (jz H ti.size p).bind λcs=>bif ti.isAgg then some (.agg cs) else match cs with
   | [v]=>some v
   | _=>none
def V.qay:V->Bool
 | .agg _ | .tuple _=>false
 | _=>true
def qci (H:Heap) (a:List V):V->Option Heap
 | .ptr nm g off lim=>match H.get nm with
  | some (.row cells elem gen _ frz exact)=>
   bif Nat.beq g gen&&Nat.ble (off+a.length) lim&&Nat.ble lim cells.length&&Nat.ble frz off&&a.all V.qay
   then H.upd nm (.row (setCells cells off a) elem gen gen frz exact) else none
  | _=>none
 | _=>none
def qkd (H:Heap) (ti:TI) (p v:V):Option Heap:=
 bif Nat.beq v.cells.length ti.size then qci H v.cells p else none
def qla (H:Heap) (cells:List V) (elem:TypeId):Heap:=H.new (.row cells elem 0 0 0 true)
def V.qfn (sz:Nat):V->V
 | .slice nm g off len z cap=>match cap with
  | some c=>bif Nat.beq c 0 then .slice nm g off len sz cap else .slice nm g off len z cap
  | none=>.slice nm g off len z cap
 | v=>v
def qdx (H:Heap) (sz:Nat):V->Option (Nat×List V)
 | .nils=>some (0,[])
 | .slice nm g off len a _=>bif Nat.beq sz a then (jz H (len * sz) (.ptr nm g off (off+len * sz))).map λcs=>(len,cs) else none
 | .str s=>bif Nat.beq sz 1 then some (s.length,s.map λb=>.int .u8 b.toNat) else none
 | _=>none
def js (H:Heap) (sz:Nat) (x:V):Option (Nat×List V):=qdx H sz (x.qfn sz)
def room:Nat:=140737488355328
def qcj (H:Heap) (elem:TypeId) (sz bytes:Nat) (s x:V):Option (V×Heap):=
 (js H sz x).bind λ(n,a)=>
 match s with
 | .nils=>bif Nat.beq n 0 then some (.nils,H)
   else bif Nat.ble (n * bytes) room&&Nat.ble n room then some (.slice H.next 0 0 n sz none,H.new (.row a elem 0 0 0 false)) else none
 | .slice nm g off len f cap=>
  bif !Nat.beq sz f then none else
  bif Nat.beq n 0 then some (s,H) else
  bif !(Nat.ble ((len+n) * bytes) room&&Nat.ble (len+n) room) then none else
  bif !a.all V.qay then none else
  match H.get nm with
  | some (.row cells e gen b d _)=>
   match cap with
   | some c=>
    bif Nat.ble (len+n) c then
     (qci H a (.ptr nm g (off+len * sz) (off+(len+n) * sz))).map λH'=>(.slice nm g off (len+n) sz cap,H')
    else (js H sz s).map λ(_,old)=>(.slice H.next 0 0 (len+n) sz none,H.new (.row (old++a) elem 0 0 0 false))
   | none=>
    bif Nat.beq g gen&&Nat.beq (off+len * sz) cells.length&&Nat.ble d cells.length&&Nat.ble b gen&&!Nat.beq sz 0&&Nat.beq e elem then
     (H.upd nm (.row (cells++a) e (gen+1) b d false)).map λH'=>(.slice nm (gen+1) off (len+n) sz none,H')
    else none
  | _=>none
 | _=>none
def qc7 (H:Heap) (elem:TypeId) (sz bytes:Nat) (s x:V):Option (V×Heap):=qcj H elem sz bytes (s.qfn sz) x
def qce:List UInt8->List UInt8->Bool
 | _,[]=>false
 | [],_::_=>true
 | a::x,b::y=>a<b || (a == b&&qce x y)
def qis (op:BinOp) (k:IntKind) (a b:Int):Option V:=
 match op with
 | .add=>some (.int k (k.wrap (a+b)))
 | .sub=>some (.int k (k.wrap (a-b)))
 | .mul=>some (.int k (k.wrap (a * b)))
 | .quo=>if b=0 then none else some (.int k (k.wrap (a.tdiv b)))
 | .rem=>if b=0 then none else some (.int k (a.tmod b))
 | .and=>some (.int k (k.wrap (BitVec.ofInt k.bits a &&&BitVec.ofInt k.bits b).toNat))
 | .or=>some (.int k (k.wrap (BitVec.ofInt k.bits a ||| BitVec.ofInt k.bits b).toNat))
 | .xor=>some (.int k (k.wrap (BitVec.ofInt k.bits a ^^^ BitVec.ofInt k.bits b).toNat))
 | .andNot=>some (.int k (k.wrap (BitVec.ofInt k.bits a &&&~~~ BitVec.ofInt k.bits b).toNat))
 | .eql=>some (.bool (a == b))
 | .neq=>some (.bool (a != b))
 | .lss=>some (.bool (a<b))
 | .leq=>some (.bool (a<=b))
 | .gtr=>some (.bool (a > b))
 | .geq=>some (.bool (a>=b))
 | _=>none
def q3i (op:BinOp) (k:IntKind) (a b:Int):Option V:=
 if b<0 then none else
  let n:=min b.toNat k.bits
  match op with
  | .shl=>some (.int k (k.wrap (a * 2 ^ n)))
  | .shr=>some (.int k (a.fdiv (2 ^ n)))
  | _=>none
def qnw (op:BinOp) (x y:List UInt8):Option V:=
 match op with
 | .add=>bif Nat.ble (x.length+y.length) room then some (.str (x++y)) else none
 | .eql=>some (.bool (x == y))
 | .neq=>some (.bool (!(x == y)))
 | .lss=>some (.bool (qce x y))
 | .leq=>some (.bool (qce x y || x == y))
 | .gtr=>some (.bool (!(qce x y || x == y)))
 | .geq=>some (.bool (!qce x y))
 | _=>none
mutual
def eqV (E:Env):Nat->TypeId->V->V->Option Bool
 | 0,_,_,_=>none
 | d+1,t,x,y=>match E.types t with
  | none=>none
  | some ti=>match ti.under,x,y with
   | .int _,.int k a,.int h b=>if k=h then some (a == b) else none
   | .string,.str a,.str b=>some (a == b)
   | .bool,.bool a,.bool b=>some (a == b)
   | .struct i,.agg j,.agg l=>bif E.eqOk t then eqFields E d i.toList j l else none
   | .slice _,.nils,.nils=>some true
   | .slice _,.nils,.slice .. | .slice _,.slice ..,.nils=>some false
   | .func ..,.nilf,.nilf=>some true
   | .func ..,.nilf,.func .. | .func ..,.func ..,.nilf=>some false
   | .map ..,.nilm,.nilm=>some true
   | .map ..,.nilm,.map _ | .map ..,.map _,.nilm=>some false
   | .pointer _,.nilp,.nilp=>some true
   | .pointer _,.nilp,.ptr .. | .pointer _,.ptr ..,.nilp=>some false
   | .pointer e,.ptr nm g off _,.ptr f m c _=>(E.types e).bind λn=>bif !Nat.beq n.size 0&&(Nat.beq nm f&&Nat.beq g m) then some (Nat.beq off c) else none
   | .interface _,.iface ..,.nili | .interface _,.nili,.iface ..=>some false
   | .interface _,.nili,.nili=>some true
   | _,_,_=>none
def eqFields (E:Env):Nat->List Field->List V->List V->Option Bool
 | 0,_,_,_=>none
 | d+1,c,e,g=>match c with
  | []=>some true
  | f::c=>match E.types f.type with
   | none=>none
   | some ti=>(qph ti e f.offset).bind λa=>(qph ti g f.offset).bind λb=>
    (eqV E d f.type a b).bind λr=>bif r then eqFields E d c e g else some false
end
def qcd (E:Env) (op:BinOp) (t:TypeId) (x y:V):Option V:=
 match op,x,y with
 | .shl,.int k a,.int _ b=>q3i .shl k a b
 | .shr,.int k a,.int _ b=>q3i .shr k a b
 | op,.int k a,.int c b=>if k=c then qis op k a b else none
 | op,.str a,.str b=>qnw op a b
 | .eql,x,y=>(eqV E 1000 t x y).map .bool
 | .neq,x,y=>(eqV E 1000 t x y).map λb=>.bool (!b)
 | _,_,_=>none
def ze1 (op:UnOp) (x:V):Option V:=
 match op,x with
 | .neg,.int k n=>some (.int k (k.wrap (0-n)))
 | .xor,.int k n=>some (.int k (k.wrap (BitVec.ofInt k.bits (if k.signed then -1 else k.max) ^^^ BitVec.ofInt k.bits n).toNat))
 | .not,.bool b=>some (.bool !b)
 | _,_=>none
def qbp (lo hi:Nat):Option V->Nat->Option Nat
 | none,d=>some d
 | some (.int _ i),_=>if (lo:Int)<=i/\i<=hi then some i.toNat else none
 | some _,_=>none
def qlf (a:Nat) (x:V) (lo hi b:Option V):Option V:=
 match x with
 | .str s=>match b with
  | some _=>none
  | none=>(qbp 0 s.length hi s.length).bind λh=>(qbp 0 h lo 0).map λl=>.str ((s.take h).drop l)
 | .nils=>(qbp 0 0 b 0).bind λm=>(qbp 0 m hi 0).bind λh=>(qbp 0 h lo 0).map λ_=>.nils
 | .slice nm g off len sz cap=>
  bif !Nat.beq a sz then none else
  match b with
  | some _=>
   let c:=cap.getD len
   (qbp 0 c b c).bind λm=>(qbp 0 m hi len).bind λh=>(qbp 0 h lo 0).map λl=>
     .slice nm g (off+l * sz) (h-l) sz (some (m-l))
  | none=>
   let c:=cap.getD len
   (qbp 0 c hi len).bind λh=>(qbp 0 h lo 0).map λl=>.slice nm g (off+l * sz) (h-l) sz (cap.map (· - l))
 | _=>none
def qi5 (a:Nat) (x:V) (lo hi b:Option V):Option V:=qlf a (x.qfn a) lo hi b
def qgy (a:Nat) (x i:V):Option V:=
 match x,i with
 | .slice nm g off len sz _,.int _ i=>if Nat.beq a sz=true/\0<=i/\i<len then some (.ptr nm g (off+i.toNat * sz) (off+len * sz)) else none
 | _,_=>none
def qiq (n:Nat):V:=.int .i64 n
def qmj:TypeDesc->V->V->Option Bool
 | .int _,.int k a,.int c b=>if k=c then some (a == b) else none
 | .string,.str a,.str b=>some (a == b)
 | .bool,.bool a,.bool b=>some (a == b)
 | _,_,_=>none
def plainKey:TypeDesc->Bool
 | .int _ | .string | .bool=>true
 | _=>false
def qqd (a:TypeDesc) (k:V):List (V×V×Nat)->Nat->Option (Option (Nat×V))
 | [],_=>some none
 | (b,v,_)::c,i=>match qmj a k b with
  | some true=>some (some (i,v))
  | some false=>qqd a k c (i+1)
  | none=>none
def qlv (E:Env) (b:TypeId) (a:TypeDesc) (k:V) (es:List (V×V×Nat)):Option (Option (Nat×V)):=
 bif plainKey a then qqd a k es 0 else none
def qht (f:V) (args:List V):Option Out:=
 match f with
 | .func (.func f) first a=>some (.call (.func f) (first++args++a))
 | .func (.yield l) first _=>some (.call (.round l) (first++args))
 | _=>none
def qi9 (ti:TI) (k:Nat):Option Field:=
 match ti.under with
 | .struct a=>a[k]?
 | _=>none
def qo5 (fr:Fr) (H:Heap):Option Operand->Option (Option V)
 | none=>some none
 | some x=>(opd fr H x).map some
def q9n (d:Bool):V->List V->Option V
 | x,[]=>some x
 | .int k a,.int _ b::c=>q9n d (.int k (if (if d then b > a else b<a) then b else a)) c
 | _,_=>none
def qd0:List V->Option (List UInt8)
 | []=>some []
 | .int .u8 n::a=>if 0<=n/\n<256 then (qd0 a).map λl=>UInt8.ofNat n.toNat::l else none
 | _=>none
def qar (E:Env) (b:Builtin) (c:List TypeId) (args:List V) (H:Heap):Option (Out×Heap):=
 match b,args with
 | .len,[x]=>match c with
  | [t]=>(E.types t).bind λti=>match ti.under,x with
   | .array n _,_=>some (.val (qiq n),H)
   | .string,.str s=>some (.val (qiq s.length),H)
   | .slice _,.nils=>some (.val (qiq 0),H)
   | .slice _,.slice _ _ _ len _ _=>some (.val (qiq len),H)
   | .map ..,.nilm=>some (.val (qiq 0),H)
   | .map ..,.map nm=>match H.get nm with
    | some (.map f _)=>some (.val (qiq f.length),H)
    | _=>none
   | _,_=>none
  | _=>none
 | .append,[s,x]=>match c with
  | [t,u]=>(E.types t).bind λti=>(E.types u).bind λh=>match ti.under,h.under with
   | .slice e,.slice _ | .slice e,.string=>(E.types e).bind λd=>(qc7 H e d.size d.bytes s x).map λr=>(.val r.1,r.2)
   | _,_=>none
  | _=>none
 | .unsafeSliceData,[x]=>match x with
  | .nils=>some (.val .nilp,H)
  | .slice nm g off len sz _=>bif Nat.blt 0 len then some (.val (.ptr nm g off (off+len * sz)),H) else none
  | _=>none
 | .unsafeString,[p,.int .i64 n]=>match c with
  | [i,_]=>match p with
   | .nilp=>if n=0 then some (.val (.str []),H) else none
   | .ptr nm g 0 lim=>(E.types i).bind λti=>match ti.under,H.get nm with
    | .pointer e,some (.row cells elem gen floor frz exact)=>(E.types elem).bind λd=>
     if e=elem/\d.size=1/\0<n/\n<=140737488355328/\g=gen then
      (jz H n.toNat (.ptr nm g 0 lim)).bind λcs=>(qd0 cs).bind λl=>
        (H.upd nm (.row cells elem gen floor (max frz n.toNat) exact)).map λH'=>(.val (.str l),H')
     else none
    | _,_=>none
   | _=>none
  | _=>none
 | .min,x::a=>(q9n false x a).map λv=>(.val v,H)
 | .max,x::a=>(q9n true x a).map λv=>(.val v,H)
 | _,_=>none
def jk (E:Env) (o:Oper) (fr:Fr) (H:Heap):Option (Out×Heap):=
 let v (x:Option V):Option (Out×Heap):=x.map λx=>(.val x,H)
 match o.op with
 | .move x | .assign x=>v (opd fr H x)
 | .pick c a b=>match opd fr H c with
  | some (.bool c)=>v (opd fr H (if c then a else b))
  | _=>none
 | .alloc e=>(E.types e).map λti=>(.val (.ptr H.next 0 0 ti.zero.cells.length),qla H ti.zero.cells e)
 | .box e x=>(opd fr H x).bind λx=>some (.val (.ptr H.next 0 0 x.cells.length),qla H x.cells e)
 | .build t parts=>(E.types t).bind λti=>(qdm fr H (parts.toList.map (·.2))).bind λw=>
  match ti.under with
  | .struct G=>bif !G.toList.all (λf=>(E.types f.type).isSome) then none else v ((qih (λi=>(G[i]?).bind λf=>(E.types f.type).map λA=>(f.offset,A.size)) ti.zero.cells ((parts.toList.map (·.1)).zip w)).map .agg)
  | .array _ e=>(E.types e).bind λd=>v ((qih (λi=>some (i * d.size,d.size)) ti.zero.cells ((parts.toList.map (·.1)).zip w)).map .agg)
  | _=>none
 | .buildSlice t len parts=>(E.types t).bind λti=>(qdm fr H (parts.toList.map (·.2))).bind λw=>
  match ti.under with
  | .slice e=>(E.types e).bind λd=>
   bif Nat.ble (len * d.size) 16777216 then
    (qih (λi=>some (i * d.size,d.size)) (List.replicate len d.zero.cells).flatten ((parts.toList.map (·.1)).zip w)).map λcells=>
      (.val (.slice H.next 0 0 len d.size (some len)),qla H cells e)
   else none
  | _=>none
 | .load t p=>(E.types t).bind λti=>(opd fr H p).bind λp=>v (qkh H ti p)
 | .store t p x=>(E.types t).bind λti=>(opd fr H p).bind λp=>(opd fr H x).bind λx=>(qkd H ti p x).map λH'=>(.skip,H')
 | .nilCheck x=>match opd fr H x with
  | some .nilp | some .nili | some .nilf | some (.func (.method _) _ _) | none=>none
  | some x=>some (.val x,H)
 | .binOp C t x y _=>(opd fr H x).bind λa=>(opd fr H y).bind λb=>
  match a,b with
  | .nili,.nili=>match x,y with
   | .const _,_ | _,.const _=>v (qcd E C t a b)
   | _,_=>none
  | _,_=>v (qcd E C t a b)
 | .unOp C _ x=>(opd fr H x).bind λx=>v (ze1 C x)
 | .convert F dst x=>(E.types F).bind λI=>(E.types dst).bind λJ=>(opd fr H x).bind λx=>
  match I.under,J.under,x with
  | .int _,.int k,.int _ n=>some (.val (.int k (k.wrap n)),H)
  | .string,.string,.str s=>some (.val (.str s),H)
  | .slice e,.string,x=>match x with
   | .str _=>none
   | _=>(E.types e).bind λd=>match d.under with
    | .int .u8=>(js H 1 x).bind λr=>(qd0 r.2).map λl=>(.val (.str l),H)
    | _=>none
  | .pointer e,.unsafePointer,.ptr nm g off lim=>(E.types e).bind λd=>match H.get nm with
   | some (.row _ _ _ h _ _)=>bif Nat.ble h g&&Nat.blt 0 d.size&&Nat.ble (off+1) lim then some (.val (.ptr nm g off lim),H) else none
   | _=>none
  | .unsafePointer,.pointer e,.ptr nm g off lim=>(E.types e).bind λd=>match H.get nm with
   | some (.row cells u _ h _ true)=>(E.types u).bind λK=>bif Nat.ble h g&&Nat.blt 0 d.size&&E.lies u (cells.length / K.size) off e then some (.val (.ptr nm g off lim),H) else none
   | _=>none
  | _,_,_=>none
 | .makeFunc (.func L) first q=>(qdm fr H first.toList).bind λa=>(qdm fr H q.toList).map λc=>(.val (.func (.func L) a c),H)
 | .makeMap t r=>(E.types t).bind λti=>match ti.under,r with
  | .map ..,none=>some (.val (.map H.next),H.new (.map [] 0))
  | .map ..,some r=>(opd fr H r).bind λr=>match r with
   | .int ..=>some (.val (.map H.next),H.new (.map [] 0))
   | _=>none
  | _,_=>none
 | .slice t x lo hi none=>(E.types t).bind λti=>(opd fr H x).bind λx=>(qo5 fr H lo).bind λlo=>(qo5 fr H hi).bind λhi=>
  match ti.under with
  | .slice e=>match x with
   | .str _=>none
   | _=>(E.types e).bind λd=>v (qi5 d.size x lo hi none)
  | .string=>match x with
   | .str _=>v (qi5 1 x lo hi none)
   | _=>none
  | .array n e=>(E.types e).bind λd=>match x with
   | .ptr nm g off lim=>match H.get nm with
    | some (.row _ _ _ h _ _)=>bif Nat.ble h g&&Nat.ble (off+n * d.size) lim then v (qi5 d.size (.slice nm g off n d.size (some n)) lo hi none) else none
    | _=>none
   | _=>none
  | _=>none
 | .fieldAddr s x k=>(E.types s).bind λti=>(qi9 ti k).bind λf=>(E.types f.type).bind λA=>
  bif Nat.beq A.size 0 then none else (opd fr H x).bind λx=>
  match x with
  | .ptr nm g off lim=>some (.val (.ptr nm g (off+f.offset) lim),H)
  | _=>none
 | .field t x k=>(E.types t).bind λti=>(qi9 ti k).bind λf=>(E.types f.type).bind λA=>(opd fr H x).bind λx=>
  match x with
  | .agg cs=>v (qph A cs f.offset)
  | _=>none
 | .indexAddr t x i=>(E.types t).bind λti=>(opd fr H x).bind λx=>(opd fr H i).bind λi=>
  match ti.under with
  | .slice e=>(E.types e).bind λd=>v (qgy d.size x i)
  | .array n e=>(E.types e).bind λd=>match x,i with
   | .ptr nm g off lim,.int _ i=>if 0<=i/\i<n then some (.val (.ptr nm g (off+i.toNat * d.size) lim),H) else none
   | _,_=>none
  | _=>none
 | .index t x i=>(E.types t).bind λti=>(opd fr H x).bind λx=>(opd fr H i).bind λi=>
  match ti.under,x,i with
  | .string,.str s,.int _ i=>if 0<=i then (s[i.toNat]?).map λb=>(.val (.int .u8 b.toNat),H) else none
  | .array n e,.agg cs,.int _ i=>(E.types e).bind λd=>if 0<=i/\i<n then v (qph d cs (i.toNat * d.size)) else none
  | _,_,_=>none
 | .extract t i=>(opd fr H t).bind λt=>match t with
  | .tuple w=>v w[i]?
  | _=>none
 | .call c=>(qdm fr H c.args.toList).bind λargs=>match c.callee with
  | .value f=>(opd fr H f).bind λf=>(qht f args).map λo=>(o,H)
  | .builtin b=>qar E b c.argTypes.toList args H
  | .invoke ..=>none
 | .lookup t m k ok=>(E.types t).bind λti=>(opd fr H m).bind λm=>(opd fr H k).bind λk=>
  match ti.under with
  | .map z M=>(E.types z).bind λD=>(E.types M).bind λd=>(match m with
    | .nilm=>qlv E z D.under k []
    | .map nm=>match H.get nm with
     | some (.map B _)=>qlv E z D.under k B
     | _=>none
    | _=>none:Option (Option (Nat×V))).map λr=>match r with
     | some (_,x)=>(.val (if ok then .tuple [x,.bool true] else x),H)
     | none=>(.val (if ok then .tuple [d.zero,.bool false] else d.zero),H)
  | _=>none
 | .mapUpdate t m k x | .insert t m k x=>(E.types t).bind λti=>(opd fr H m).bind λm=>(opd fr H k).bind λk=>(opd fr H x).bind λx=>
  match ti.under,m with
  | .map z _,.map nm=>(E.types z).bind λD=>match H.get nm with
   | some (.map B j)=>(qlv E z D.under k B).bind λr=>match r with
    | some (i,_)=>(H.upd nm (.map (B.modify i λe=>(k,x,e.2.2)) j)).map λH'=>(.skip,H')
    | none=>(H.upd nm (.map (B++[(k,x,j)]) (j+1))).map λH'=>(.skip,H')
   | _=>none
  | _,_=>none
 | _=>none
abbrev Call:=Tgt->List V->Heap->Option (CR×Heap)
def qgb (E:Env) (call:Call) (all:Array Oper) (o:Oper) (fr:Fr) (H:Heap):Option (CR×Heap):=
 match qek o all fr with
 | some true=>match jk E o fr H with
  | some (.val v,H')=>some (.ret v,H')
  | some (.skip,H')=>some (.ret j8,H')
  | some (.call t args,H')=>call t args H'
  | some (.panic v,H')=>some (.panic [⟨v,false,false⟩],H')
  | _=>none
 | some false=>some (.ret j8,H)
 | none=>none
def qh8 (E:Env) (call:Call) (b:Bool) (all:Array Oper):List Oper->Fr->Heap->Option (Ex×Fr×Heap)
 | [],fr,H=>some (.normal,fr,H)
 | o::a,fr,H=>match qgb E call all o fr H with
  | some (.ret v,H')=>qh8 E call b all a (fr.put o.dst v) H'
  | some (.panic c,H')=>some (.panic c,fr,H')
  | none=>none
inductive FP where
 | none
 | reads (l:List Nat)
 | writes (l:List Nat)
 | call
 | lone
def V.nm:V->List Nat
 | .ptr nm _ _ _ | .slice nm _ _ _ _ _ | .map nm=>[nm]
 | _=>[]
def q2g (fr:Fr):Operand->List Nat
 | .tmp t=>match fr.tmp t with
  | some v=>v.nm
  | none=>[]
 | .global g=>[g]
 | _=>[]
def qc4 (fr:Fr) (l:List Operand):List Nat:=l.flatMap (q2g fr)
def qqf:Operand->List Nat
 | .global g=>[g]
 | _=>[]
def kv (E:Env) (op:Op):Bool:=
 match op with
 | .load .. | .store .. | .lookup .. | .mapUpdate .. | .insert .. | .next .. | .convert ..=>true
 | .call c=>match c.callee with
  | .builtin .min | .builtin .max | .builtin .unsafeSliceData=>c.args.any λ| .global _=>true | _=>false
  | .builtin .len=>match c.argTypes.toList with
   | t::_=>match E.types t with
    | some {under:=.map ..,..} | none=>true
    | _=>c.args.any λ| .global _=>true | _=>false
   | _=>true
  | _=>true
 | .slice t x lo hi a=>(match E.types t with
   | some {under:=.array ..,..} | none=>true
   | _=>false) || (Op.slice t x lo hi a).operands.any λ| .global _=>true | _=>false
 | op=>op.operands.any λ| .global _=>true | _=>false
def V.many:V->Option Nat
 | .nils=>some 0
 | .slice _ _ _ len _ _=>some len
 | .str s=>some s.length
 | _=>none
def q9y (fr:Fr):Operand->Option V
 | .tmp t=>fr.tmp t
 | .const v=>qsu 1000 v
 | _=>none
def quw (fr:Fr):List Operand->Bool
 | [a,x]=>match q9y fr a,(q9y fr x).bind V.many with
  | some .nils,some _=>true
  | some (.slice _ _ _ len _ (some c)),some n=>Nat.beq n 0 || !Nat.ble (len+n) c
  | _,_=>false
 | _=>false
def qlw (E:Env) (o:Oper) (fr:Fr):FP:=
 bif !kv E o.op then .none else
 match o.op with
 | .store _ a x=>.writes (q2g fr a++qqf x)
 | .mapUpdate _ m k x | .insert _ m k x=>.writes (q2g fr m++qqf k++qqf x)
 | .next i _=>.writes (q2g fr i)
 | .call c=>match c.callee with
  | .builtin b=>match b with
   | .append=>bif quw fr c.args.toList then .reads (qc4 fr c.args.toList) else .writes (qc4 fr c.args.toList)
   | .copy | .clear | .unsafeString=>.writes (qc4 fr c.args.toList)
   | _=>.reads (qc4 fr c.args.toList)
  | _=>.call
 | op=>.reads (qc4 fr op.operands.toList)
def z0o (all:Array Oper) (i:Nat) (o:Oper):Bool:=
 match o.op with
 | .load _ (.tmp t)=>all.toList.any λp=>(match p.dst with | some d=>Nat.beq d t | none=>false)&&(match p.op with
   | .indexAddr _ (.tmp u) _=>all.toList.zipIdx.any λ(q,j)=>(match q.dst with | some d=>Nat.beq d u | none=>false)&&Nat.blt i j&&(match q.op with | .buildSlice ..=>true | _=>false)
   | _=>false)
 | _=>false
def qw0 (E:Env) (all:Array Oper) (b:Array Nat) (i:Nat):Bool:=
 all.toList.zipIdx.all λ(o,k)=>Nat.beq k i || !kv E o.op || (b.getD (max i k) 0).testBit (min i k) || z0o all i o
structure Done where
 i:Nat
 fp:FP
 lo:Nat
 hi:Nat
 dels:List Nat
def qdb (d:Done) (dels:List Nat) (fp:FP):Bool:=
 match d.fp,fp with
 | .none,_ | _,.none=>false
 | .lone,.reads l | .lone,.writes l | .call,.writes l=>l.any λn=>Nat.blt n d.lo&&!d.dels.any λm=>Nat.beq n m
 | .reads l,.lone | .writes l,.lone | .writes l,.call=>l.any λn=>!dels.any λm=>Nat.beq n m
 | .lone,.lone | .lone,.call | .call,.lone=>true
 | .writes w,.writes l | .writes w,.reads l | .reads l,.writes w=>w.any λn=>l.any λm=>Nat.beq n m
 | .reads _,.reads _ | .reads _,.call | .call,.reads _ | .call,.call=>false
def Done.names (d:Done):List Nat:=List.range' d.lo (d.hi-d.lo)
def zx (H:Heap) (fp:FP) (dels:List Nat):Heap:=
 let ok (n:Nat):Bool:=Nat.blt n H.next&&!dels.any λm=>Nat.beq n m
 match fp with
 | .none=>{H with qcg:=.nil,ro:=H.next}
 | .reads l=>{H with qcg:=jj H.qcg (l.filter ok) .nil,ro:=H.next}
 | .writes l=>{H with qcg:=jj H.qcg (l.filter ok) .nil}
 | .call=>{H with qcg:=jj .nil dels H.qcg,ro:=H.next}
 | .lone=>{H with qcg:=jj .nil dels H.qcg}
def qcm (H K:Heap) (fp:FP) (dels:List Nat):Heap:=
 let ok (n:Nat):Bool:=Nat.blt n H.next&&!dels.any λm=>Nat.beq n m
 {qcg:=match fp with
    | .none | .reads _ | .call=>jj K.qcg (List.range' H.next (K.next-H.next)) H.qcg
    | .writes l=>jj K.qcg (l.filter ok++List.range' H.next (K.next-H.next)) H.qcg
    | .lone=>jj H.qcg dels K.qcg,
   next:=K.next,ro:=H.ro,zm:=H.zm}
def qdy (E:Env) (call:Call) (all:Array Oper) (b:Array Nat):Nat->List Oper->List Done->Fr->Heap->Option (Fr×Heap)
 | _,[],_,fr,H=>some (fr,H)
 | i,o::a,done,fr,H=>(qek o all fr).bind λc=>
  let fp:=bif c then (match qlw E o fr with
   | .call=>bif qw0 E all b i then .lone else .call
   | x=>x) else .none
  let free:=done.filter λd=>!(b.getD i 0).testBit d.i;let dels:=free.flatMap Done.names
  bif free.any (λd=>qdb d dels fp) then none else
  match qgb E call all o {fr with tmps:=jj fr.tmps (o.looksAt all) .nil} (zx H fp dels) with
  | some (.ret v,K)=>bif Nat.blt K.next H.next then none else qdy E call all b (i+1) a (⟨i,fp,H.next,K.next,dels⟩::done) (fr.put o.dst v) (qcm H K fp dels)
  | _=>none
def q09 (ops:Array Oper):Bool:=
 ops.toList.zipIdx.all λ(o,i)=>o.after.all (λe=>!Region.binds .any e || Nat.blt e.on i)&&(match o.op with | .select ..=>false | _=>true)&&
  ops.toList.zipIdx.all λ(p,k)=>Nat.ble i k || ((Region.before ops).getD i 0).testBit k || (p.apart ops o)
def codeOk:Code->Bool
 | .region _ d c=>!c || q09 d
 | .seq a b=>codeOk a&&codeOk b
 | .cond _ a b=>codeOk a&&codeOk b
 | .block _ a | .loop a | .scope a=>codeOk a
 | .rangeFunc _ _ a b=>codeOk a&&codeOk b
 | _=>true
def iter {σ:Type} (step:σ->Option (Bool×σ)):Nat->σ->Option σ
 | 0,_=>none
 | n+1,s=>match step s with
  | some (true,a)=>iter step n a
  | some (false,a)=>some a
  | none=>none
def qf3:Option Code->Option Ex
 | none=>some .normal
 | some .ret=>some .ret
 | some (.exit id)=>some (.exit id)
 | _=>none
def qwj (round:Option Nat) (H:Heap):Option (List Dfr×Heap×Nat):=
 match round with
 | none=>some ([Dfr.mark H.next],H.new .dfr,H.next)
 | some l=>match H.get l with
  | some (.loop _ _ _ _ _ _ _ d)=>some ([],H,d)
  | _=>none
def qgh (H:Heap) (l:Nat):Option (Ex×Heap):=
 match H.get l with
 | some (.loop st a lt ln b c d e)=>match st with
  | .busy=>none
  | _=>(H.upd l (.loop .exhausted a lt ln b c d e)).bind λH'=>(qf3 a).map λex=>(ex,H')
 | _=>none
def qos (E:Env) (f:Nat):Bool:=
 match E.funcs f with
 | some a=>a.body.isSome
 | none=>false
def zn (E:Env) (call:Call) (fn:FuncId) (round:Option Nat) (fuel:Nat):Code->Fr->Heap->Option (Ex×Fr×Heap)
 | .skip,fr,H=>some (.normal,fr,H)
 | .label _,fr,H=>some (.normal,fr,H)
 | .exit id,fr,H=>some (.exit id,fr,H)
 | .goto l,fr,H=>some (.goto l,fr,H)
 | .ret,fr,H=>some (.ret,fr,H)
 | .seq a b,fr,H=>match zn E call fn round fuel a fr H with
  | some (.normal,fr',H')=>zn E call fn round fuel b fr' H'
  | r=>r
 | .cond c a b,fr,H=>match opd fr H c with
  | some (.bool true)=>zn E call fn round fuel a fr H
  | some (.bool false)=>zn E call fn round fuel b fr H
  | _=>none
 | .block id c,fr,H=>match zn E call fn round fuel c fr H with
  | some (.exit i,fr',H')=>bif Nat.beq i id then some (.normal,fr',H') else some (.exit i,fr',H')
  | r=>r
 | .scope c,fr,H=>match zn E call fn round fuel c fr H with
  | some (.goto _,_,_)=>none
  | r=>r
 | .loop c,fr,H=>iter (λ(s:Ex×Fr×Heap)=>match zn E call fn round fuel c s.2.1 s.2.2 with
   | some (.normal,fr',H')=>some (true,.normal,fr',H')
   | some r=>some (false,r)
   | none=>none) fuel (.normal,fr,H)
 | .region _ d j,fr,H=>bif j then
   (qdy E call d (Region.before d) 0 d.toList [] fr H).map λr=>(.normal,r.1,r.2)
  else qh8 E call round.isNone d d.toList fr H
 | .rangeFunc f e h body,fr,H=>(qwj round H).bind λz=>
  match (opd fr H f).bind λf=>qht f [.func (.yield z.2.1.next) [] []] with
  | some (.call (.func g) args)=>
   bif qos E g then
    match call (.func g) args (z.2.1.new (.loop .ready none fr.tmps fr.n e.toList h body z.2.2)) with
    | some (.ret _,k)=>(qgh k z.2.1.next).map λy=>(y.1,{fr with defers:=z.1++fr.defers},y.2)
    | some (.panic m,k)=>some (.panic m,{fr with defers:=z.1++fr.defers},k)
    | none=>none
   else none
  | _=>none
 | .refuse _,_,_=>none
def qag (E:Env) (fr:Fr) (H:Heap):List ResultVar->Option (List V)
 | []=>some []
 | .tmp t::rs=>(fr.tmp t).bind λv=>(qag E fr H rs).map λb=>v::b
 | .cell a t::rs=>(E.types t).bind λti=>(fr.tmp a).bind λp=>(qkh H ti p).bind λv=>(qag E fr H rs).map λb=>v::b
def qhd (args:List V):Tree V:=Tree.ofList args
def qe9 (n:Nat):List Tmp->List V->Tree V->Option (Tree V)
 | [],[],t=>some t
 | p::ps,v::a,t=>bif Nat.blt p n then qe9 n ps a (t.set p v) else none
 | _,_,_=>none
def znd (ext:Nat) (args:List V):Option V:=
 match ext,args with
 | 1,[.str s,.int .u8 c]=>some (.int .i64 (match s.findIdx? (λb=>b == c.toNat.toUInt8) with | some i=>(i:Int) | none=>-1))
 | 2,[.str s,.int .u8 c]=>some (.int .i64 (s.countP (λb=>b == c.toNat.toUInt8):Nat))
 | 4,[x]=>some x
 | _,_=>none
inductive Md where
 | returning
 | panicking (v:V)
def leave (E:Env) (call:Call) (fuel:Nat):List Dfr->Md->Heap->Option (Md×Heap)
 | [],md,H=>some (md,H)
 | .mark nm::a,md,H=>match H.get nm with
  | some .dfr=>(H.upd nm .gone).bind λH'=>leave E call fuel a md H'
  | _=>none
def zao (E:Env) (call:Call) (fuel:Nat) (x:Ex×Fr×Heap):Option (Md×Fr×Heap):=
 match x.1 with
 | .normal | .ret=>(leave E call fuel x.2.1.defers .returning x.2.2).map λr=>(r.1,x.2.1,r.2)
 | .panic [⟨v,false,false⟩]=>(leave E call fuel x.2.1.defers (.panicking v) x.2.2).map λr=>(r.1,x.2.1,r.2)
 | _=>none
def qin (H:Heap) (l:Nat) (jump:Option Code):Option (CR×Heap):=
 match H.get l with
 | some (.loop _ _ lt ln a b c d)=>(H.upd l (.loop (if jump.isNone then .ready else .done) jump lt ln a b c d)).map λH'=>(.ret (.bool jump.isNone),H')
 | _=>none
def qq2 (l:Nat) (x:Ex×Fr×Heap):Option (CR×Heap):=
 match x.1 with
 | .normal=>qin x.2.2 l none
 | .ret=>qin x.2.2 l (some .ret)
 | .exit id=>qin x.2.2 l (some (.exit id))
 | _=>none
def q0s (H:Heap) (l:Nat):Option Heap:=
 match H.get l with
 | some (.loop .ready a lt ln b c d e)=>H.upd l (.loop .busy a lt ln b c d e)
 | _=>none
def oneOf:List V->V
 | [v]=>v
 | a=>.tuple a
def qux (E:Env) (rs:List ResultVar) (x:Md×Fr×Heap):Option (CR×Heap):=
 match x.1 with
 | .returning=>(qag E x.2.1 x.2.2 rs).map λa=>(.ret (oneOf a),x.2.2)
 | .panicking v=>some (.panic [⟨v,false,false⟩],x.2.2)
def qbh (E:Env):Nat->Call
 | 0,_,_,_=>none
 | n+1,.func f,args,H=>match (match E.spec f with
   | some s=>s args H
   | none=>none) with
  | some r=>some r
  | none=>(E.funcs f).bind λa=>match a.body with
  | some c=>(zn E (qbh E n) f none (n+1) c {tmps:=qhd args,n:=max args.length a.ntmps,defers:=[]} H).bind λx=>
    (zao E (qbh E n) (n+1) x).bind λy=>qux E a.results y
  | none=>(znd a.ext args).map λv=>(.ret v,H)
 | n+1,.round l,args,H=>match H.get l with
  | some (.loop _ _ lt ln b d e _)=>(qe9 ln b args lt).bind λt=>
   match zn E (qbh E n) 0 (some l) (n+1) d {tmps:=t,n:=ln,defers:=[]} H with
   | some (.normal,fr,H1)=>(q0s H1 l).bind λg=>(zn E (qbh E n) 0 (some l) (n+1) e fr g).bind λx=>qq2 l x
   | _=>none
  | _=>none
def qh7 (P:Program):Nat->TypeId->Bool
 | 0,_=>false
 | d+1,t=>match P.underlying t with
  | some (.int _) | some .string | some .bool=>true
  | some (.struct a)=>!P.stoodInHeld t&&!P.eqGuardType P.depth t&&a.all λf=>f.name != "_" && qh7 P d f.type
  | _=>false
def zty:TypeDesc->Bool
 | .struct _ | .array ..=>true
 | _=>false
def typeOf (P:Program) (t:Nat):Option TI:=
 match P.info? t,P.underlying t with
 | some i,some u=>(i.zero.bind (qsu 1000)).bind λz=>bif Nat.beq z.cells.length i.size then some {under:=u,size:=i.size,bytes:=i.bytes,zero:=z,isAgg:=zty u} else none
 | _,_=>none
def qyc (name:String):Nat:=
 if name == "internal/bytealg.IndexByteString" then 1 else if name == "internal/bytealg.CountString" then 2 else if name == "internal/abi.NoEscape" then 4 else 0
def funcOf (P:Program) (f:Nat):Option FI:=
 match P.funcs[f]? with
 | some a=>bif a.name == "runtime.NumGoroutine" then none else
  match a.body with
  | some c=>some {body:=some c,ext:=0,ntmps:=a.ntmps,results:=a.results.toList}
  | none=>some {body:=none,ext:=qyc a.name,ntmps:=0,results:=[]}
 | none=>none
def zr (P:Program) (spec:Nat->Option (List V->Heap->Option (CR×Heap))):Env:=
 {types:=typeOf P,funcs:=funcOf P,spec,eqOk:=qh7 P 20,lies:=λe n off u=>liesAt P P.depth e n off u 1}
end Go.E2
/- E2's memory and values against the model's: the relation, and what keeps it. -/
namespace Go.E2
open Go
theorem Tree.quv {α:Type} (v:Option α) (l r:Tree α) (m:Nat) :
  (Tree.node v l r).get m=if m=0 then v else if m % 2=1 then l.get (m / 2) else r.get (m / 2-1):=by
 simp only [Tree.get,cond_eq_ite,Nat.beq_eq]
theorem Tree.zo5 {α:Type} (a:α) (f:Nat) (t:Tree α) (n:Nat) :
  ∃ v l r,(∀ m,t.get m=(Tree.node v l r).get m)/\Tree.q3f a (f+1) t n=(if n=0 then .node (some a) l r
   else if n % 2=1 then .node v (Tree.q3f a f l (n / 2)) r else .node v l (Tree.q3f a f r (n / 2-1))):=by
 cases t with
 | nil=>exact ⟨none,.nil,.nil,λm=>by rw [Tree.quv];simp [Tree.get],by simp only [Tree.q3f,cond_eq_ite,Nat.beq_eq]⟩
 | node v l r=>exact ⟨v,l,r,λ_=>rfl,by simp only [Tree.q3f,cond_eq_ite,Nat.beq_eq]⟩
theorem Tree.ztf {α:Type} (a:α):∀ (f:Nat) (t:Tree α) (n m:Nat),n<f->
  (Tree.q3f a f t n).get m=if m=n then some a else t.get m:=by
 intro f
 induction f with
 | zero=>simp_all
 | succ f c=>
  intro t n m h;obtain ⟨v,l,r,i,e⟩:=Tree.zo5 a f t n;rw [e,i m];by_cases d:n=0
  .subst d;simp only [if_true,Tree.quv];by_cases j:m=0<;>simp [j]
  .simp only [d,if_false];by_cases g:n % 2=1
   .simp only [g,if_true,Tree.quv];rw [c l (n / 2) (m / 2) (by omega)];by_cases b:m=0
    .grind
    .grind
   .simp only [g,if_false,Tree.quv];rw [c r (n / 2-1) (m / 2-1) (by omega)];by_cases b:m=0
    .grind
    .grind
theorem Tree.jq {α:Type} (t:Tree α) (n:Nat) (a:α) (m:Nat):(t.set n a).get m=if m=n then some a else t.get m:=
 Tree.ztf a (n+1) t n m (by omega)
theorem Tree.q1r {α:Type}:∀ (l:List α) (t:Tree α) (k:Nat) (m:Nat),
  ((l.foldl (λ(s:Tree α×Nat) a=>(s.1.set s.2 a,s.2+1)) (t,k)).1).get m=if k<=m/\m<k+l.length then l[m-k]? else t.get m:=by
 intro l
 induction l with
 | nil=>grind
 | cons a l b=>
  intro t k m;simp only [List.foldl_cons,List.length_cons];rw [b];by_cases c:k+1<=m/\m<k+1+l.length
  .grind
  .rw [zF c,Tree.jq];by_cases d:m=k
   .subst d;simp
   .grind
theorem Tree.qta {α:Type} (l:List α) (m:Nat):(Tree.ofList l).get m=l[m]?:=by
 unfold Tree.ofList;rw [Tree.q1r];by_cases h:m<l.length
 .simp [h]
 .simp only [Nat.zero_le,true_and,Nat.zero_add,h,if_false,Tree.get];exact (List.getElem?_eq_none (by omega)).symm
abbrev qk:=Nat->Nat->Option (Nat×Nat×Nat)
def qko (G:qk) (b:Nat):Prop:=∀ nm g a n,G nm g≠some (b,a,n)
def qr4 (G:qk) (f a:Fn):Prop:=
 match f with
 | .yield l=>∃ b c n,G l 0=some (b,c,n)/\a=.yield b
 | f=>a=f
mutual
def Rel (G:qk) (w:World):V->Value->Prop
 | .int k n,v=>v=.int k n
 | .bool b,v=>v=.bool b
 | .str s,v=>v=.string ⟨s.toArray⟩
 | .ptr nm g off lim,v=>∃ b f n,G nm g=some (b,f,n)/\f<=off/\lim<=n/\v=.pointer (some ⟨b,off-f,none⟩)
 | .nilp,v=>v=.pointer none
 | .slice nm g off len sz cap,v=>∃ b f n ro c e m ad,G nm g=some (b,f,n)/\v=.slice (some ad) len c/\(c=0∨ad=⟨b,ro,none⟩)/\len<=c/\f<=off/\
   off+len * sz<=n/\(ro+f=off∨c=0)/\(∀ k,cap=some k->c=k/\off+k * sz<=n)/\w.shape? b=some (e,m)/\ro+c * sz<=m
 | .nils,v=>v=.slice none 0 0
 | .func i first d,v=>∃ h a c,v=.func h a c/\qr4 G i h/\qq G w first a.toList/\qq G w d c.toList
 | .nilf,v=>v=.nilFunc
 | .iface t x,v=>∃ y,v=.iface t y/\Rel G w x y
 | .nili,v=>v=.nilIface
 | .agg cs,v=>∃ a,v=.agg a/\qq G w cs a.toList
 | .tuple j,v=>∃ a,v=.tuple a/\qq G w j a.toList
 | .map nm,v=>∃ b f n,G nm 0=some (b,f,n)/\v=.map (some b)
 | .nilm,v=>v=.map none
def qq (G:qk) (w:World):List V->List Value->Prop
 | [],l=>l=[]
 | v::b,l=>∃ x a,l=x::a/\Rel G w v x/\qq G w b a
end
theorem V.qi2 {nm g off len sz:Nat} {cap:Option Nat}:V.qfn sz (.slice nm g off len sz cap)=.slice nm g off len sz cap:=by
 cases cap with
 | none=>rfl
 | some c=>simp only [V.qfn];cases Nat.beq c 0<;>rfl
theorem V.qg8 {nm g off len z sz:Nat} {cap:Option Nat}:V.qfn sz (.slice nm g off len z cap)=.slice nm g off len z cap∨(cap=some 0/\V.qfn sz (.slice nm g off len z cap)=.slice nm g off len sz cap):=by
 cases cap with
 | none=>exact .inl rfl
 | some c=>cases c with
  | zero=>exact .inr ⟨rfl,rfl⟩
  | succ c=>exact .inl rfl
theorem V.zow {sz:Nat} {v:V}:(v.qfn sz).qfn sz=v.qfn sz:=by
 cases v with
 | slice nm g off len z cap=>
  rcases V.qg8 (nm:=nm) (g:=g) (off:=off) (len:=len) (z:=z) (sz:=sz) (cap:=cap) with e | ⟨_,e⟩
  .rw [e,e]
  .rw [e,V.qi2]
 | _=>rfl
theorem zcc {H:Heap} {sz:Nat} {v:V}:js H sz (v.qfn sz)=js H sz v:=by unfold js;rw [V.zow]
theorem V.q97 {sz:Nat} {v:V}:(v.qfn sz).nm=v.nm:=by
 cases v with
 | slice nm g off len z cap=>
  rcases V.qg8 (nm:=nm) (g:=g) (off:=off) (len:=len) (z:=z) (sz:=sz) (cap:=cap) with e | ⟨_,e⟩
  .rw [e]
  .rw [e];rfl
 | _=>rfl
theorem V.zv6 {sz:Nat} {v:V} {s:List UInt8} (h:v.qfn sz=.str s):v=.str s:=by
 cases v with
 | slice nm g off len z cap=>rcases V.qg8 (nm:=nm) (g:=g) (off:=off) (len:=len) (z:=z) (sz:=sz) (cap:=cap) with e | ⟨_,e⟩<;>rw [e] at h<;>cases h
 | _=>exact h
theorem Rel.qfn {G:qk} {w:World} {v:V} {a:Value} (sz:Nat) (h:Rel G w v a):Rel G w (v.qfn sz) a:=by
 cases v with
 | slice nm g off len z cap=>
  rcases V.qg8 (nm:=nm) (g:=g) (off:=off) (len:=len) (z:=z) (sz:=sz) (cap:=cap) with e | ⟨rfl,e⟩
  .simp_all
  .rw [e];obtain ⟨b,d,n,ro,c,f,m,ad,i,j,s,l,o,t,u,p,q,x⟩:=h;obtain ⟨rfl,_⟩:=p 0 rfl;obtain rfl:len=0:=by omega
   exact ⟨b,d,n,ro,0,f,m,ad,i,j,.inl rfl,l,o,by omega,.inr rfl,λk r=>by cases r;exact ⟨rfl,by omega⟩,q,by omega⟩
 | _=>exact h
theorem qq.length {G:qk} {w:World}:∀ {a:List V} {l:List Value},qq G w a l->a.length=l.length
 | [],_,h=>by simp [qq] at h;simp [h]
 | v::a,_,h=>by
  simp only [qq] at h;obtain ⟨x,c,rfl,_,b⟩:=h;simp [qq.length b]
theorem qq.cons {G:qk} {w:World} {v:V} {a:List V} {x:Value} {xs:List Value} (b:Rel G w v x) (c:qq G w a xs):qq G w (v::a) (x::xs):=by
 simp only [qq];exact ⟨x,xs,rfl,b,c⟩
theorem qq.nil {G:qk} {w:World}:qq G w [] []:=by simp [qq]
theorem qq.zbw {G:qk} {w:World} {v:V} {c:List V} {x:Value} {xs:List Value}:qq G w (v::c) (x::xs)↔Rel G w v x/\qq G w c xs:=by
 constructor
 .rintro ⟨y,d,h,a,b⟩;cases h;exact ⟨a,b⟩
 .rintro ⟨a,b⟩;exact ⟨x,xs,rfl,a,b⟩
theorem qq.append {G:qk} {w:World}:∀ {b:List V} {l:List Value} {a:List V} {d:List Value},qq G w b l->qq G w a d->qq G w (b++a) (l++d)
 | [],_,_,_,h,c=>by simp [qq] at h;simpa [h] using c
 | v::b,_,_,_,h,c=>by
  simp only [qq] at h;obtain ⟨x,g,rfl,e,f⟩:=h;exact qq.cons e (qq.append f c)
theorem qq.take {G:qk} {w:World}:∀ {a:List V} {l:List Value} (n:Nat),qq G w a l->qq G w (a.take n) (l.take n)
 | [],_,n,h=>by simp [qq] at h;simp [h,qq]
 | v::a,_,0,h=>by simp [qq]
 | v::a,_,n+1,h=>by
  simp only [qq] at h;obtain ⟨x,d,rfl,b,c⟩:=h;exact qq.cons b (qq.take n c)
theorem qq.drop {G:qk} {w:World}:∀ {a:List V} {l:List Value} (n:Nat),qq G w a l->qq G w (a.drop n) (l.drop n)
 | [],_,n,h=>by simp [qq] at h;simp [h,qq]
 | v::a,_,0,h=>by simpa using h
 | v::a,_,n+1,h=>by
  simp only [qq] at h;obtain ⟨x,c,rfl,d,b⟩:=h;simpa using qq.drop n b
theorem qq.get {G:qk} {w:World}:∀ {a:List V} {l:List Value} {i:Nat} {v:V},qq G w a l->a[i]? = some v->∃ x,l[i]? = some x/\Rel G w v x
 | [],_,_,_,_,h=>by simp at h
 | u::a,_,0,_,h,hi=>by
  simp only [qq] at h;obtain ⟨x,d,rfl,b,c⟩:=h;simp at hi;subst hi;exact ⟨x,rfl,b⟩
 | u::a,_,i+1,_,h,hi=>by
  simp only [qq] at h;obtain ⟨x,d,rfl,b,c⟩:=h;have e:=qq.get (i:=i) c (by simpa using hi);simpa using e
structure Ext (r:Nat) (G:qk) (w:World) (G':qk) (w':World):Prop where
 sub:∀ nm g x,G nm g=some x->G' nm g=some x
 frg:∀ b,b<w.heap.size->qko G b->w'.heap[b]? = w.heap[b]?/\qko G' b
 size:w.heap.size<=w'.heap.size
 shp:∀ b x,w.shape? b=some x->w'.shape? b=some x
 ro:∀ nm g b sh n,nm<r->G nm g=some (b,sh,n)->w'.heap[b]? = w.heap[b]?
 out:w'.os=w.os/\w'.output=w.output
theorem Ext.refl (r:Nat) (G:qk) (w:World):Ext r G w G w:=
 ⟨λ_ _ _ h=>h,λ_ _ h=>⟨rfl,h⟩,zN _,λ_ _ h=>h,λ_ _ _ _ _ _ _=>rfl,rfl,rfl⟩
theorem Ext.trans {r:Nat} {G f c:qk} {w w' d:World} (h:Ext r G w f w') (a:Ext r f w' c d):Ext r G w c d:=
 ⟨λnm g x e=>a.sub nm g x (h.sub nm g x e),
  λb i o=>by
   have j:=h.frg b i o;have k:=a.frg b (zL i h.size) j.2;exact ⟨k.1.trans j.1,k.2⟩,
  zR h.size a.size,λb x e=>a.shp b x (h.shp b x e),
  λnm g b l n m e=>(a.ro nm g b l n m (h.sub _ _ _ e)).trans (h.ro nm g b l n m e),a.out.1.trans h.out.1,a.out.2.trans h.out.2⟩
theorem Ext.mono {r a:Nat} {G c:qk} {w w':World} (h:Ext r G w c w') (d:a<=r):Ext a G w c w':=
 ⟨h.sub,h.frg,h.size,h.shp,λnm g b f n i e=>h.ro nm g b f n (zL i d) e,h.out⟩
structure Up (G:qk) (w:World) (G':qk) (w':World):Prop where
 sub:∀ nm g x,G nm g=some x->G' nm g=some x
 shp:∀ b x,w.shape? b=some x->w'.shape? b=some x
theorem Ext.up {r:Nat} {G a:qk} {w w':World} (h:Ext r G w a w'):Up G w a w':=⟨h.sub,h.shp⟩
theorem qr4.ext {G a:qk} (d:∀ nm g x,G nm g=some x->a nm g=some x) {f c:Fn} (h:qr4 G f c):qr4 a f c:=by
 cases f with
 | yield l=>obtain ⟨b,i,n,e,r⟩:=h;exact ⟨b,i,n,d _ _ _ e,r⟩
 | _=>exact h
theorem ql7 {w:World} {b:Nat} {o:Obj} (h:w.heap[b]? = some o):b<w.heap.size:=by
 rw [Array.getElem?_eq_some_iff] at h;exact h.1
mutual
theorem Rel.up {G p:qk} {w w':World} (h:Up G w p w'):∀ {v:V} {x:Value},Rel G w v x->Rel p w' v x
 | .int _ _,_,e | .bool _,_,e | .str _,_,e | .nilp,_,e | .nils,_,e | .nilf,_,e | .nili,_,e | .nilm,_,e=>by simpa [Rel] using e
 | .ptr nm g off lim,_,e=>by
  simp only [Rel] at e ⊢;obtain ⟨b,j,n,d,f⟩:=e;exact ⟨b,j,n,h.sub _ _ _ d,f⟩
 | .slice nm g off len sz cap,_,e=>by
  simp only [Rel] at e ⊢;obtain ⟨b,j,n,ro,c,q,m,ad,d,f,r,k,l,s,u,z,A,B⟩:=e;exact ⟨b,j,n,ro,c,q,m,ad,h.sub _ _ _ d,f,r,k,l,s,u,z,h.shp _ _ A,B⟩
 | .func C first i,_,e=>by
  simp only [Rel] at e ⊢;obtain ⟨o,a,c,d,f,k,l⟩:=e;exact ⟨o,a,c,d,f.ext h.sub,qq.up h k,qq.up h l⟩
 | .iface t x,_,e=>by
  simp only [Rel] at e ⊢;obtain ⟨y,d,f⟩:=e;exact ⟨y,d,Rel.up h f⟩
 | .agg cs,_,e=>by
  simp only [Rel] at e ⊢;obtain ⟨a,d,f⟩:=e;exact ⟨a,d,qq.up h f⟩
 | .tuple cs,_,e=>by
  simp only [Rel] at e ⊢;obtain ⟨a,d,f⟩:=e;exact ⟨a,d,qq.up h f⟩
 | .map nm,_,e=>by
  simp only [Rel] at e ⊢;obtain ⟨b,j,n,d,f⟩:=e;exact ⟨b,j,n,h.sub _ _ _ d,f⟩
theorem qq.up {G b:qk} {w w':World} (h:Up G w b w'):∀ {a:List V} {l:List Value},qq G w a l->qq b w' a l
 | [],_,e=>by simpa [qq] using e
 | v::a,_,e=>by
  simp only [qq] at e ⊢;obtain ⟨x,c,d,f,g⟩:=e;exact ⟨x,c,d,Rel.up h f,qq.up h g⟩
end
theorem Rel.ext {r:Nat} {G a:qk} {w w':World} (h:Ext r G w a w') {v:V} {x:Value} (e:Rel G w v x):Rel a w' v x:=Rel.up h.up e
theorem qq.ext {r:Nat} {G a:qk} {w w':World} (h:Ext r G w a w') {b:List V} {l:List Value} (e:qq G w b l):qq a w' b l:=qq.up h.up e
def jo (G:qk) (w:World):List V->List Value->Prop
 | [],l=>l=[]
 | v::b,l=>∃ x a,l=x::a/\(isHole v=true∨Rel G w v x)/\jo G w b a
theorem qq.c {G:qk} {w:World}:∀ {a:List V} {l:List Value},qq G w a l->jo G w a l
 | [],_,h=>by simp [qq] at h;simp [jo,h]
 | v::a,_,h=>by
  simp only [qq] at h;obtain ⟨x,b,rfl,d,e⟩:=h;simp only [jo];exact ⟨x,b,rfl,.inr d,e.c⟩
theorem jo.l {G:qk} {w:World}:∀ {a:List V} {l:List Value},jo G w a l->a.any isHole=false->qq G w a l
 | [],_,h,_=>by simp [jo] at h;simp [qq,h]
 | v::a,_,h,b=>by
  simp only [jo] at h;obtain ⟨x,c,rfl,d,e⟩:=h;simp only [List.any_cons,Bool.or_eq_false_iff] at b;simp only [qq];refine ⟨x,c,rfl,d.resolve_left (by rw [b.1];exact Bool.false_ne_true),e.l b.2⟩
theorem jo.length {G:qk} {w:World}:∀ {a:List V} {l:List Value},jo G w a l->a.length=l.length
 | [],_,h=>by simp [jo] at h;simp [h]
 | v::a,_,h=>by
  simp only [jo] at h;obtain ⟨x,c,rfl,_,b⟩:=h;simp [jo.length b]
theorem jo.append {G:qk} {w:World}:∀ {b:List V} {l:List Value} {a:List V} {d:List Value},jo G w b l->jo G w a d->jo G w (b++a) (l++d)
 | [],_,_,_,h,c=>by simp [jo] at h;simpa [h] using c
 | v::b,_,_,_,h,c=>by
  simp only [jo] at h;obtain ⟨x,g,rfl,e,f⟩:=h;simp only [List.cons_append,jo];exact ⟨x,_,rfl,e,jo.append f c⟩
theorem jo.take {G:qk} {w:World}:∀ {a:List V} {l:List Value} (n:Nat),jo G w a l->jo G w (a.take n) (l.take n)
 | [],_,n,h=>by simp [jo] at h;simp [h,jo]
 | v::a,_,0,h=>by simp [jo]
 | v::a,_,n+1,h=>by
  simp only [jo] at h;obtain ⟨x,d,rfl,b,c⟩:=h;simp only [List.take_succ_cons,jo];exact ⟨x,_,rfl,b,jo.take n c⟩
theorem jo.drop {G:qk} {w:World}:∀ {a:List V} {l:List Value} (n:Nat),jo G w a l->jo G w (a.drop n) (l.drop n)
 | [],_,n,h=>by simp [jo] at h;simp [h,jo]
 | v::a,_,0,h=>by simpa using h
 | v::a,_,n+1,h=>by
  simp only [jo] at h;obtain ⟨x,c,rfl,d,b⟩:=h;simpa using jo.drop n b
theorem jo.up {G b:qk} {w w':World} (h:Up G w b w'):∀ {a:List V} {l:List Value},jo G w a l->jo b w' a l
 | [],_,e=>by simpa [jo] using e
 | v::a,_,e=>by
  simp only [jo] at e ⊢;obtain ⟨x,c,d,f,g⟩:=e;exact ⟨x,c,d,f.imp id (Rel.up h),jo.up h g⟩
theorem jo.ext {r:Nat} {G a:qk} {w w':World} (h:Ext r G w a w') {b:List V} {l:List Value} (e:jo G w b l):jo a w' b l:=jo.up h.up e
theorem qo2 {cs a:List V} (h:qna cs=some a):a=cs/\cs.any isHole=false:=by
 unfold qna at h;cases b:cs.any isHole with
 | true=>simp_all
 | false=>simp_all
def ZS (u:V):Prop:=∃ nm g off len cap,u=.slice nm g off len 0 cap
theorem qtg {v:V}:isHole v=true↔∃ u,v=.tuple [u]/\ZS u:=by
 unfold isHole;split
 .exact ⟨λ_=>⟨_,rfl,_,_,_,_,_,rfl⟩,λ_=>rfl⟩
 .rename_i h;exact ⟨λh=>(by cases h),λ⟨u,a,nm,g,off,len,cap,b⟩=>(h nm g off len cap (by rw [a,b])).elim⟩
theorem qjy {cs:List V} (h:∀ v ∈ cs,isHole v=false):qna cs=some cs:=by
 unfold qna;have:cs.any isHole=false:=by
  rw [<-Bool.not_eq_true,List.any_eq_true];rintro ⟨v,b,a⟩;rw [h v b] at a;cases a
 rw [this];rfl
theorem Tree.quu {α:Type}:∀ (t:Tree α) (n m:Nat),(t.del n).get m=if m=n then none else t.get m
 | .nil,n,m=>by simp [Tree.del,Tree.get]
 | .node v l r,n,m=>by
  simp only [Tree.del,cond_eq_ite,Nat.beq_eq];by_cases d:n=0
  .subst d;simp only [if_true,Tree.get,cond_eq_ite,Nat.beq_eq];by_cases b:m=0<;>simp [b]
  .rw [zF d];by_cases e:n % 2=1
   .rw [zT e];simp only [Tree.get,cond_eq_ite,Nat.beq_eq,Tree.quu l];by_cases b:m=0
    .simp [b,Ne.symm d]
    .by_cases c:m % 2=1
     .simp only [b,if_false,c,if_true];by_cases a:m=n
      .subst a;simp
      .have:¬ m / 2=n / 2:=by omega
       simp [a,this]
     .have a:m≠n:=by intro a;subst a;exact c e
      simp [b,c,a]
   .rw [zF e];simp only [Tree.get,cond_eq_ite,Nat.beq_eq,Tree.quu r];by_cases b:m=0
    .simp [b,Ne.symm d]
    .by_cases c:m % 2=1
     .have a:m≠n:=by intro a;subst a;exact e c
      simp [b,c,a]
     .simp only [b,if_false,c];by_cases a:m=n
      .subst a;simp
      .have:¬ m / 2-1=n / 2-1:=by omega
       simp [a,this]
theorem qaj {α:Type} (src:Tree α):∀ (l:List Nat) (t:Tree α) (m:Nat),(jj src l t).get m=if m ∈ l then src.get m else t.get m
 | [],t,m=>by simp [jj]
 | n::l,t,m=>by
  simp only [jj];rw [qaj src l];by_cases h:m ∈ l
  .simp [h]
  .simp only [h,if_false,zD,or_false];by_cases b:m=n
   .subst b;cases c:src.get m with
    | none=>simp [Tree.quu]
    | some a=>simp [Tree.jq]
   .rw [zF b];cases c:src.get n with
    | none=>simp [Tree.quu,b]
    | some a=>simp [Tree.jq,b]
end Go.E2
/- E2's memory against the model's: what holds of every name, and how a step keeps it. -/
namespace Go.E2
open Go
def q4m (G:qk) (w:World) (t:Tree V) (arr:Array Value):Prop:=∀ k v,t.get k=some v->Rel G w v (arr.getD k undef)
def qb8 (G:qk) (w:World):List (V×V×Nat)->List MapEntry->Prop
 | [],l=>l=[]
 | (k,v,b)::c,l=>∃ x a,l=x::a/\Rel G w k x.key/\Rel G w v x.val/\x.born=b/\qb8 G w c a
def qfb (G:qk) (w:World) (nm:Nat) (o:O):Prop:=
 match o with
 | .row cells elem gen floor frz exact=>floor<=gen/\(exact=true->gen=0)/\∀ g b c n,G nm g=some (b,c,n)->
   g<=gen/\c<=n/\n<=cells.length/\(g=gen->n=cells.length)/\(exact=true->c=0)/\
   (floor<=g->∃ e fz,w.heap[b]? = some (.cells e elem fz)/\n-c<=e.size/\jo G w ((cells.take n).drop c) (e.toList.take (n-c))/\
     (g=gen->∀ i,frz<=i+c->i<fz.2->False)/\(exact=true->e.size=cells.length))
 | .map r j=>∀ g b c n,G nm g=some (b,c,n)->g=0/\∃ k,w.heap[b]? = some (.map k j)/\qb8 G w r k.toList
 | .loop st d l n f a body h=>∀ g b c m,G nm g=some (b,c,m)->g=0/\
   ∃ L,w.heap[b]? = some (.loop L)/\L.state=st/\L.pending=d/\L.params.toList=f/\L.assign=a/\L.body=body/\codeOk a=true/\codeOk body=true/\
    L.tmps.size=n/\q4m G w l L.tmps/\∃ q p s,G h 0=some (q,p,s)/\L.defers=q
 | .dfr=>∀ g b c n,G nm g=some (b,c,n)->g=0/\w.heap[b]? = some (.deferred (some []))
 | .gone=>True
structure Sim (H:Heap) (G:qk) (w:World):Prop where
 lt:∀ nm g b sh n,G nm g=some (b,sh,n)->b<w.heap.size/\nm<H.next
 inj:∀ nm g b sh n nm' g' sh' n',G nm g=some (b,sh,n)->G nm' g'=some (b,sh',n')->nm=nm'/\sh=sh'
 obj:∀ nm o,nm<H.next->H.get nm=some o->qfb G w nm o
 ro:H.ro<=H.next
 zm:H.zm<=H.ro
 globs:∀ g o,g<H.zm->H.get g=some o->∃ n,G g 0=some (g,0,n)
theorem q4m.up {G a:qk} {w w':World} (h:Up G w a w') {t:Tree V} {arr:Array Value} (e:q4m G w t arr):q4m a w' t arr:=
 λk v b=>Rel.up h (e k v b)
theorem q4m.ext {r:Nat} {G a:qk} {w w':World} (h:Ext r G w a w') {t:Tree V} {arr:Array Value} (e:q4m G w t arr):q4m a w' t arr:=e.up h.up
theorem qb8.up {G c:qk} {w w':World} (h:Up G w c w'):∀ {a:List (V×V×Nat)} {l:List MapEntry},qb8 G w a l->qb8 c w' a l
 | [],_,e=>by simpa [qb8] using e
 | (k,v,b)::a,_,e=>by
  simp only [qb8] at e ⊢;obtain ⟨x,d,f,g,i,j,m⟩:=e;exact ⟨x,d,f,Rel.up h g,Rel.up h i,j,qb8.up h m⟩
theorem qb8.ext {r:Nat} {G a:qk} {w w':World} (h:Ext r G w a w') {es:List (V×V×Nat)} {l:List MapEntry} (e:qb8 G w es l):qb8 a w' es l:=e.up h.up
theorem qfb.up {G r:qk} {w w':World} {nm:Nat} {o:O} (h:Up G w r w') (k:∀ g x,r nm g=some x->G nm g=some x)
  (hw:∀ g b c n,G nm g=some (b,c,n)->w'.heap[b]? = w.heap[b]?) (e:qfb G w nm o):qfb r w' nm o:=by
 cases o with
 | row cells elem gen floor frz exact=>
  refine ⟨e.1,e.2.1,λg b c n d=>?_⟩;have a:=k _ _ d;obtain ⟨f,i,s,t,u,v⟩:=e.2.2 g b c n a;refine ⟨f,i,s,t,u,λI=>?_⟩;obtain ⟨y,fz,J,K,a3,M⟩:=v I;exact ⟨y,fz,(hw _ _ _ _ a).trans J,K,jo.up h a3,M⟩
 | map U z=>
  intro g b c n d;have a:=k _ _ d;obtain ⟨A,B,f,i⟩:=e g b c n a;exact ⟨A,B,(hw _ _ _ _ a).trans f,qb8.up h i⟩
 | loop st j H n l p body q=>
  intro g b c m d;have a:=k _ _ d;obtain ⟨A,L,f,i,s,t,v,N,P,C,Q,R,S,D,T,E,F⟩:=e g b c m a;exact ⟨A,L,(hw _ _ _ _ a).trans f,i,s,t,v,N,P,C,Q,R.up h,S,D,T,h.sub _ _ _ E,F⟩
 | dfr=>
  intro g b c n d;have a:=k _ _ d;exact ⟨(e g b c n a).1,(hw _ _ _ _ a).trans (e g b c n a).2⟩
 | gone=>trivial
theorem qfb.ext {r:Nat} {G a:qk} {w w':World} {nm:Nat} {o:O} (h:Ext r G w a w') (c:∀ g x,a nm g=some x->G nm g=some x)
  (hw:∀ g b d n,G nm g=some (b,d,n)->w'.heap[b]? = w.heap[b]?) (e:qfb G w nm o):qfb a w' nm o:=e.up h.up c hw
structure Step (H:Heap) (G:qk) (w:World) (H':Heap) (G':qk) (w':World):Prop where
 ext:Ext H.ro G w G' w'
 sim:Sim H' G' w'
 next:H.next<=H'.next
 ro:H'.ro=H.ro
 zm:H'.zm=H.zm
 keep:∀ nm,nm<H.ro->H'.get nm=H.get nm
 newG:∀ nm g x,G' nm g=some x->nm<H.ro->G nm g=some x
 frame:∀ nm,nm<H.next->H.get nm=none->H'.get nm=none/\(∀ g b sh n,G nm g=some (b,sh,n)->w'.heap[b]? = w.heap[b]?)/\∀ g x,G' nm g=some x->G nm g=some x
theorem Step.refl {H:Heap} {G:qk} {w:World} (h:Sim H G w):Step H G w H G w:=
 ⟨Ext.refl _ _ _,h,zN _,rfl,rfl,λ_ _=>rfl,λ_ _ _ h _=>h,λ_ _ h=>⟨h,λ_ _ _ _ _=>rfl,λ_ _ h=>h⟩⟩
theorem Step.trans {H H' d:Heap} {G j e:qk} {w w' f:World} (h:Step H G w H' j w') (a:Step H' j w' d e f):Step H G w d e f:=by
 refine ⟨h.ext.trans (h.ro ▸ a.ext),a.sim,zR h.next a.next,a.ro.trans h.ro,a.zm.trans h.zm,λnm c=>?_,λnm g x i c=>?_,λnm c m=>?_⟩
 .rw [a.keep nm (h.ro.symm ▸ c),h.keep nm c]
 .exact h.newG nm g x (a.newG nm g x i (h.ro.symm ▸ c)) c
 .obtain ⟨o,p,a3⟩:=h.frame nm c m;obtain ⟨q,r,s⟩:=a.frame nm (zL c h.next) o;exact ⟨q,λg b k n l=>(r g b k n (h.ext.sub _ _ _ l)).trans (p g b k n l),λg x i=>a3 g x (s g x i)⟩
theorem Sim.turn {H H':Heap} {G t:qk} {w w':World} (h:Sim H G w) (a:Nat) (o:O)
  (N:∀ nm,H'.get nm=if nm=a then some o else H.get nm) (k:H.next<=H'.next) (R:∀ nm,nm<H'.next->nm≠a->nm<H.next) (A:H'.ro=H.ro) (l:H'.zm=H.zm) (V:H.ro<=a) (a1:a<H'.next) (S:H.next<=a∨H.get a≠none)
  (C:∀ nm g x,G nm g=some x->t nm g=some x) (e:∀ nm g x,t nm g=some x->nm≠a->G nm g=some x)
  (p:w.heap.size<=w'.heap.size)
  (i:∀ g b d n,t a g=some (b,d,n)->b<w'.heap.size/\(w.heap.size<=b∨∃ q r,G a q=some (b,d,r)))
  (W:∀ g b d n q f r,t a g=some (b,d,n)->t a q=some (b,f,r)->w.heap.size<=b->d=f)
  (hw:∀ b,b<w.heap.size->(∀ g d n,G a g≠some (b,d,n))->w'.heap[b]? = w.heap[b]?)
  (D:∀ b x,w.shape? b=some x->w'.shape? b=some x)
  (X:Ext H.ro G w t w'->qfb t w' a o) (E:w'.os=w.os/\w'.output=w.output:=by exact ⟨rfl,rfl⟩):Step H G w H' t w':=by
 have F:∀ b,b<w.heap.size->qko G b->qko t b:=by
  intro b v I nm g d n j;by_cases c:nm=a
  .subst c;rcases (i g b d n j).2 with u | ⟨q,r,u⟩
   .omega
   .exact I _ _ _ _ u
  .exact I _ _ _ _ (e _ _ _ j c)
 have y:Ext H.ro G w t w':=by
  refine ⟨C,λb v I=>⟨hw b v (λg d n=>I a g d n),F b v I⟩,p,D,λnm g b d n hr j=>?_,E⟩;have T:=h.lt nm g b d n j;refine hw b T.1 (λq f r J=>?_);have:=(h.inj nm g b d n a q f r j J).1;omega
 refine ⟨y,⟨λnm g b d n j=>?_,λnm g b d n K q f r u P=>?_,λnm U L B=>?_,by rw [A];exact zR h.ro k,by rw [l,A];exact h.zm,λg U j B=>?_⟩,k,A,l,λnm Q=>?_,λnm g x M Q=>?_,λnm Q s=>?_⟩
 .by_cases c:nm=a
  .grind
  .have:=h.lt _ _ _ _ _ (e _ _ _ j c);exact ⟨zL this.1 p,zL this.2 k⟩
 .by_cases c:nm=a
  .by_cases m:K=a
   .subst c;subst m;refine ⟨rfl,?_⟩;rcases (i g b d n u).2 with z | ⟨Y,Z,z⟩
    .grind
    .rcases (i q b f r P).2 with h4 | ⟨g4,n4,h4⟩
     .grind
     .exact (h.inj _ _ _ _ _ _ _ _ _ z h4).2
   .exfalso;subst c;have v:=e _ _ _ P m;rcases (i g b d n u).2 with z | ⟨Y,Z,z⟩
    .have:=(h.lt _ _ _ _ _ v).1;omega
    .exact m (h.inj _ _ _ _ _ _ _ _ _ v z).1
  .by_cases m:K=a
   .exfalso;subst m;have v:=e _ _ _ u c;rcases (i q b f r P).2 with z | ⟨Y,Z,z⟩
    .have:=(h.lt _ _ _ _ _ v).1;omega
    .exact c (h.inj _ _ _ _ _ _ _ _ _ v z).1
   .exact h.inj _ _ _ _ _ _ _ _ _ (e _ _ _ u c) (e _ _ _ P m)
 .rw [N] at B;by_cases c:nm=a
  .simp_all
  .rw [zF c] at B;refine (h.obj nm U (R nm L c) B).ext y (λg x M=>e _ _ _ M c) (λg b d n j=>?_);exact hw b (h.lt _ _ _ _ _ j).1 (λq f r J=>c (h.inj _ _ _ _ _ _ _ _ _ j J).1)
 .rw [l] at j;have:=h.zm;rw [N,zF (by omega)] at B;obtain ⟨n,Q⟩:=h.globs g U j B;exact ⟨n,C _ _ _ Q⟩
 .rw [N,zF (by omega)]
 .exact e _ _ _ M (by omega)
 .have c:nm≠a:=by
   intro c;subst c;rcases S with u | u
   .omega
   .exact u s
  refine ⟨by rw [N,zF c];exact s,λg b d n j=>?_,λg x M=>e _ _ _ M c⟩;exact hw b (h.lt _ _ _ _ _ j).1 (λq f r J=>c (h.inj _ _ _ _ _ _ _ _ _ j J).1)
def qik (G:qk) (nm g:Nat) (x:Nat×Nat×Nat):qk:=λa b=>if a=nm/\b=g then some x else G a b
theorem qdz (G:qk) (nm g:Nat) (x):qik G nm g x nm g=some x:=by simp [qik]
def push (w:World) (o:Obj):World:={w with heap:=w.heap.push o}
theorem qd1 (w:World) (o:Obj):(push w o).heap[w.heap.size]? = some o:=Array.getElem?_push_size
theorem size_push (w:World) (o:Obj):(push w o).heap.size=w.heap.size+1:=Array.size_push _
theorem q3h {w:World} {o:Obj} {b:Nat} {x} (h:w.shape? b=some x):(push w o).shape? b=some x:=by
 unfold World.shape? at *;simp only [push];by_cases a:b<w.heap.size
 .grind
 .simp_all
theorem qot {w:World} {o:Obj} {b:Nat} (a:b<w.heap.size):(push w o).heap[b]? = w.heap[b]?:=by
 simp only [push];rw [Array.getElem?_push_lt a,<-Array.getElem?_eq_getElem a]
theorem Heap.q87 (H:Heap) (o:O) (nm:Nat):(H.new o).get nm=if nm=H.next then some o else H.get nm:=by
 simp only [Heap.get,Heap.new,Tree.jq]
theorem Sim.fresh {H:Heap} {G:qk} {w:World} (a:Sim H G w) (g:Nat):G H.next g=none:=by
 cases h:G H.next g with
 | none=>rfl
 | some x=>have:=(a.lt _ _ _ _ _ h).2;omega
theorem Sim.new {H:Heap} {G:qk} {w:World} (a:Sim H G w) (o:O) (j:Obj) (n:Nat)
  (d:Ext H.ro G w (qik G H.next 0 (w.heap.size,0,n)) (push w j)->qfb (qik G H.next 0 (w.heap.size,0,n)) (push w j) H.next o) :
  Step H G w (H.new o) (qik G H.next 0 (w.heap.size,0,n)) (push w j):=by
 refine a.turn H.next o (Heap.q87 H o) (by simp [Heap.new]) (λnm e i=>by simp only [Heap.new] at e;omega) rfl rfl a.ro (by simp [Heap.new]) (.inl (zN _)) (λnm g x c=>?_) (λnm g x c s=>?_) (by simp [size_push])
  (λg b k m f=>?_) (λg b k m l p t e i _=>?_) (λb q _=>qot q) (λb x h=>q3h h) d
 .simp only [qik];by_cases h:nm=H.next/\g=0
  .rw [h.1,a.fresh] at c;simp at c
  .simp_all
 .simp only [qik] at c;rw [zF (by omega)] at c;exact c
 .simp only [qik] at f;by_cases h:g=0
  .rw [zT ⟨trivial,h⟩] at f;cases f;exact ⟨by simp [size_push],.inl (zN _)⟩
  .rw [zF (λx=>h x.2),a.fresh] at f;simp at f
 .simp only [qik] at e i;by_cases h:g=0
  .by_cases r:l=0
   .simp_all
   .rw [zF (λx=>r x.2),a.fresh] at i;simp at i
  .rw [zF (λx=>h x.2),a.fresh] at e;simp at e
def qts (w:World) (b:Nat) (a:Obj):World:={w with heap:=w.heap.setIfInBounds b a}
theorem qqi {w:World} {b:Nat} {c a:Obj} (h:w.heap[b]? = some c):(qts w b a).heap[b]? = some a:=by
 have d:b<w.heap.size:=by rw [Array.getElem?_eq_some_iff] at h;exact h.1
 exact Array.getElem?_setIfInBounds_self_of_lt d
theorem quz {w:World} {b a:Nat} {c:Obj} (h:a≠b):(qts w b c).heap[a]? = w.heap[a]?:=by
 exact Array.getElem?_setIfInBounds_ne (Ne.symm h)
theorem Sim.setObj {H:Heap} {G:qk} {w:World} (g:Sim H G w) {nm b q n:Nat} {o:O} (i:O) (t:H.get nm=some o) (r:G nm 0=some (b,q,n)) (j:H.ro<=nm) {u:Obj} (a:Obj) (B:w.heap[b]? = some u)
  (v:w.shape? b=none) (c:Ext H.ro G w G (qts w b a)->qfb G (qts w b a) nm i) :
  Step H G w {H with qcg:=H.qcg.set nm i} G (qts w b a):=by
 have d:(qts w b a).heap.size=w.heap.size:=by simp [qts]
 refine g.turn nm i (λm=>by simp only [Heap.get,Tree.jq]) (zN _) (λ_ h _=>h) rfl rfl j (g.lt _ _ _ _ _ r).2 (.inr (by rw [t];simp)) (λ_ _ _ h=>h) (λ_ _ _ h _=>h) (by rw [d];exact zN _)
  (λC k y D f=>⟨by rw [d];exact (g.lt _ _ _ _ _ f).1,.inr ⟨_,_,f⟩⟩) (λ_ _ _ _ _ _ _ z A _=>(g.inj _ _ _ _ _ _ _ _ _ z A).2) (λk _ l=>quz (λe=>l 0 q n (e ▸ r))) (λk x s=>?_) c
 by_cases p:k=b
 .simp_all
 .simp only [World.shape?,quz p] at s ⊢;exact s
end Go.E2
/- E2's reads and writes of cells against the model's. -/
namespace Go.E2
open Go
theorem qic {α:Type} (l:List α) (n o s:Nat) (h:o+s<=n):((l.take n).drop o).take s=(l.drop o).take s:=by
 rw [List.drop_take,List.take_take,Nat.min_eq_left (by omega)]
theorem qgf (b o j:Nat):(⟨b,o,none⟩:Addr).add j=⟨b,o+j,none⟩:=by unfold Addr.add;split<;>simp_all
theorem Rel.qay {G:qk} {w:World} {v:V} {x:Value} (h:Rel G w v x):x.oneCell'=v.qay:=by
 cases v<;>simp only [Rel] at h<;>first
  | (subst h;rfl)
  | (obtain ⟨a,rfl,d⟩:=h;rfl)
  | (obtain ⟨b,g,n,i,d,j,rfl⟩:=h;rfl)
  | (obtain ⟨b,g,n,ro,c,e,m,ad,i,rfl,d⟩:=h;rfl)
  | (obtain ⟨b,o,c,f,e,fz,rfl,d⟩:=h;rfl)
  | (obtain ⟨b,o,f,e,fz,rfl,d⟩:=h;rfl)
  | (obtain ⟨a,b,c,rfl,d⟩:=h;rfl)
  | (obtain ⟨b,g,n,i,rfl⟩:=h;rfl)
theorem qq.qay {G:qk} {w:World}:∀ {b:List V} {l:List Value},qq G w b l->b.all V.qay=true->∀ x ∈ l,x.oneCell'=true
 | [],_,h,_,x,a=>by simp [qq] at h;simp [h] at a
 | v::b,_,h,c,x,a=>by
  simp only [qq] at h;obtain ⟨y,f,rfl,d,e⟩:=h;simp only [List.all_cons,zA] at c;rcases zD.1 a with rfl | a
  .rw [d.qay];exact c.1
  .exact qq.qay e c.2 x a
def qxw (w:World) (a:Addr) (l:List Value):Prop:=∀ j v,l[j]? = some v->w.cell? (a.add j)=some v
theorem qxw.of_heap {w w':World} {a:Addr} {l:List Value} (h:qxw w a l) (e:w'.heap=w.heap):qxw w' a l:=by
 intro j v b;have:=h j v b;simpa only [World.cell?,e] using this
theorem qxw.run {w:World} {a:Addr} {l:List Value} (h:qxw w a l) (P:Program):(loadCells a l.length).run P w=.ok l.toArray w:=
 run_loadCells_list w a l h
theorem zcy {w:World} {b:Nat} {arr:Array Value} {e:TypeId} {fz:Nat×Nat} (h:w.heap[b]? = some (.cells arr e fz)) (o s:Nat):qxw w ⟨b,o,none⟩ ((arr.toList.drop o).take s):=by
 intro j v a;rw [qgf];simp only [World.cell?,h,Option.isSome_none,Bool.false_eq_true,if_false];rw [List.getElem?_take] at a;split at a
 .simp_all
 .cases a
theorem qgc (P:Program) (g o:Nat) (t:TypeId) (fz:Nat×Nat):∀ (f:List Value) (i:Nat) (a:Array Value) (w:World),w.heap[g]? = some (.cells a t fz)->
  (∀ j,o+i<=j->fz.1<=j->j<fz.2->False)->o+i+f.length<=a.size->(∀ v ∈ f,v.oneCell'=true)->
  (storeCells ⟨g,o,none⟩ f i).run P w=.ok () (w.setRow g (a.toList.take (o+i)++f++a.toList.drop (o+i+f.length)).toArray)
 | [],i,a,w,d,_,_,_=>by
  simp only [storeCells,zJ,List.length_nil,Nat.add_zero,List.take_append_drop,Array.toArray_toList];rw [setRow_self w g a t fz d];rfl
 | v::b,i,a,w,d,h,m,l=>by
  have hi:o+i<a.size:=by simp at m;omega
  have c:w.cell? ⟨g,o+i,none⟩=some a[o+i]:=by simp [World.cell?,d,hi]
  have k:w.frozen? ⟨g,o+i,none⟩=false:=by
   obtain ⟨lo,p⟩:=fz;simp only [World.frozen?,d,Bool.and_eq_false_iff,decide_eq_false_iff_not];have:=h (o+i) (zN _);by_cases l:lo<=o+i
   .simp_all
   .exact .inl l
  have n:(store ((⟨g,o,none⟩:Addr).add i) v).run P w=.ok () (w.setRow g (a.setIfInBounds (o+i) v)):=by
   rw [qgf,run_store P w _ v _ (l v (by simp)),c];simp [k,setCell_eq_setRow w g (o+i) a t fz v d]
  have q:=qgc P g o t fz b (i+1) (a.setIfInBounds (o+i) v) (w.setRow g (a.setIfInBounds (o+i) v)) (setRow_heap w g a _ t _ d) (λj s=>h j (by omega)) (by simp at m ⊢;omega) (λx r=>l x (by simp [r]));simp only [storeCells,Sem.run_bind,n,Result.andThen_ok,q,setRow_setRow];congr 3;have e:=list_seg_step a.toList (o+i) v b (by simp at m ⊢;omega);simpa [Array.toList_setIfInBounds,Nat.add_assoc] using e
theorem q46 {H:Heap} {G:qk} {w:World} (f:Sim H G w) {nm g off lim size:Nat} {h:Value} (j:Rel G w (.ptr nm g off lim) h) {cells:List V} {elem:TypeId} {gen floor d:Nat} {exact:Bool} (k:H.get nm=some (.row cells elem gen floor d exact))
  (m:floor<=g) (t:off+size<=lim) (u:lim<=cells.length):∃ a l,h=.pointer (some a)/\qxw w a l/\jo G w ((cells.drop off).take size) l/\((cells.drop off).take size).length=size:=by
 obtain ⟨b,c,n,i,v,x,rfl⟩:=j;have e:=f.obj nm _ (f.lt _ _ _ _ _ i).2 k;obtain ⟨y,z,o⟩:=e;obtain ⟨A,B,C,D,p,q⟩:=o g b c n i;obtain ⟨r,fz,s,E,a3,F⟩:=q m;refine ⟨_,_,rfl,zcy s (off-c) size,?_,by simp;omega⟩;have:=(a3.drop (off-c)).take size;rw [List.drop_drop,show c+(off-c)=off by omega,qic _ _ _ _ (by omega),qic _ _ _ _ (by omega)] at this;exact this
theorem qgs {H:Heap} {G:qk} {w:World} (i:Sim H G w) {p:V} {j:Value} (o:Rel G w p j) {size:Nat} {cs:List V} (h:jz H size p=some cs) :
  ∃ a l,j=.pointer (some a)/\qxw w a l/\qq G w cs l/\cs.length=size:=by
 cases p with
 | ptr nm g off lim=>
  obtain ⟨b,c,n,k,z,A,rfl⟩:=o;simp only [jz] at h;split at h
  .rename_i cells m gen d q exact r;have e:=i.obj nm _ (i.lt _ _ _ _ _ k).2 r;obtain ⟨B,C,s⟩:=e;obtain ⟨D,E,F,I,t,u⟩:=s g b c n k;simp only [cond_eq_ite,zA,Nat.ble_eq] at h;split at h
   .rename_i v;obtain ⟨rfl,f⟩:=qo2 h;obtain ⟨x,fz,y,J,a3,K⟩:=u v.1.1;refine ⟨_,_,rfl,zcy y (off-c) size,?_,by simp;omega⟩;have:=(a3.drop (off-c)).take size;rw [List.drop_drop,show c+(off-c)=off by omega,qic _ _ _ _ (by omega),qic _ _ _ _ (by omega)] at this;exact this.l f
   .cases h
  .cases h
 | _=>simp [jz] at h
theorem qj4 {H H':Heap} {n:Nat} {o:O} (h:H.upd n o=some H'):H.ro<=n/\H' = {H with qcg:=H.qcg.set n o}:=by
 simp only [Heap.upd,cond_eq_ite,Nat.blt_eq] at h;split at h
 .cases h
 .simp_all
theorem qzp {H:Heap} {n:Nat} {o:O} (nm:Nat):({H with qcg:=H.qcg.set n o}:Heap).get nm=if nm=n then some o else H.get nm:=by
 simp only [Heap.get,Tree.jq]
theorem qfr {w:World} {g b:Nat} {c:Array Value} (h:b≠g):(w.setRow g c).heap[b]? = w.heap[b]?:=by
 unfold World.setRow;simp only [Array.getElem?_modify];rw [zF (λe=>h e.symm)]
theorem qe2 {cs a:List V} {off:Nat} (h:off+a.length<=cs.length):(setCells cs off a).length=cs.length:=by
 simp [setCells];omega
theorem q5a (cs b:List V) (off a:Nat) (c:a<=off) (d:off+b.length<=cs.length) :
  (setCells cs off b).drop a=(cs.drop a).take (off-a)++b++(cs.drop a).drop (off-a+b.length):=by
 unfold setCells;rw [List.append_assoc,List.drop_append_of_le_length (by simp;omega),List.drop_drop,show a+(off-a+b.length)=off+b.length by omega,List.append_assoc,List.drop_take]
theorem q4y {α:Type} (l x:List α) (o n:Nat) (a:o+x.length<=n) (b:n<=l.length) :
  (l.take o++x++l.drop (o+x.length)).take n=(l.take n).take o++x++(l.take n).drop (o+x.length):=by
 rw [List.take_append,List.take_append,List.take_take,List.take_take];simp only [List.length_append,List.length_take];rw [Nat.min_eq_left (by omega:o<=l.length),Nat.min_comm n o,List.take_of_length_le (l:=x) (by omega),List.drop_take]
theorem Sim.store {H:Heap} {G:qk} {w:World} (p:Sim H G w) {nm g b q n off:Nat} {cells:List V} {elem:TypeId} {floor j:Nat} {exact:Bool}
  (M:H.get nm=some (.row cells elem g floor j exact)) (s:G nm g=some (b,q,n)) {B:List V} {l:List Value} (N:qq G w B l)
  (C:q<=off) (k:off+B.length<=cells.length) (D:H.ro<=nm)
  {arr:Array Value} {fz:Nat×Nat} (E:w.heap[b]? = some (.cells arr elem fz)) (arr':Array Value)
  (o:arr'.toList=arr.toList.take (off-q)++l++arr.toList.drop (off-q+l.length)) (d:arr'.size=arr.size) :
  Step H G w {H with qcg:=H.qcg.set nm (.row (setCells cells off B) elem g g j exact)} G (w.setRow b arr'):=by
 obtain ⟨T,U,O⟩:=p.obj nm _ (p.lt _ _ _ _ _ s).2 M;obtain ⟨r1,r2,r3,r4,W,X⟩:=O g b q n s;obtain ⟨P,Y,t,Q,a3,Z,a5⟩:=X T;rw [E] at t;cases t;have u:=N.length;have v:(w.setRow b arr').heap.size=w.heap.size:=by unfold World.setRow;simp
 have i:=setRow_heap w b arr arr' elem fz E;refine p.turn nm (.row (setCells cells off B) elem g g j exact) (λm=>qzp m) (zN _) (λ_ h _=>h) rfl rfl D (p.lt _ _ _ _ _ s).2 (.inr (by rw [M];simp)) (λ_ _ _ h=>h) (λ_ _ _ h _=>h) (by rw [v];exact zN _)
  (λF y z R a=>⟨by rw [v];exact (p.lt _ _ _ _ _ a).1,.inr ⟨_,_,a⟩⟩) (λ_ _ _ _ _ _ _ C k _=>(p.inj _ _ _ _ _ _ _ _ _ C k).2) (λy a6 I=>qfr (λe=>I g q n (e ▸ s))) ?_ ?_
 .intro y x r;by_cases A:y=b
  .subst A;simp only [World.shape?,E,i,d] at r ⊢;exact r
  .simp only [World.shape?,qfr A] at r ⊢;exact r
 .intro f;refine ⟨zN _,U,λF y z R a=>?_⟩;obtain ⟨S,s2,s3,s4,J,s5⟩:=O F y z R a;refine ⟨S,s2,by rw [qe2 k];exact s3,λe=>by rw [qe2 k];exact s4 e,J,λK=>?_⟩;have L:F=g:=Nat.le_antisymm S K;subst L;rw [s] at a;cases a;refine ⟨arr',fz,i,by rw [d];exact Q,?_,Z,λr=>by rw [d,qe2 k];exact a5 r⟩;rw [List.take_of_length_le (by rw [qe2 k];omega),q5a _ _ _ _ C k,o,q4y _ _ _ _ (by omega) (by simpa using Q),u];rw [List.take_of_length_le (by omega)] at a3;exact jo.append (jo.append (jo.ext f (a3.take _)) (qq.ext f N).c) (jo.ext f (a3.drop _))
theorem qod {H H':Heap} {G:qk} {w:World} (d:Sim H G w) {p:V} {o:Value} (v:Rel G w p o) {q:List V} {l:List Value} (e:qq G w q l)
  (h:qci H q p=some H') (P:Program) :
  ∃ a w',o=.pointer (some a)/\(storeCells a l).run P w=.ok () w'/\Step H G w H' G w':=by
 cases p with
 | ptr nm g off lim=>
  obtain ⟨b,r,n,f,x,L,rfl⟩:=v;simp only [qci] at h;split at h
  .rename_i cells c gen i y exact s;obtain ⟨z,M,A⟩:=d.obj nm _ (d.lt _ _ _ _ _ f).2 s;obtain ⟨N,O,Q,R,B,C⟩:=A g b r n f;simp only [cond_eq_ite,zA,Nat.ble_eq,Nat.beq_eq] at h;split at h
   .rename_i D;obtain ⟨⟨⟨⟨E,S⟩,T⟩,U⟩,F⟩:=D;subst E;obtain ⟨k,fz,t,W,a3,I,X⟩:=C z;obtain ⟨J,rfl⟩:=qj4 h;have u:=e.length;have m:=qgc P b (off-r) c fz l 0 k w t (λj Y _ K=>I rfl j (by omega) K) (by omega) (qq.qay e F);exact ⟨_,_,rfl,m,d.store s f e x (by omega) J t _ rfl (by simp;omega)⟩
   .cases h
  .cases h
 | _=>simp [qci] at h
end Go.E2
/- E2: new rows, loads, stores, appends against the model's. -/
namespace Go.E2
open Go
mutual
theorem qlr (G:qk) (w:World):∀ (n:Nat) (v:Value) (x:V),qsu n v=some x->Rel G w x v
 | 0,_,_,h=>by simp [qsu] at h
 | n+1,v,x,h=>by
  unfold qsu at h;split at h<;>try (cases h;done)
  all_goals try (cases h;simp [Rel];done)
  .simp only [zI,zM] at h;obtain ⟨a,b,c,d,rfl⟩:=h;simp only [Rel,qr4];exact ⟨_,_,_,rfl,rfl,qlq G w n _ _ b,qlq G w n _ _ d⟩
  .simp only [zM] at h;obtain ⟨y,b,rfl⟩:=h;simp only [Rel];exact ⟨_,rfl,qlr G w n _ _ b⟩
  .simp only [zM] at h;obtain ⟨y,b,rfl⟩:=h;simp only [Rel];exact ⟨_,rfl,qlq G w n _ _ b⟩
  .simp only [zM] at h;obtain ⟨y,b,rfl⟩:=h;simp only [Rel];exact ⟨_,rfl,qlq G w n _ _ b⟩
theorem qlq (G:qk) (w:World):∀ (n:Nat) (l:List Value) (x:List V),zba n l=some x->qq G w x l
 | 0,_,_,h=>by simp [zba] at h
 | n+1,l,x,h=>by
  unfold zba at h;split at h
  .cases h;exact qq.nil
  .simp only [zI,zM] at h;obtain ⟨a,b,c,d,rfl⟩:=h;exact qq.cons (qlr G w n _ _ b) (qlq G w n _ _ d)
end
theorem qg6 {G:qk} {w:World} {v:V} {x:Value} (h:Rel G w v x):qq G w v.cells x.cells.toList:=by
 cases v with
 | agg cs=>
  simp only [Rel] at h;obtain ⟨a,rfl,b⟩:=h;simpa [V.cells,Value.cells] using b
 | _=>
  have c:x.cells = #[x]:=by
   have:=h.qay;cases x with
   | agg a=>
    exfalso
    first
     | (simp only [V.qay,Value.oneCell',reduceCtorEq] at this;done)
     | (simp only [Rel] at h;obtain ⟨a,d,b⟩:=h;cases d;done)
   | _=>rfl
  rw [c];simp only [V.cells];exact qq.cons h qq.nil
theorem qx {P:Program} {t:Nat} {ti:TI} (h:typeOf P t=some ti) :
  P.underlying t=some ti.under/\ti.isAgg=zty ti.under/\∃ i z,P.info? t=some i/\i.size=ti.size/\i.bytes=ti.bytes/\i.zero=some z/\qsu 1000 z=some ti.zero/\
   ti.zero.cells.length=ti.size/\z.cells.size=ti.size:=by
 unfold typeOf at h;split at h
 .rename_i i u hi d;simp only [zI,cond_eq_ite,Nat.beq_eq] at h;obtain ⟨z,⟨e,f,b⟩,a⟩:=h;split at a
  .rename_i c;cases a;refine ⟨d,rfl,i,e,hi,rfl,rfl,f,b,c,?_⟩;have:=(qg6 (qlr (λ_ _=>none) default _ _ _ b)).length;simpa [c] using this.symm
  .cases a
 .cases h
section
variable {P:Program}
theorem jw {t:Nat} {ti:TI} (h:typeOf P t=some ti) (w:World):(sizeOf t).run P w=.ok ti.size w:=by
 obtain ⟨_,_,i,z,hi,a,_⟩:=qx h;simp [sizeOf,typeInfo,hi,a]
theorem qfu {t:Nat} {ti:TI} (h:typeOf P t=some ti) (w:World):∃ z,(zeroValue t).run P w=.ok z w/\(P.info? t).bind (·.zero)=some z/\∀ G w,Rel G w ti.zero z:=by
 obtain ⟨_,_,i,z,hi,_,_,a,b,_⟩:=qx h;exact ⟨z,by simp [zeroValue,typeInfo,hi,a],by simp [hi,a],λG w=>qlr G w _ _ _ b⟩
theorem qtp {t:Nat} {ti:TI} (h:typeOf P t=some ti) (w:World):(isAgg t).run P w=.ok ti.isAgg w:=by
 obtain ⟨a,b,_⟩:=qx h;simp only [isAgg,Sem.run_bind,run_underlying a,Result.andThen_ok,b];cases ti.under<;>rfl
theorem Step.same {H:Heap} {G:qk} {w w':World} (h:Sim H G w) (e:w'.heap=w.heap) (c:w'.os=w.os/\w'.output=w.output):Step H G w H G w':=by
 have a:Ext H.ro G w G w':=⟨λ_ _ _ h=>h,λb _ d=>⟨by rw [e],d⟩,by rw [e];exact zN _,λb x f=>by simpa only [World.shape?,e] using f,λ_ _ _ _ _ _ _=>by rw [e],c⟩;refine ⟨a,⟨λnm g b i n j=>by rw [e];exact h.lt nm g b i n j,h.inj,λnm o k l=>(h.obj nm o k l).ext a (λ_ _ h=>h) (λ_ _ _ _ _=>by rw [e]),h.ro,h.zm,h.globs⟩,zN _,rfl,rfl,λ_ _=>rfl,λ_ _ _ h _=>h,λ_ _ h=>⟨h,λ_ _ _ _ _=>by rw [e],λ_ _ h=>h⟩⟩
theorem Rel.same {G:qk} {w w':World} (e:w'.heap=w.heap) {v:V} {x:Value} (h:Rel G w v x):Rel G w' v x:=
 Rel.up ⟨λ_ _ _ h=>h,λb x a=>by simpa only [World.shape?,e] using a⟩ h
theorem qq.same {G:qk} {w w':World} (e:w'.heap=w.heap) {v:List V} {x:List Value} (h:qq G w v x):qq G w' v x:=
 qq.up ⟨λ_ _ _ h=>h,λb x a=>by simpa only [World.shape?,e] using a⟩ h
theorem jo.same {G:qk} {w w':World} (e:w'.heap=w.heap) {v:List V} {x:List Value} (h:jo G w v x):jo G w' v x:=
 jo.up ⟨λ_ _ _ h=>h,λb x a=>by simpa only [World.shape?,e] using a⟩ h
theorem Sim.newRow {H:Heap} {G:qk} {w:World} (f:Sim H G w) {cells:List V} {l:List Value} (j:qq G w cells l) (rest:List Value) (elem:TypeId) (exact:Bool) (m:exact=true->rest=[]) :
  Step H G w (H.new (.row cells elem 0 0 0 exact)) (qik G H.next 0 (w.heap.size,0,cells.length)) (push w (.cells (l++rest).toArray elem)):=by
 refine f.new _ _ _ (λa=>?_);refine ⟨zN _,λ_=>rfl,λg b p n d=>?_⟩;simp only [qik] at d;by_cases h:g=0
 .rw [zT ⟨trivial,h⟩] at d;cases d;subst h;have k:=j.length;refine ⟨zN _,Nat.zero_le _,zN _,λ_=>rfl,λ_=>rfl,λ_=>⟨(l++rest).toArray,(0,0),qd1 _ _,by simp;omega,?_,λ_ i _ o=>by simp at o,λe=>by simp [m e,k]⟩⟩;have:(l++rest).toArray.toList.take (cells.length-0)=l:=by simp [k]
  rw [this];simpa using (qq.ext a j).c
 .rw [zF (λx=>h x.2),f.fresh] at d;simp at d
theorem zh9 {G:qk} {nm b n:Nat} {w':World}:Rel (qik G nm 0 (b,0,n)) w' (.ptr nm 0 0 n) (.pointer (some ⟨b,0,none⟩)):=by
 simp only [Rel];exact ⟨b,0,n,qdz _ _ _ _,zN _,zN _,rfl⟩
theorem qn9 {w:World} {arr:Array Value} {e:TypeId}:(push w (.cells arr e)).shape? w.heap.size=some (e,arr.size):=by
 simp only [World.shape?,qd1]
theorem ql6 {H:Heap} {G:qk} {w:World} (n:Sim H G w) {t:Nat} {ti:TI} (j:typeOf P t=some ti) {p v:V} {k:Value} (o:Rel G w p k) (h:qkh H ti p=some v) :
  ∃ x a,k=.pointer (some a)/\(loadVar t a).run P w=.ok x w/\Rel G w v x:=by
 simp only [qkh,zI] at h;obtain ⟨cs,q,e⟩:=h;obtain ⟨a,l,rfl,f,d,r⟩:=qgs n o q;have g:=d.length;simp only [loadVar,Sem.run_bind,qtp j,Result.andThen_ok];cases b:ti.isAgg with
 | true=>
  simp only [b,zO,zS] at e;subst e;have c:=f.run P;rw [<-g,r] at c;refine ⟨.agg l.toArray,a,rfl,by simp [jw j,c],?_⟩;simp only [Rel];exact ⟨_,rfl,by simpa using d⟩
 | false=>
  simp only [b,zQ] at e;split at e
  .rename_i u;cases e;have i:=d.length
   match l,d,f,i with
   | [x],d,f,_=>
    rw [qq.zbw] at d;have m:=f 0 x rfl;simp only [Addr.add_zero'] at m;refine ⟨x,a,rfl,?_,d.1⟩;simp only [Bool.false_eq_true,if_false];rw [run_load,m]
  .cases e
theorem zes {H H':Heap} {G:qk} {w:World} (g:Sim H G w) {t:Nat} {ti:TI} (i:typeOf P t=some ti) {p v:V} {e x:Value} (j:Rel G w p e) (k:Rel G w v x) (h:qkd H ti p v=some H') :
  ∃ a w',e=.pointer (some a)/\(storeVar t a x).run P w=.ok () w'/\Step H G w H' G w':=by
 simp only [qkd,cond_eq_ite,Nat.beq_eq] at h;split at h
 .rename_i l;have b:=qg6 k;obtain ⟨a,w',rfl,d,c⟩:=qod g j b h P;have f:=b.length;simp only [Array.length_toList] at f;refine ⟨a,w',rfl,?_,c⟩;simp [storeVar,jw i,<-f,l,d]
 .cases h
end
end Go.E2
/- E2: append against the model's. -/
namespace Go.E2
open Go
section
variable {P:Program}
theorem q82 {H:Heap} {G:qk} {w:World} (r:Sim H G w) {sz n:Nat} {x:V} {rx:Value} {cs:List V} (k:Rel G w x rx) (h:qdx H sz x=some (n,cs)) :
  ∃ l,qq G w cs l/\cs.length=n * sz/\∀ w',w'.heap=w.heap->(Builtin.lenOf rx).run P w'=.ok n w'/\(Builtin.firstCells sz n rx).run P w'=.ok l.toArray w':=by
 cases x with
 | nils=>
  obtain ⟨rfl,rfl⟩:=h;subst k;exact ⟨[],qq.nil,by simp,λw' _=>⟨by simp [Builtin.lenOf],by simp [Builtin.firstCells]⟩⟩
 | slice nm g off len v cap=>
  simp only [qdx,cond_eq_ite,Nat.beq_eq] at h;split at h
  .rename_i o;subst o;simp only [zM,zP] at h;obtain ⟨y,z,rfl,rfl⟩:=h;obtain ⟨b,j,m,ro,c,e,K,ad,p,rfl,L,M,A,B,d,N,O,Q⟩:=k;have C:Rel G w (.ptr nm g off (off+len * sz)) (.pointer (some ⟨b,off-j,none⟩)):=by
    simp only [Rel];exact ⟨b,j,m,p,A,B,rfl⟩
   obtain ⟨a,l,D,E,t,u⟩:=qgs r C z;cases D;have q:=t.length;refine ⟨l,t,u,λw' i=>⟨by simp [Builtin.lenOf],?_⟩⟩;simp only [Builtin.firstCells];have d:(ro+j=off/\ad=⟨b,ro,none⟩)∨c=0:=by
    rcases d with d | d
    .grind
    .exact .inr d
   rcases d with ⟨d,rfl⟩ | d
   .have:ro=off-j:=by omega
    subst this;have f:=(E.of_heap i).run P;rw [<-q,u] at f;exact f
   .have F:len=0:=by omega
    subst F;have:l=[]:=List.length_eq_zero_iff.1 (by omega);subst this;simp [loadCells,loadCellsFrom]
  .cases h
 | str s=>
  simp only [qdx,cond_eq_ite,Nat.beq_eq] at h;split at h
  .rename_i I;subst I;obtain ⟨rfl,rfl⟩:=h;subst k;refine ⟨s.map λb=>.int .u8 b.toNat,?_,by simp,λw' i=>⟨by simp [Builtin.lenOf,ByteArray.size],?_⟩⟩
   .clear r
    induction s with
    | nil=>exact qq.nil
    | cons a s J=>exact qq.cons (by simp [Rel]) J
   .have p:(ByteArray.extract ⟨s.toArray⟩ 0 s.length)=(⟨s.toArray⟩:ByteArray):=by
     have:=ByteArray.extract_zero_size (b:=⟨s.toArray⟩);simpa [ByteArray.size] using this
    simp [Builtin.firstCells,p]
  .cases h
 | _=>simp [qdx] at h
theorem qqa {H:Heap} {G:qk} {w:World} (a:Sim H G w) {sz n:Nat} {x:V} {rx:Value} {cs:List V} (b:Rel G w x rx) (h:js H sz x=some (n,cs)) :
  ∃ l,qq G w cs l/\cs.length=n * sz/\∀ w',w'.heap=w.heap->(Builtin.lenOf rx).run P w'=.ok n w'/\(Builtin.firstCells sz n rx).run P w'=.ok l.toArray w':=
 q82 a (b.qfn sz) h
theorem qs5 {H:Heap} {sz nm g off len z n:Nat} {cap:Option Nat} {cs:List V} (h:js H sz (.slice nm g off len z cap)=some (n,cs)):n=len:=by
 unfold js at h;rcases V.qg8 (nm:=nm) (g:=g) (off:=off) (len:=len) (z:=z) (sz:=sz) (cap:=cap) with e | ⟨_,e⟩
 all_goals
  rw [e] at h;simp only [qdx,cond_eq_ite,Nat.beq_eq] at h;split at h
  .simp_all
  .cases h
theorem run_append_fits {w w':World} {t u ty e:TypeId} {c:TypeDesc} {i:TypeInfo} (h:P.underlying t=some (.slice e)) (hu:P.underlying u=some c) (d:(∃ j,c=.slice j)∨c=.string)
  (hi:P.info? e=some i) {base:Option Addr} {sLen sCap n:Nat} {x:Value} {l:List Value} (hlen:(Builtin.lenOf x).run P w=.ok n w) (k:(Builtin.firstCells i.size n x).run P w=.ok l.toArray w)
  (b:sLen+n<=sCap) (f:∀ a,base=some a->(storeCells (a.add (sLen * i.size)) l).run P w=.ok () w') (g:base=none->w'=w) :
  (Builtin.append_ #[t,u] ty #[.slice base sLen sCap,x]).run P w=.ok (.slice base (sLen+n) sCap) w':=by
 rcases d with ⟨j,rfl⟩ | rfl
 all_goals
  cases base with
  | none=>
   have:=g rfl;subst this;simp [Builtin.append_,run_underlying h,run_underlying hu,sizeOf,typeInfo,hi,hlen,k,b]
  | some a=>
   simp [Builtin.append_,run_underlying h,run_underlying hu,sizeOf,typeInfo,hi,hlen,k,b,f a rfl]
theorem qi3 {w:World} {t u ty e:TypeId} {d:TypeDesc} {i:TypeInfo} {z:Value} (j:P.underlying t=some (.slice e)) (hu:P.underlying u=some d) (f:(∃ h,d=.slice h)∨d=.string)
  (hi:P.info? e=some i) (g:i.zero=some z) {base:Option Addr} {sLen sCap n:Nat} {x:Value} {l old:List Value}
  (hlen:∀ w',w'.heap=w.heap->(Builtin.lenOf x).run P w'=.ok n w'/\(Builtin.firstCells i.size n x).run P w'=.ok l.toArray w')
  (hold:∀ w',w'.heap=w.heap->(Builtin.firstCells i.size sLen (.slice base sLen sCap)).run P w'=.ok old.toArray w')
  (k:sCap<sLen+n) (m:(sLen+n) * i.bytes<=room) (hm:sLen+n<=room) :
  ∃ (w1:World) (C:Nat) (a:List Value),w1.heap=w.heap/\(w1.os=w.os/\w1.output=w.output)/\sLen+n<=C/\a.length=(C-(sLen+n)) * z.cells.size/\
  (Builtin.append_ #[t,u] ty #[.slice base sLen sCap,x]).run P w=.ok (.slice (some ⟨w.heap.size,0,none⟩) (sLen+n) C) (push w1 (.cells ((old++l)++a).toArray e)):=by
 have o:¬ (sLen+n<=sCap):=by omega
 have b:¬ (9223372036854775807<((sLen:Int)+(n:Int))):=by unfold room at hm;omega
 have p:=growslice_fits (bytes:=i.bytes) k m;have c:¬ (281474976710656<Builtin.nextslicecap (sLen+n) sCap * i.bytes):=by omega
 have q:=hlen w rfl;have r:=(hlen w.drew rfl).2;have s:=hold w.drew rfl;refine ⟨w.drew,grownCap w (sLen+n) sCap e,(Builtin.zeroCells z.cells (grownCap w (sLen+n) sCap e-(sLen+n))).toList,rfl,⟨rfl,rfl⟩,grownCap_ge w _ _ _,by simp [Builtin.zeroCells],?_⟩;have v:∀ (A:Array Value),((old++l)++A.toList).toArray=old.toArray++l.toArray++A:=by intro A;apply Array.ext';simp
 rcases f with ⟨h,rfl⟩ | rfl
 all_goals
  simp [Builtin.append_,run_underlying j,run_underlying hu,sizeOf,typeInfo,zeroValue,hi,g,q.1,o,b,c,Question.forced,newRow,r,s,grownCap];congr 2;simp
theorem Step.q2w {H:Heap} {G:qk} {w w1:World} (a:Sim H G w) (e:w1.heap=w.heap) (b:w1.os=w.os/\w1.output=w.output) {H':Heap} {c:qk} {w':World} (h:∀ (_:Sim H G w1),Step H G w1 H' c w'):Step H G w H' c w':=
 (Step.same a e b).trans (h (Step.same a e b).sim)
theorem q4g {H H':Heap} {b:List V} {nm g off lim:Nat} (h:qci H b (.ptr nm g off lim)=some H') {cells:List V} {elem:TypeId} {gen floor a:Nat} {exact:Bool}
  (c:H.get nm=some (.row cells elem gen floor a exact)):g=gen/\off+b.length<=lim/\lim<=cells.length:=by
 simp only [qci,c,cond_eq_ite,zA,Nat.ble_eq,Nat.beq_eq] at h;split at h
 .simp_all
 .cases h
theorem qqg {z:Value} {size a C:Nat} {rest cells:List Value} (b:z.cells.size=size) (c:rest.length=(C-a) * z.cells.size) (d:cells.length=a * size) (e:a<=C) :
  0+C * size<=(cells++rest).toArray.size:=by
 simp only [List.size_toArray,List.length_append,c,d,b,Nat.zero_add];rw [<-Nat.add_mul];exact zU _ (by omega)
section grow
variable {H:Heap} {G:qk} {w:World} {nm g b sh m:Nat}
theorem q6h (b:Sim H G w) {cells:List V} {e:TypeId} {floor a:Nat} {exact:Bool} (d:H.get nm=some (.row cells e g floor a exact)):G nm (g+1)=none:=by
 cases c:G nm (g+1) with
 | none=>rfl
 | some x=>
  obtain ⟨h,i,f⟩:=b.obj nm _ (b.lt _ _ _ _ _ c).2 d;have:=(f _ _ _ _ c).1;omega
theorem zbb (h:G nm (g+1)=none) (x:Nat×Nat×Nat) (a b:Nat) (y) (c:G a b=some y):qik G nm (g+1) x a b=some y:=by
 simp only [qik];by_cases d:a=nm/\b=g+1
 .simp_all
 .simp_all
theorem q5s (x:Nat×Nat×Nat) (a d:Nat) (y) (b:qik G nm (g+1) x a d=some y) (c:a≠nm):G a d=some y:=by
 simp only [qik] at b;rw [zF (λq=>c q.1)] at b;exact b
theorem qil (x:Nat×Nat×Nat) (a:Nat) (y) (b:qik G nm (g+1) x nm a=some y):(a=g+1/\y=x)∨G nm a=some y:=by
 simp only [qik] at b;by_cases c:a=g+1
 .simp_all
 .simp_all
theorem Sim.z39 (n:Sim H G w) {cells items:List V} {e:TypeId} {floor u:Nat} {exact:Bool} (F:H.get nm=some (.row cells e g floor u exact)) (v:G nm g=some (b,sh,m))
  {l:List Value} (S:qq G w items l) {arr arr':Array Value} {fz:Nat×Nat} (C:w.heap[b]? = some (.cells arr e fz))
  (d:arr'.toList=arr.toList.take (m-sh)++l++arr.toList.drop (m-sh+l.length)) (o:arr'.size=arr.size) (T:m-sh+l.length<=arr.size) (I:H.ro<=nm) :
  Step H G w {H with qcg:=H.qcg.set nm (.row (cells++items) e (g+1) floor u false)} (qik G nm (g+1) (b,sh,m+items.length)) (w.setRow b arr'):=by
 obtain ⟨q1,q0,U⟩:=n.obj nm _ (n.lt _ _ _ _ _ v).2 F;obtain ⟨r1,r2,r3,r4,a6,r5⟩:=U g b sh m v;obtain ⟨W,a7,y,a2,a3,a4,a5⟩:=r5 q1;rw [C] at y;cases y;have hm:=r4 rfl;have a8:=S.length;have J:=n.lt _ _ _ _ _ v;have f:=setRow_heap w b arr arr' e fz C;have p:(w.setRow b arr').heap.size=w.heap.size:=by unfold World.setRow;simp
 have z:=q6h n F;refine n.turn nm _ (λK=>qzp K) (zN _) (λ_ h _=>h) rfl rfl I J.2 (.inr (by rw [F];simp)) (zbb z _) (q5s _) (by rw [p];exact zN _) (λL s A t r=>?_) (λg1 D X n1 g2 Y n2 h1 h2 aa=>?_)
  (λs ab k=>qfr (λq=>k g sh m (q ▸ v))) (λs x E=>?_) (λa=>?_)
 .rcases qil _ _ _ r with ⟨rfl,i⟩ | i
  .grind
  .exact ⟨by rw [p];exact (n.lt _ _ _ _ _ i).1,.inr ⟨_,_,i⟩⟩
 .rcases qil _ _ _ h1 with ⟨rfl,i⟩ | i
  .grind
  .have:=(n.lt _ _ _ _ _ i).1;omega
 .by_cases j:s=b
  .subst j;simp only [World.shape?,C,f,o] at E ⊢;exact E
  .simp only [World.shape?,qfr j] at E ⊢;exact E
 .refine ⟨by omega,by simp,λL s A t r=>?_⟩;rcases qil _ _ _ r with ⟨rfl,i⟩ | i
  .cases i;refine ⟨zN _,by omega,by simp;omega,λ_=>by simp;omega,by simp,λ_=>⟨arr',fz,f,by omega,?_,λ_=>a4 rfl,by simp⟩⟩;rw [List.take_of_length_le (by simp;omega),d,List.drop_append_of_le_length (by omega)];have M:(arr.toList.take (m-sh)++l++arr.toList.drop (m-sh+l.length)).take (m+items.length-sh)=arr.toList.take (m-sh)++l:=by
    rw [List.take_append_of_le_length (by simp;omega),List.take_of_length_le (by simp;omega)]
   rw [M];rw [List.take_of_length_le (by omega)] at a3;exact (jo.ext a a3).append (qq.ext a S).c
  .obtain ⟨X,Y,Z,s4,ad,s5⟩:=U L s A t i;refine ⟨by omega,Y,by simp;omega,λq=>by omega,by simp,λN=>?_⟩;obtain ⟨B,O,D,b2,b3,b4,b5⟩:=s5 N;rw [List.take_append_of_le_length Z];have P:t-sh<=m-sh:=Nat.sub_le_sub_right (by rw [hm];exact Z) sh;have k:L≠g+1:=Nat.ne_of_lt (Nat.lt_succ_of_le X);have Q:t-sh<=(arr.toList.take (m-sh)).length:=by rw [List.length_take,Array.length_toList];exact Nat.le_min.2 ⟨P,zR P a2⟩
   by_cases j:s=b
   .subst j;have R:=(n.inj _ _ _ _ _ _ _ _ _ v i).2;subst R;rw [C] at D;cases D;refine ⟨arr',fz,f,by rw [o];exact b2,?_,λq=>absurd q k,by simp⟩;have M:arr'.toList.take (t-sh)=arr.toList.take (t-sh):=by
     rw [d,List.append_assoc,List.take_append_of_le_length Q,List.take_take,Nat.min_eq_left P]
    rw [M];exact jo.ext a b3
   .exact ⟨B,O,(qfr j).trans D,b2,jo.ext a b3,λq=>absurd q k,by simp⟩
theorem Sim.zzn (d:Sim H G w) {cells items:List V} {e:TypeId} {floor j off:Nat} {exact:Bool} (u:H.get nm=some (.row cells e g floor j exact)) (D:nm<H.next)
  {l ol:List Value} (E:qq G w items l) (k:jo G w (cells.drop off) ol) (m:off<=cells.length) (rest:List Value) (v:H.ro<=nm) :
  Step H G w {H with qcg:=H.qcg.set nm (.row (cells++items) e (g+1) floor j false)} (qik G nm (g+1) (w.heap.size,off,cells.length+items.length)) (push w (.cells ((ol++l)++rest).toArray e)):=by
 obtain ⟨Y,Z,M⟩:=d.obj nm _ D u;have N:=E.length;have n:=k.length;simp only [List.length_drop] at n;have o:=q6h d u;refine d.turn nm _ (λy=>qzp y) (zN _) (λ_ h _=>h) rfl rfl v D (.inr (by rw [u];simp)) (zbb o _) (q5s _) (by rw [size_push];omega) (λF t p I f=>?_) (λg1 J K n1 g2 L n2 O z P=>?_)
  (λt A _=>qot A) (λt x Q=>q3h Q) (λb=>?_)
 .rcases qil _ _ _ f with ⟨rfl,a⟩ | a
  .cases a;exact ⟨by rw [size_push];omega,.inl (zN _)⟩
  .exact ⟨by rw [size_push];have:=(d.lt _ _ _ _ _ a).1;omega,.inr ⟨_,_,a⟩⟩
 .rcases qil _ _ _ O with ⟨rfl,a⟩ | a
  .rcases qil _ _ _ z with ⟨rfl,r⟩ | r
   .simp_all
   .have:=(d.lt _ _ _ _ _ r).1;omega
  .have:=(d.lt _ _ _ _ _ a).1;omega
 .refine ⟨by omega,by simp,λF t p I f=>?_⟩;rcases qil _ _ _ f with ⟨rfl,a⟩ | a
  .cases a;refine ⟨zN _,by omega,by simp,λ_=>by simp,by simp,λ_=>⟨_,(0,0),qd1 _ _,by simp;omega,?_,λ_ i _ z=>by simp at z,by simp⟩⟩;rw [List.take_of_length_le (by simp),List.drop_append_of_le_length m];have R:(((ol++l)++rest).toArray.toList).take (cells.length+items.length-off)=ol++l:=by
    simp only [];rw [List.take_append_of_le_length (by simp;omega),List.take_of_length_le (by simp;omega)]
   rw [R];exact (jo.ext b k).append (qq.ext b E).c
  .obtain ⟨K,L,S,s4,T,U⟩:=M F t p I a;refine ⟨by omega,L,by simp;omega,λq=>by omega,by simp,λB=>?_⟩;obtain ⟨s,C,J,W,X,b4,b5⟩:=U B;rw [List.take_append_of_le_length S];exact ⟨s,C,(qot (d.lt _ _ _ _ _ a).1).trans J,W,jo.ext b X,λq=>absurd q (Nat.ne_of_lt (Nat.lt_succ_of_le K)),by simp⟩
end grow
theorem znc {H:Heap} {G:qk} {w:World} (q:Sim H G w) {nm g off len sz gen floor j:Nat} {cap:Option Nat} {rx:Value} {cells:List V} {e:TypeId} {exact:Bool} (r:Rel G w (.slice nm g off len sz cap) rx)
  (s:H.get nm=some (.row cells e gen floor j exact)) (t:floor<=g) (u:off+len * sz=cells.length) :
  ∃ p,jo G w (cells.drop off) p/\(cells.drop off).length=len * sz/\∀ w',w'.heap=w.heap->(Builtin.firstCells sz len rx).run P w'=.ok p.toArray w':=by
 obtain ⟨b,i,m,ro,c,E,F,ad,v,rfl,I,J,x,y,d,K,L,M⟩:=r;have z:Rel G w (.ptr nm g off (off+len * sz)) (.pointer (some ⟨b,off-i,none⟩)):=by
  simp only [Rel];exact ⟨b,i,m,v,x,y,rfl⟩
 obtain ⟨a,l,A,B,k,n⟩:=q46 q z s t (zN _) (Nat.le_of_eq u);cases A;have h:=k.length;have C:(cells.drop off).take (len * sz)=cells.drop off:=List.take_of_length_le (by simp;omega);rw [C] at k n h;refine ⟨l,k,n,λw' o=>?_⟩;simp only [Builtin.firstCells];have d:(ro+i=off/\ad=⟨b,ro,none⟩)∨c=0:=by
  rcases d with d | d
  .grind
  .exact .inr d
 rcases d with ⟨d,rfl⟩ | d
 .have:ro=off-i:=by omega
  subst this;have f:=(B.of_heap o).run P;rw [<-h,n] at f;exact f
 .have D:len=0:=by omega
  subst D;have:l=[]:=List.length_eq_zero_iff.1 (by omega);subst this;simp [loadCells,loadCellsFrom]
theorem q4q {H:Heap} {G:qk} {w:World} (B:Sim H G w) {t u ty e:Nat} {X:TypeDesc} {i:TypeInfo} {z:Value} (ht:P.underlying t=some (.slice e)) (hu:P.underlying u=some X) (D:(∃ O,X=.slice O)∨X=.string)
  (hi:P.info? e=some i) (Y:i.zero=some z) (Z:z.cells.size=i.size) {nm g off len n b f m ro c O Q floor s:Nat} {ad:Addr} {exact:Bool} {cells items:List V} {rx:Value} {l:List Value}
  (ho:H.get nm=some (.row cells e g floor s exact)) (E:G nm g=some (b,f,m)) (R:qq G w items l) (F:items.all V.qay=true) (ah:items.length=n * i.size)
  (o:∀ w',w'.heap=w.heap->(Builtin.lenOf rx).run P w'=.ok n w'/\(Builtin.firstCells i.size n rx).run P w'=.ok l.toArray w')
  (hold:∃ S,jo G w (cells.drop off) S/\(cells.drop off).length=len * i.size/\∀ w',w'.heap=w.heap->(Builtin.firstCells i.size len (.slice (some ad) len c)).run P w'=.ok S.toArray w')
  (T:c=0∨ad=⟨b,ro,none⟩) (hn:n≠0) (c2:off+len * i.size=cells.length) (c3:s<=cells.length) (e2:len<=c) (e3:f<=off) (U:ro+f=off∨c=0) (e7:w.shape? b=some (O,Q)) (e8:ro+c * i.size<=Q)
  (I:(len+n) * i.bytes<=room) (J:len+n<=room) (u1:H.ro<=nm) :
  ∃ rv w' G',(Builtin.append_ #[t,u] ty #[.slice (some ad) len c,rx]).run P w=.ok rv w'/\
   Step H G w {H with qcg:=H.qcg.set nm (.row (cells++items) e (g+1) floor s false)} G' w'/\Rel G' w' (.slice nm (g+1) off (len+n) i.size none) rv:=by
 have v:=B.obj nm _ (B.lt _ _ _ _ _ E).2 ho;have hm:m=cells.length:=(v.2.2 g b f m E).2.2.2.1 rfl;obtain ⟨p,fz,a1,a2,_,a4,_⟩:=(v.2.2 g b f m E).2.2.2.2.2 v.1;have ae:(len+n) * i.size=len * i.size+n * i.size:=Nat.add_mul _ _ _;have a6:=B.lt _ _ _ _ _ E;have af:=R.length;have W:Q=p.size:=by
  simp only [World.shape?,a1,zS,zP] at e7;exact e7.2.symm
 by_cases q:len+n<=c
 .clear I J;obtain rfl:ad=⟨b,ro,none⟩:=by
   rcases T with T | T
   .omega
   .exact T
  have K:ro=off-f:=by rcases U with U | U<;>omega
  have ag:(len+n) * i.size<=c * i.size:=zU _ q;have L:off-f+len * i.size=m-f:=by omega
  have y:m-f+l.length<=p.size:=by omega
  have a7:=qgc P b (m-f) e fz l 0 p w a1 (λj hj _ f2=>a4 rfl j (by omega) f2) (by omega) (qq.qay R F);have d:=B.z39 ho E R (arr':=(p.toList.take (m-f)++l++p.toList.drop (m-f+l.length)).toArray) a1 rfl (by simp;omega) y u1;refine ⟨_,_,_,run_append_fits ht hu D hi (o w rfl).1 (o w rfl).2 q (λa ha=>?_) (λh=>by cases h),d,?_⟩
  .cases ha;rw [qgf,K,L];exact a7
  .have a8:=d.ext.shp _ _ e7;exact ⟨b,f,m+items.length,ro,c,O,Q,_,qdz _ _ _ _,rfl,.inr rfl,q,e3,by omega,U,(λk hk=>by cases hk),a8,e8⟩
 .obtain ⟨S,o1,o2,o3⟩:=hold;obtain ⟨w1,C,M,r,aa,hC,A,hr⟩:=qi3 (w:=w) (ty:=ty) ht hu D hi Y (base:=some ad) (sLen:=len) (sCap:=c) (x:=rx) (l:=l) (old:=S) o o3 (by omega) I J;have d:=Step.q2w B r aa (λab=>ab.zzn ho a6.2 (qq.same r R) (jo.same r o1) (by omega) M u1);have N:w1.heap.size=w.heap.size:=by rw [r]
  refine ⟨_,_,_,hr,d,?_⟩;have ai:=o1.length;exact ⟨w1.heap.size,off,cells.length+items.length,0,C,e,_,⟨w1.heap.size,0,none⟩,qdz _ _ _ _,by rw [N],.inr rfl,hC,zN _,by omega,.inl (by omega),(λk hk=>by cases hk),qn9,qqg Z A (by simp;omega) hC⟩
theorem q4r {H H':Heap} {G:qk} {w:World} (A:Sim H G w) {t u ty e:Nat} {du:TypeDesc} {j:TI} (X:P.underlying t=some (.slice e)) (hu:P.underlying u=some du) (y:(∃ e',du=.slice e')∨du=.string)
  (he:typeOf P e=some j) {s x v:V} {rs rx:Value} (K:Rel G w s rs) (af:Rel G w x rx) (h:qcj H e j.size j.bytes s x=some (v,H')) :
  ∃ rv w' G',(Builtin.append_ #[t,u] ty #[rs,rx]).run P w=.ok rv w'/\Step H G w H' G' w'/\Rel G' w' v rv:=by
 obtain ⟨al,_,i,z,hi,J,L,M,_,_,N⟩:=qx he;simp only [qcj,zI] at h;obtain ⟨⟨n,o⟩,h1,h⟩:=h;obtain ⟨l,hl,O,d⟩:=qqa A af h1;have a1:=hl.length;rw [<-J] at d;cases s with
 | nils=>
  subst K;simp only [cond_eq_ite,Nat.beq_eq,zA,Nat.ble_eq] at h;split at h
  .rename_i Y;subst Y;cases h;exact ⟨_,w,G,run_append_fits X hu y hi (d w rfl).1 (d w rfl).2 (zN _) (λ_ h=>by cases h) (λ_=>rfl),Step.refl A,by simp [Rel]⟩
  .rename_i Y;split at h
   .rename_i hc;cases h;obtain ⟨w1,C,B,q,Q,Z,p,hr⟩:=qi3 (w:=w) (ty:=ty) X hu y hi M (base:=none) (sLen:=0) (sCap:=0) (x:=rx) (l:=l) (old:=[]) d (λw' _=>by simp [Builtin.firstCells]) (by omega) (by rw [Nat.zero_add,L];exact hc.1) (by rw [Nat.zero_add];exact hc.2);simp only [Nat.zero_add,List.nil_append] at hr Z p;have f:=Step.q2w A q Q (λR=>R.newRow (qq.same q hl) B e false (by simp));have D:w1.heap.size=w.heap.size:=by rw [q]
    refine ⟨_,_,_,hr,f,?_⟩;exact ⟨w1.heap.size,0,o.length,0,C,e,_,⟨w1.heap.size,0,none⟩,qdz _ _ _ _,by rw [D],.inr rfl,Z,zN _,by rw [Nat.zero_add,O];exact zN _,.inl rfl,(λk hk=>by cases hk),qn9,qqg N p (by omega) Z⟩
   .cases h
 | slice nm g off len a6 cap=>
  have E:=K;obtain ⟨b,S,m,ro,c,e',mm,ad,e1,rfl,e0,e2,e3,e4,e5,e6,e7,e8⟩:=K;simp only [cond_eq_ite,Nat.beq_eq,Bool.not_eq_true',zA,Nat.ble_eq,Bool.and_eq_false_iff] at h;split at h
  .cases h
  rename_i a7;have a7:j.size=a6:=by
   by_cases hq:j.size=a6
   .exact hq
   .simp_all
  subst a7;split at h
  .rename_i Y;subst Y;cases h;have ag:l=[]:=List.length_eq_zero_iff.1 (by rw [<-a1,O];simp);subst ag;exact ⟨_,w,G,run_append_fits X hu y hi (d w rfl).1 (d w rfl).2 e2 (λ_ _=>by simp [storeCells]) (λh=>by cases h),Step.refl A,E⟩
  rename_i Y;split at h
  .cases h
  rename_i hb;have hb:(len+n) * j.bytes<=room/\len+n<=room:=by
   constructor<;>(apply Nat.le_of_not_lt;intro an;apply hb)
   .left;rw [<-Bool.not_eq_true,Nat.ble_eq];omega
   .right;rw [<-Bool.not_eq_true,Nat.ble_eq];omega
  split at h
  .cases h
  rename_i F;have F:o.all V.qay=true:=by
   cases hq:o.all V.qay with
   | true=>rfl
   | false=>exact absurd hq F
  have a8:∀ cs,js H j.size (.slice nm g off len j.size cap)=some (len,cs)->∃ ol,qq G w cs ol/\cs.length=len * j.size/\∀ w',w'.heap=w.heap->(Builtin.firstCells i.size len (.slice (some ad) len c)).run P w'=.ok ol.toArray w':=by
   intro cs ah;obtain ⟨ol,o1,o2,o3⟩:=qqa (P:=P) A E ah;exact ⟨ol,o1,o2,λw' ai=>by rw [J];exact (o3 w' ai).2⟩
  split at h
  .rename_i cells ao gen aj aq exact ho;obtain ⟨q1,q0,q2⟩:=A.obj nm _ (A.lt _ _ _ _ _ e1).2 ho;obtain ⟨r1,r2,r3,r4,ar,r5⟩:=q2 g b S m e1;split at h
   .
    rename_i k;obtain ⟨hk,au⟩:=e6 k rfl;subst hk;split at h
    .rename_i I;simp only [zM,zP] at h;obtain ⟨H1,T,rfl,rfl⟩:=h;have U:c≠0:=by omega
     obtain rfl:ad=⟨b,ro,none⟩:=by
      rcases e0 with e0 | e0
      .exact absurd e0 U
      .exact e0
     have aa:ro=off-S:=by rcases e5 with e5 | e5<;>omega
     obtain ⟨p1,p2,p3⟩:=q4g T ho;have hm:=r4 p1;have ab:(len+n) * j.size=len * j.size+n * j.size:=Nat.add_mul _ _ _;have hp:Rel G w (.ptr nm g (off+len * j.size) (off+(len+n) * j.size)) (.pointer (some ⟨b,off+len * j.size-S,none⟩)):=by
      simp only [Rel];exact ⟨b,S,m,e1,by omega,by omega,rfl⟩
     obtain ⟨a,w',ha,ak,f⟩:=qod A hp hl T P;cases ha;refine ⟨_,w',G,run_append_fits X hu y hi (d w rfl).1 (d w rfl).2 I (λa ha=>?_) (λh=>by cases h),f,?_⟩
     .cases ha;rw [qgf,J,aa,show off-S+len * j.size=off+len * j.size-S by omega];exact ak
     .refine Rel.ext f.ext ?_;simp only [Rel];exact ⟨b,S,m,ro,c,e',mm,_,e1,rfl,.inr rfl,I,e3,by omega,e5,e6,e7,e8⟩
    .rename_i I;simp only [zM,zP] at h;obtain ⟨⟨r,old⟩,T,rfl,rfl⟩:=h;have W:r=len:=by
      exact qs5 T
     subst W;obtain ⟨ol,o1,o2,o3⟩:=a8 old T;obtain ⟨w1,C,B,q,Q,Z,p,hr⟩:=qi3 (w:=w) (ty:=ty) X hu y hi M (base:=some ad) (sLen:=r) (sCap:=c) (x:=rx) (l:=l) (old:=ol) d o3 (by omega) (by rw [L];exact hb.1) hb.2;have f:=Step.q2w A q Q (λR=>R.newRow (qq.same q (o1.append hl)) B e false (by simp));have D:w1.heap.size=w.heap.size:=by rw [q]
     refine ⟨_,_,_,hr,f,?_⟩;have av:=o1.length;have ab:(r+n) * j.size=r * j.size+n * j.size:=Nat.add_mul _ _ _;simp only [Rel];exact ⟨w1.heap.size,0,(old++o).length,0,C,e,_,⟨w1.heap.size,0,none⟩,qdz _ _ _ _,by rw [D],.inr rfl,Z,zN _,by simp;omega,.inl rfl,(λk hk=>by cases hk),qn9,qqg N p (by simp;omega) Z⟩
   .
    split at h
    .rename_i hc;obtain ⟨⟨⟨⟨⟨c1,c2⟩,c3⟩,c4⟩,c5⟩,c6⟩:=hc;subst c1;subst c6;have c5:j.size≠0:=by
      intro h0;rw [h0] at c5;simp at c5
     simp only [zM,zP] at h;obtain ⟨H1,T,rfl,rfl⟩:=h;obtain ⟨u1,rfl⟩:=qj4 T;have ae:=znc (P:=P) A E ho q1 c2;rw [<-J] at *;exact q4q A X hu y hi M N ho e1 hl F O d ae e0 Y c2 c3 e2 e3 e5 e7 e8 (by rw [L];exact hb.1) hb.2 u1
    .cases h
  .cases h
 | _=>simp at h
theorem qfv {H H':Heap} {G:qk} {w:World} (j:Sim H G w) {t u ty e:Nat} {a:TypeDesc} {b:TI} (k:P.underlying t=some (.slice e)) (hu:P.underlying u=some a) (c:(∃ l,a=.slice l)∨a=.string)
  (he:typeOf P e=some b) {s x v:V} {rs rx:Value} (d:Rel G w s rs) (f:Rel G w x rx) (h:qc7 H e b.size b.bytes s x=some (v,H')) :
  ∃ g w' i,(Builtin.append_ #[t,u] ty #[rs,rx]).run P w=.ok g w'/\Step H G w H' i w'/\Rel i w' v g:=
 q4r j k hu c he (d.qfn _) f h
end
end Go.E2
/- E2: single operations against the model's, first part. -/
namespace Go.E2
open Go
def qcs (G:qk) (w:World):List Dfr->List Deferred->Prop
 | [],l=>l=[]
 | d::c,l=>∃ x a,l=x::a/\qcs G w c a/\match d with
  | .mark nm=>∃ b e n,G nm 0=some (b,e,n)/\x = {target:=.collected b,args:=#[]}
structure SimFr (G:qk) (w:World) (fr:Fr) (a:Act):Prop where
 tmps:q4m G w fr.tmps a.tmps
 n:a.tmps.size=fr.n
 dfr:qcs G w fr.defers a.defers
theorem qcs.up {G c:qk} {w w':World} (h:Up G w c w'):∀ {a:List Dfr} {l:List Deferred},qcs G w a l->qcs c w' a l
 | [],_,e=>by simpa [qcs] using e
 | .mark nm::a,_,e=>by
  simp only [qcs] at e ⊢;obtain ⟨x,d,f,g,b,i,n,j,k⟩:=e;exact ⟨x,d,f,qcs.up h g,b,i,n,h.sub _ _ _ j,k⟩
theorem qcs.ext {r:Nat} {G a:qk} {w w':World} (h:Ext r G w a w') {b:List Dfr} {l:List Deferred} (e:qcs G w b l):qcs a w' b l:=qcs.up h.up e
theorem SimFr.ext {r:Nat} {G b:qk} {w w':World} (h:Ext r G w b w') {fr:Fr} {a:Act} (e:SimFr G w fr a):SimFr b w' fr a:=
 ⟨e.tmps.ext h,e.n,e.dfr.ext h⟩
theorem q7l {G:qk} {w:World}:Rel G w j8 undef:=by
 simp only [j8,undef,Rel];exact ⟨#[],rfl,qq.nil⟩
theorem SimFr.put {G:qk} {w:World} {fr:Fr} {a:Act} (e:SimFr G w fr a) (dst:Option Tmp) {v:V} {x:Value} (h:Rel G w v x):SimFr G w (fr.put dst v) (a.put dst x):=by
 cases dst with
 | none=>exact e
 | some d=>
  simp only [Fr.put,Act.put,cond_eq_ite,Nat.blt_eq];by_cases c:d<fr.n
  .rw [zT c];refine ⟨λk u b=>?_,by simp [e.n],e.dfr⟩;simp only [Tree.jq] at b;by_cases f:k=d
   .subst f;have:(a.tmps.setIfInBounds k x).getD k undef=x:=by
     have g:k<a.tmps.size:=by rw [e.n];exact c
     simp [Array.getElem?_setIfInBounds_self_of_lt g]
    rw [zT rfl] at b;cases b;rw [this];exact h
   .rw [zF f] at b;have:(a.tmps.setIfInBounds d x).getD k undef=a.tmps.getD k undef:=by
     simp [Array.getElem?_setIfInBounds_ne (Ne.symm f)]
    rw [this];exact e.tmps k u b
  .rw [zF c];have:a.tmps.setIfInBounds d x=a.tmps:=Array.setIfInBounds_eq_of_size_le (by rw [e.n];exact Nat.le_of_not_lt c);rw [this];exact ⟨e.tmps,e.n,e.dfr⟩
theorem qoa {G:qk} {w:World} {fr:Fr} {a:Act} (e:SimFr G w fr a) {t:Nat} {v:V} (h:fr.tmp t=some v):Rel G w v (a.tmps.getD t undef):=e.tmps t v h
theorem zf {H:Heap} {G:qk} {w:World} (b:Sim H G w) {fr:Fr} {a:Act} (e:SimFr G w fr a) {x:Operand} {v:V} (h:opd fr H x=some v):Rel G w v (a.eval x):=by
 cases x with
 | tmp t=>exact qoa e h
 | const c=>exact qlr G w _ _ _ h
 | global g=>
  simp only [opd,cond_eq_ite,Nat.blt_eq] at h;split at h
  .rename_i j;split at h
   .rename_i cells k fl fz ex i;cases h;obtain ⟨n,d⟩:=b.globs g _ j i;have:=(b.obj g _ (b.lt _ _ _ _ _ d).2 i).2.2 0 g 0 n d;simp only [Rel,Act.eval];exact ⟨g,0,n,d,zN _,Nat.le_of_eq (this.2.2.2.1 rfl).symm,rfl⟩
   .cases h
  .cases h
 | func f=>
  simp only [opd,zS] at h;subst h;simp only [Rel,Act.eval,qr4];exact ⟨_,_,_,rfl,rfl,qq.nil,qq.nil⟩
theorem qiy {H:Heap} {G:qk} {w:World} (c:Sim H G w) {fr:Fr} {a:Act} (e:SimFr G w fr a):∀ {l:List Operand} {b:List V},qdm fr H l=some b->qq G w b (l.map a.eval)
 | [],b,h=>by simp only [qdm,zS] at h;subst h;exact qq.nil
 | x::l,b,h=>by
  simp only [qdm,zI,zM] at h;obtain ⟨v,d,us,f,rfl⟩:=h;exact qq.cons (zf c e d) (qiy c e f)
def zqr (G:qk) (w:World) (c:Tgt) (args:List V) (t:Target) (a:Array Value):Prop:=
 match c with
 | .func f=>∃ cap,t=.fn (.func f) cap/\qq G w args (a.toList++cap.toList)
 | .round l=>∃ cap b d n,t=.fn (.yield b) cap/\G l 0=some (b,d,n)/\qq G w args a.toList
def ju (P:Program) (o:Oper) (a:Act) (H:Heap) (G:qk) (w:World) (H':Heap) (out:Out):Prop:=
 match out with
 | .val v=>∃ x w' c,(execOp a.eval o).run P w=.ok (.value x) w'/\Step H G w H' c w'/\Rel c w' v x
 | .skip=>∃ w' c,(execOp a.eval o).run P w=.ok .skip w'/\Step H G w H' c w'
 | .call d args=>H'=H/\∃ t b,(execOp a.eval o).run P w=(invoke t b).run P w/\zqr G w d args t b
 | .panic v=>H'=H/\∃ x,(execOp a.eval o).run P w=.halt (.panic x) w/\Rel G w v x
section
variable {P:Program} {o:Oper} {a:Act} {H:Heap} {G:qk} {w:World}
theorem ju.pure (b:Sim H G w) {v:V} {x:Value} (h:(execOp a.eval o).run P w=.ok (.value x) w) (c:Rel G w v x):ju P o a H G w H (.val v):=
 ⟨x,w,G,h,Step.refl b,c⟩
end
end Go.E2
/- E2: single operations against the model's, second part: each operation. -/
namespace Go.E2
open Go
section
variable {P:Program} {o:Oper} {a:Act} {H:Heap} {G:qk} {w:World} {fr:Fr}
theorem zk4 (c:Sim H G w) (e:SimFr G w fr a) {x:Operand} (b:o.op=.move x∨o.op=.assign x) {v:V} (h:opd fr H x=some v):ju P o a H G w H (.val v):=by
 refine ju.pure c (x:=a.eval x) ?_ (zf c e h);rcases b with b | b<;>simp [execOp,b]
theorem z0m (d:Sim H G w) (e:SimFr G w fr a) {c x y:Operand} (g:o.op=.pick c x y) {b:Bool} {v:V} (i:opd fr H c=some (.bool b)) (h:opd fr H (if b then x else y)=some v):ju P o a H G w H (.val v):=by
 have f:=zf d e i;simp only [Rel] at f;have j:=zf d e h;refine ju.pure d (x:=a.eval (if b then x else y)) ?_ j;simp only [execOp,g,f,asBool];cases b<;>simp
theorem zdq (r:Sim H G w) (e:SimFr G w fr a) {x:Operand} (u:o.op=.nilCheck x) {v:V} (h:opd fr H x=some v)
  (j:match v with | .nilp | .nili | .nilf | .func (.method _) _ _=>False | _=>True):ju P o a H G w H (.val v):=by
 have d:=zf r e h;refine ju.pure r (x:=a.eval x) ?_ d;generalize z:a.eval x=C at d;simp only [execOp,u,z];cases v with
 | func A f c=>
  obtain ⟨B,D,E,rfl,i,_⟩:=d;cases A with
  | method n=>exact j.elim
  | yield l=>obtain ⟨b,k,n,_,rfl⟩:=i;simp
  | func g=>simp only [qr4] at i;subst i;simp
  | methodOf t n=>simp only [qr4] at i;subst i;simp
  | via t p f q=>simp only [qr4] at i;subst i;simp
 | ptr nm g off lim=>simp only [Rel] at d;obtain ⟨b,k,n,_,_,_,rfl⟩:=d;simp
 | slice nm g off len sz cap=>simp only [Rel] at d;obtain ⟨b,k,n,ro,c,e,m,_,_,rfl,_⟩:=d;simp
 | iface t y=>simp only [Rel] at d;obtain ⟨s,rfl,_⟩:=d;simp
 | agg cs=>simp only [Rel] at d;obtain ⟨s,rfl,_⟩:=d;simp
 | tuple cs=>simp only [Rel] at d;obtain ⟨s,rfl,_⟩:=d;simp
 | map nm=>simp only [Rel] at d;obtain ⟨b,k,n,_,rfl⟩:=d;simp
 | nilp=>exact j.elim
 | nili=>exact j.elim
 | nilf=>exact j.elim
 | _=>simp only [Rel] at d;subst d;simp
theorem q66 (d:Sim H G w) {v:V} {x:Value} (e:Rel G w v x) {t:TypeId}
  (c:(execOp a.eval o).run P w=.ok (.value (.pointer (some ⟨w.heap.size,0,none⟩))) (push w (.cells x.cells t))):ju P o a H G w (qla H v.cells t) (.val (.ptr H.next 0 0 v.cells.length)):=by
 have b:=d.newRow (qg6 e) [] t true (λ_=>rfl);simp only [zJ,Array.toArray_toList] at b;exact ⟨_,_,_,c,b,zh9⟩
theorem zuy (b:Sim H G w) {t:TypeId} {ti:TI} (c:o.op=.alloc t) (d:typeOf P t=some ti):ju P o a H G w (qla H ti.zero.cells t) (.val (.ptr H.next 0 0 ti.zero.cells.length)):=by
 obtain ⟨z,e,_,f⟩:=qfu d w;refine q66 b (f G w) ?_;simp [execOp,c,Instr.alloc,e,newVar,Go.newRow];rfl
theorem z4w (b:Sim H G w) (e:SimFr G w fr a) {t:TypeId} {x:Operand} (c:o.op=.box t x) {v:V} (h:opd fr H x=some v):ju P o a H G w (qla H v.cells t) (.val (.ptr H.next 0 0 v.cells.length)):=by
 refine q66 b (zf b e h) ?_;simp [execOp,c,Instr.box,newVar,Go.newRow];rfl
theorem z0l (b:Sim H G w) (e:SimFr G w fr a) {t:TypeId} {ti:TI} (c:typeOf P t=some ti) {x:Operand} (d:o.op=.load t x) {p v:V} (f:opd fr H x=some p) (h:qkh H ti p=some v):ju P o a H G w H (.val v):=by
 obtain ⟨y,ad,g,i,j⟩:=ql6 b c (zf b e f) h;refine ju.pure b (x:=y) ?_ j;simp [execOp,d,Instr.loadAt,g,Instr.sureAddr,i]
theorem zu1 (b:Sim H G w) (e:SimFr G w fr a) {t:TypeId} {ti:TI} (c:typeOf P t=some ti) {x y:Operand} (d:o.op=.store t x y) {p v:V} (f:opd fr H x=some p) (g:opd fr H y=some v) {H':Heap} (h:qkd H ti p v=some H'):ju P o a H G w H' .skip:=by
 obtain ⟨ad,w',i,j,k⟩:=zes b c (zf b e f) (zf b e g) h;refine ⟨w',G,?_,k⟩;simp [execOp,d,Instr.storeAt,i,Instr.sureAddr,j]
theorem q29 {s:TypeId} {ti:TI} (d:typeOf P s=some ti) {k:Nat} {f:Field} (b:qi9 ti k=some f):∃ a,ti.under=.struct a/\a[k]? = some f/\P.underlying s=some (.struct a):=by
 unfold qi9 at b;split at b
 .rename_i a c;exact ⟨a,c,b,c ▸ (qx d).1⟩
 .cases b
theorem q9w (l:Sim H G w) (e:SimFr G w fr a) {s:TypeId} {ti m:TI} (q:typeOf P s=some ti) {x:Operand} {k:Nat} {f:Field} (r:o.op=.fieldAddr s x k) (t:qi9 ti k=some f) (d:typeOf P f.type=some m)
  (u:m.size≠0) {p v:V} (y:opd fr H x=some p) (h:(match p with | .ptr nm g off lim=>some (.ptr nm g (off+f.offset) lim) | _=>none)=some v) :
  ju P o a H G w H (.val v):=by
 obtain ⟨F,I,z,i⟩:=q29 q t;have A:=zf l e y;have c:∀ b ro,a.eval x=.pointer (some ⟨b,ro,none⟩)->(execOp a.eval o).run P w=.ok (.value (.pointer (some ⟨b,ro+f.offset,none⟩))) w:=by
  intro b ro B;simp [execOp,r,Instr.fieldAt,run_underlying i,z,B,Instr.sureAddr,fieldPlace,jw d,u,qgf]
 cases p with
 | ptr nm g off lim=>
  cases h;obtain ⟨b,j,n,C,J,D,E⟩:=A;refine ju.pure l (c _ _ E) ?_;exact ⟨b,j,n,C,by omega,D,by rw [show off+f.offset-j=off-j+f.offset by omega]⟩
 | _=>cases h
theorem q9x (r:Sim H G w) (e:SimFr G w fr a) {t s:TypeId} {ti d:TI} (B:typeOf P t=some ti) (hu:ti.under=.slice s) (u:typeOf P s=some d) {x i:Operand} (C:o.op=.indexAddr t x i) {p q v:V}
  (D:opd fr H x=some p) (E:opd fr H i=some q) (h:qgy d.size p q=some v):ju P o a H G w H (.val v):=by
 have F:=zf r e D;have I:=zf r e E;have y:P.underlying t=some (.slice s):=hu ▸ (qx B).1;have f:∀ b ro len c k (j:Int),a.eval x=.slice (some ⟨b,ro,none⟩) len c->a.eval i=.int k j->0<=j->j<len->(execOp a.eval o).run P w=.ok (.value (.pointer (some ⟨b,ro+j.toNat * d.size,none⟩))) w:=by
  intro b ro len c k j J K L M;simp [execOp,C,Instr.indexAt,run_underlying y,J,K,asIntOf,jw u,L,M,qgf]
 cases p with
 | slice nm g off len sz cap=>
  cases q with
  | int k j=>
   simp only [qgy] at h;split at h
   .rename_i N;obtain ⟨z,O,Q⟩:=N;rw [Nat.beq_eq] at z;subst z;cases h;obtain ⟨b,A,n,ro,c,U,m,ad,R,S,l,W,X,T,Y,Z,r8,r9⟩:=F;obtain rfl:ad=⟨b,ro,none⟩:=by
     rcases l with l | l
     .omega
     .exact l
    refine ju.pure r (f _ _ _ _ _ _ S I O Q) ?_;refine ⟨b,A,n,R,by omega,T,?_⟩;rw [show off+j.toNat * d.size-A=ro+j.toNat * d.size by omega]
   .cases h
  | _=>cases h
 | _=>cases q<;>cases h
theorem qzf (f:Sim H G w) (e:SimFr G w fr a) {t l:TypeId} {n:Nat} {ti c:TI} (A:typeOf P t=some ti) (hu:ti.under=.array n l) (q:typeOf P l=some c) {x i:Operand} (B:o.op=.indexAddr t x i) {p v:V} {k:IntKind} {j:Int}
  (C:opd fr H x=some p) (D:opd fr H i=some (.int k j)) (r:0<=j) (s:j<n)
  (h:(match p with | .ptr nm g off lim=>some (.ptr nm g (off+j.toNat * c.size) lim) | _=>none)=some v):ju P o a H G w H (.val v):=by
 have E:=zf f e C;have z:=zf f e D;simp only [Rel] at z;have u:P.underlying t=some (.array n l):=hu ▸ (qx A).1;have d:∀ b ro,a.eval x=.pointer (some ⟨b,ro,none⟩)->(execOp a.eval o).run P w=.ok (.value (.pointer (some ⟨b,ro+j.toNat * c.size,none⟩))) w:=by
  intro b ro F;simp [execOp,B,Instr.indexAt,run_underlying u,F,z,asIntOf,Instr.sureAddr,jw q,r,s,qgf]
 cases p with
 | ptr nm g off lim=>
  cases h;obtain ⟨b,y,m,I,L,J,K⟩:=E;refine ju.pure f (d _ _ K) ?_;exact ⟨b,y,m,I,by omega,J,by rw [show off+j.toNat * c.size-y=off-y+j.toNat * c.size by omega]⟩
 | _=>cases h
end
end Go.E2
/- E2: single operations against the model's, third part: operators, parts, slices. -/
namespace Go.E2
open Go
section
variable {P:Program} {o:Oper} {a:Act} {H:Heap} {G:qk} {w:World} {fr:Fr}
theorem qo8 {t:TypeId} {ti:TI} (c:typeOf P t=some ti) {xs:List V} {b:Array Value} (d:qq G w xs b.toList) {off:Nat} {v:V} (h:qph ti xs off=some v) :
  ∃ y,(∀ w',(part t b off).run P w'=.ok y w')/\Rel G w v y:=by
 simp only [qph,cond_eq_ite] at h;cases a:ti.isAgg with
 | true=>
  simp only [a,if_true,Nat.ble_eq] at h;split at h
  .rename_i e;cases h;refine ⟨.agg (b.extract off (off+ti.size)),λw'=>by simp [part,qtp c,a,jw c],?_⟩;refine ⟨_,rfl,?_⟩;have:=(d.drop off).take ti.size;simpa [Array.toList_extract,List.extract_eq_take_drop] using this
  .cases h
 | false=>
  simp only [a,Bool.false_eq_true,if_false] at h;obtain ⟨y,f,g⟩:=d.get h;refine ⟨y,λw'=>?_,g⟩;simp only [part,Sem.run_bind,qtp c,Result.andThen_ok,a,Bool.false_eq_true,if_false];have:b[off]? = some y:=by simpa using f
  simp [this]
theorem z8o {s:List UInt8} {x:Value}:Rel G w (.str s) x↔x=.string ⟨s.toArray⟩:=by simp [Rel]
theorem toList_mk (s:List UInt8):(⟨s.toArray⟩:ByteArray).toList=s:=by rw [ByteArray.toList_eq]
theorem zno {op:BinOp} {k:IntKind} {x y:Int} {v:V} (t:TypeId) (h:qis op k x y=some v):∃ z,(∀ w',(binOp op t (.int k x) (.int k y)).run P w'=.ok z w')/\Rel G w v z:=by
 cases op<;>simp only [qis] at h<;>try (cases h;done)
 all_goals try
  (cases h
   exact ⟨_,λw'=>by simp [binOp,Op.intArith,Op.intBits,Op.intCmp];rfl,by simp [Rel]⟩)
 all_goals
  split at h
  .cases h
  .rename_i a;cases h;exact ⟨_,λw'=>by simp [binOp,Op.intDiv,a];rfl,by simp [Rel]⟩
theorem qyw {op:BinOp} {k c:IntKind} {x y:Int} {v:V} (t:TypeId) (a:op=.shl∨op=.shr) (h:q3i op k x y=some v):∃ z,(∀ w',(binOp op t (.int k x) (.int c y)).run P w'=.ok z w')/\Rel G w v z:=by
 simp only [q3i] at h;split at h
 .cases h
 .rename_i b;rcases a with rfl | rfl
  .cases h;exact ⟨_,λw'=>by simp [binOp,Op.shift,b];rfl,by simp [Rel]⟩
  .cases h;exact ⟨_,λw'=>by simp [binOp,Op.shift,b];rfl,by simp [Rel]⟩
theorem qud:∀ x y:List UInt8,Op.bytesLess x y=qce x y
 | _,[]=>by simp [Op.bytesLess,qce]
 | [],_::_=>by simp [Op.bytesLess,qce]
 | a::x,b::y=>by simp only [Op.bytesLess,qce,qud x y]
theorem zps {op:BinOp} {x y:List UInt8} {v:V} (t:TypeId) (h:qnw op x y=some v):∃ z,(∀ w',(binOp op t (.string ⟨x.toArray⟩) (.string ⟨y.toArray⟩)).run P w'=.ok z w')/\Rel G w v z:=by
 cases op<;>simp only [qnw] at h<;>try (cases h;done)
 case add=>
  simp only [cond_eq_ite,Nat.ble_eq] at h;split at h
  .rename_i a;cases h;have b:x.length+y.length<=140737488355328:=a;refine ⟨.string (⟨x.toArray⟩++⟨y.toArray⟩),λw'=>?_,?_⟩
   .have:¬ (9223372036854775807<((x.length:Int)+(y.length:Int))):=by omega
    simp [binOp,Op.stringOp,ByteArray.size,this]
   .rfl
  .cases h
 all_goals
  cases h;exact ⟨_,λw'=>by simp [binOp,Op.stringOp,qud];rfl,by simp [Rel]⟩
theorem q2u {n:Nat} {t:TypeId} {a:Array Field} (h:qh7 P n t=true) (hu:P.underlying t=some (.struct a)) :
  P.stoodInHeld t=false/\P.eqGuardType P.depth t=false/\∀ f ∈ a.toList,f.name≠ "_" := by
 cases n with
 | zero=>simp [qh7] at h
 | succ n=>
  simp only [qh7,hu,zA,Bool.not_eq_true'] at h;refine ⟨h.1.1,h.1.2,λf b=>?_⟩;have:=(Array.all_eq_true'.1 h.2) f (by simpa using b);simp only [zA,bne_iff_ne] at this;exact this.1
mutual
theorem q1e {E:Env} (u:E.types=typeOf P) (j:E.eqOk=qh7 P 20):∀ (d D:Nat) (t:TypeId) (x y:V) (n o:Value) (b:Bool),d<=D->eqV E d t x y=some b->Rel G w x n->Rel G w y o->
  ∀ w',(Op.equalIn D t n o).run P w'=.ok b w'
 | 0,_,_,_,_,_,_,_,_,h,_,_=>by simp [eqV] at h
 | d+1,0,_,_,_,_,_,_,H,_,_,_=>by omega
 | d+1,D+1,t,x,y,n,o,b,H,h,e,f=>by
  intro w';simp only [eqV,u] at h;split at h
  .cases h
  rename_i ti I;have c:=(qx I).1;split at h
  .
   rename_i J k a X p i;rw [i] at c;split at h
   .rename_i K;subst K;cases h;simp only [Rel] at e f;subst e;subst f;exact run_equalIn_int w' D t k J a p c
   .cases h
  .rename_i a p i;rw [i] at c;cases h;simp only [Rel] at e f;subst e;subst f;rw [run_equalIn_string w' D t _ _ c,toList_mk,toList_mk]
  .rename_i a p i;rw [i] at c;cases h;simp only [Rel] at e f;subst e;subst f;exact run_equalIn_bool' w' D t _ _ c
  .rename_i v L M i;rw [i] at c;simp only [j,cond_eq_ite] at h;split at h
   .rename_i q;obtain ⟨p1,p2,N⟩:=q2u q c;simp only [Rel] at e f;obtain ⟨z,rfl,e⟩:=e;obtain ⟨A,rfl,f⟩:=f;have l:P.fieldsOf t=v:=by simp [Program.fieldsOf,c]
    rw [run_equalIn_struct w' D t z A (by rw [l];exact c) p1,l];exact qqb u j d D v.toList L M z A b (by omega) h e f N w'
   .cases h
  all_goals try (
   rename_i i;rw [i] at c;cases h;simp only [Rel] at e f
   first
    | (subst e;subst f;simp [Op.equalIn,run_underlying c];done)
    | (subst e;obtain ⟨_,_,_,_,_,_,_,_,_,rfl,_⟩:=f;simp [Op.equalIn,run_underlying c];done)
    | (subst e;obtain ⟨_,_,_,_,_,_,_,_,rfl,_⟩:=f;simp [Op.equalIn,run_underlying c];done)
    | (subst f;obtain ⟨_,_,_,_,_,_,_,_,_,rfl,_⟩:=e;simp [Op.equalIn,run_underlying c];done)
    | (subst f;obtain ⟨_,_,_,_,_,_,_,_,rfl,_⟩:=e;simp [Op.equalIn,run_underlying c];done)
    | (subst e;obtain ⟨_,_,_,_,_,_,rfl,_⟩:=f;simp [Op.equalIn,run_underlying c];done)
    | (subst f;obtain ⟨_,_,_,_,_,_,rfl,_⟩:=e;simp [Op.equalIn,run_underlying c];done)
    | (subst e;obtain ⟨_,_,_,rfl,_⟩:=f;simp [Op.equalIn,run_underlying c];done)
    | (subst f;obtain ⟨_,_,_,rfl,_⟩:=e;simp [Op.equalIn,run_underlying c];done)
    | (subst e;obtain ⟨_,_,_,_,rfl⟩:=f;simp [Op.equalIn,run_underlying c];done)
    | (subst f;obtain ⟨_,_,_,_,rfl⟩:=e;simp [Op.equalIn,run_underlying c];done)
    | (subst e;obtain ⟨_,_,_,_,_,_,rfl⟩:=f;simp [Op.equalIn,run_underlying c,samePointer];done)
    | (subst f;obtain ⟨_,_,_,_,_,_,rfl⟩:=e;simp [Op.equalIn,run_underlying c,samePointer];done)
    | (subst e;obtain ⟨_,rfl,_⟩:=f;simp [Op.equalIn,run_underlying c];done)
    | (subst f;obtain ⟨_,rfl,_⟩:=e;simp [Op.equalIn,run_underlying c];done)
   done)
  .rename_i Y nm g off lim O Z B C i;rw [i] at c;simp only [zI,cond_eq_ite,zA,Bool.not_eq_true',Nat.beq_eq] at h;obtain ⟨Q,r,h⟩:=h;split at h
   .rename_i R;obtain ⟨m,rfl,rfl⟩:=R;have m:Q.size≠0:=by
     intro S;rw [S] at m;cases m
    cases h;obtain ⟨b1,T,n1,U,q2,q3,rfl⟩:=e;obtain ⟨b2,W,n2,F,q5,q6,rfl⟩:=f;rw [U] at F;cases F;simp [Op.equalIn,run_underlying c,jw r,m,sameAddr];rw [Bool.eq_iff_iff];simp only [beq_iff_eq,Nat.beq_eq];constructor
    .intro s;simp only [Addr.mk.injEq,true_and,and_true] at s;omega
    .intro s;subst s;rfl
   .cases h
  .cases h
theorem qqb {E:Env} (l:E.types=typeOf P) (g:E.eqOk=qh7 P 20):∀ (d D:Nat) (e:List Field) (i j:List V) (a c:Array Value) (b:Bool),d<=D->eqFields E d e i j=some b->qq G w i a.toList->qq G w j c.toList->
  (∀ f ∈ e,f.name≠ "_")->∀ w',(Op.eqFields D a c e).run P w'=.ok b w'
 | 0,_,_,_,_,_,_,_,_,h,_,_,_=>by simp [eqFields] at h
 | d+1,D,e,i,j,a,c,b,I,h,n,o,p=>by
  intro w';cases e with
  | nil=>
   simp only [eqFields,zS] at h;subst h;simp [Op.eqFields]
  | cons f e=>
   simp only [eqFields,l] at h;split at h
   .cases h
   rename_i ti q;simp only [zI] at h;obtain ⟨u,s,v,t,r,x,k⟩:=h;obtain ⟨y,z,A⟩:=qo8 q n s;obtain ⟨B,C,F⟩:=qo8 q o t;have m:=q1e l g d D f.type u v y B r (by omega) x A F;simp only [Op.eqFields,p f (by simp),ne_eq,not_false_eq_true,if_true,Sem.run_bind,z,C,Result.andThen_ok,m];cases r with
   | true=>
    simp only [zO] at k;simp only [Bool.not_true,Bool.false_eq_true,if_false];exact qqb l g d D e i j a c b (by omega) k n o (λf H=>p f (by simp [H])) w'
   | false=>
    simp only [zQ,zS] at k;subst k;simp
end
end
end Go.E2
/- E2: single operations against the model's, fourth part. -/
namespace Go.E2
open Go
section
variable {P:Program} {o:Oper} {a:Act} {H:Heap} {G:qk} {w:World} {fr:Fr}
def qq0:Value->Bool
 | .int .. | .float .. | .complex .. | .string _=>false
 | _=>true
theorem zd9 {t:TypeId} {x y:Value} (a:qq0 x=true):binOp .eql t x y=(do pure (.bool (<-Op.equal t x y))):=by
 cases x<;>first
  | (simp [qq0] at a;done)
  | (cases y<;>rfl)
theorem zea {t:TypeId} {x y:Value} (a:qq0 x=true):binOp .neq t x y=(do pure (.bool (!(<-Op.equal t x y)))):=by
 cases x<;>first
  | (simp [qq0] at a;done)
  | (cases y<;>rfl)
theorem q7k {x:V} {rx:Value} (d:Rel G w x rx) (j:∀ k n,x≠.int k n) (l:∀ s,x≠.str s):qq0 rx=true:=by
 cases x with
 | int k n=>simp_all
 | str s=>simp_all
 | ptr nm g off lim=>simp only [Rel] at d;obtain ⟨b,h,n,_,_,_,rfl⟩:=d;rfl
 | slice nm g off len sz cap=>simp only [Rel] at d;obtain ⟨b,h,n,ro,c,e,m,_,_,rfl,_⟩:=d;rfl
 | func f a b=>simp only [Rel] at d;obtain ⟨_,_,_,rfl,_⟩:=d;rfl
 | iface t y=>simp only [Rel] at d;obtain ⟨i,rfl,_⟩:=d;rfl
 | agg cs=>simp only [Rel] at d;obtain ⟨i,rfl,_⟩:=d;rfl
 | tuple cs=>simp only [Rel] at d;obtain ⟨i,rfl,_⟩:=d;rfl
 | map nm=>simp only [Rel] at d;obtain ⟨b,h,n,_,rfl⟩:=d;rfl
 | _=>simp only [Rel] at d;subst d;rfl
theorem eq_left {E:Env} {d:Nat} {t:TypeId} {x y:V} {b:Bool} (h:eqV E d t x y=some b) :
  (∃ k n a c,x=.int k n/\y=.int a c)∨(∃ s e,x=.str s/\y=.str e)∨((∀ k n,x≠.int k n)/\(∀ s,x≠.str s)):=by
 cases d with
 | zero=>simp [eqV] at h
 | succ d=>
  unfold eqV at h;split at h
  .cases h
  .grind
theorem zbj {E:Env} (l:E.types=typeOf P) (d:E.eqOk=qh7 P 20) {op:BinOp} {t:TypeId} {x y v:V} {rx m:Value} (a:Rel G w x rx) (c:Rel G w y m) (h:qcd E op t x y=some v) :
  ∃ z,(∀ w',(binOp op t rx m).run P w'=.ok z w')/\Rel G w v z:=by
 unfold qcd at h;split at h
 .simp only [Rel] at a c;subst a;subst c;exact qyw t (.inl rfl) h
 .simp only [Rel] at a c;subst a;subst c;exact qyw t (.inr rfl) h
 .simp only [Rel] at a c;subst a;subst c;split at h
  .rename_i o;subst o;exact zno t h
  .cases h
 .simp only [Rel] at a c;subst a;subst c;exact zps t h
 .rename_i f g;simp only [zM] at h;obtain ⟨b,e,rfl⟩:=h;rcases eq_left e with ⟨k,n,p,q,rfl,rfl⟩ | ⟨s,r,rfl,rfl⟩ | ⟨i,j⟩
  .grind
  .simp_all
  .rw [zd9 (q7k a i j)];have:=q1e l d 1000 Op.maxDepth t _ _ _ _ b (by simp [Op.maxDepth]) e a c;exact ⟨.bool b,λw'=>by simp [Op.equal,this],by simp [Rel]⟩
 .rename_i f g;simp only [zM] at h;obtain ⟨b,e,rfl⟩:=h;rcases eq_left e with ⟨k,n,p,q,rfl,rfl⟩ | ⟨s,r,rfl,rfl⟩ | ⟨i,j⟩
  .grind
  .simp_all
  .rw [zea (q7k a i j)];have:=q1e l d 1000 Op.maxDepth t _ _ _ _ b (by simp [Op.maxDepth]) e a c;exact ⟨.bool (!b),λw'=>by simp [Op.equal,this],by simp [Rel]⟩
 .cases h
theorem z0n (b:Sim H G w) (e:SimFr G w fr a) {op:UnOp} {t:TypeId} {x:Operand} (d:o.op=.unOp op t x) {p v:V} (f:opd fr H x=some p) (h:ze1 op p=some v):ju P o a H G w H (.val v):=by
 have c:=zf b e f;unfold ze1 at h;split at h<;>try (cases h;done)
 all_goals
  cases h;simp only [Rel] at c;refine ju.pure b (by simp [execOp,d,c,Op.unary,Op.intArith,Op.intBits];rfl) (by simp [Rel])
theorem zhm (i:Sim H G w) (e:SimFr G w fr a) {src dst:TypeId} {j l:TI} (b:typeOf P src=some j) (c:typeOf P dst=some l) {m k:IntKind} (d:j.under=.int m) (f:l.under=.int k) {x:Operand} (q:o.op=.convert src dst x)
  {r:IntKind} {n:Int} (s:opd fr H x=some (.int r n)):ju P o a H G w H (.val (.int k (k.wrap n))):=by
 have p:=zf i e s;simp only [Rel] at p;have g:P.underlying src=some (.int m):=d ▸ (qx b).1;have h:P.underlying dst=some (.int k):=f ▸ (qx c).1;refine ju.pure i (x:=.int k (k.wrap n)) ?_ (by simp [Rel]);simp [execOp,q,p,convert,run_underlying g,run_underlying h,Conv.intToInt]
theorem zhn (k:Sim H G w) (e:SimFr G w fr a) {src dst:TypeId} {l m:TI} (b:typeOf P src=some l) (c:typeOf P dst=some m) (d:l.under=.string) (f:m.under=.string) {x:Operand} (n:o.op=.convert src dst x)
  {s:List UInt8} (p:opd fr H x=some (.str s)):ju P o a H G w H (.val (.str s)):=by
 have g:=zf k e p;have h:=g;simp only [Rel] at g;have i:P.underlying src=some .string:=d ▸ (qx b).1;have j:P.underlying dst=some .string:=f ▸ (qx c).1;refine ju.pure k (x:=a.eval x) ?_ h;simp [execOp,n,g,convert,run_underlying i,run_underlying j]
theorem zod (c:Sim H G w) (e:SimFr G w fr a) {t:TypeId} {ti:TI} (f:typeOf P t=some ti) (b:∀ g,ti.under≠.interface g) {x:Operand} (h:o.op=.makeInterface t x) {p:V} (i:opd fr H x=some p):ju P o a H G w H (.val (.iface t p)):=by
 have j:=zf c e i;refine ju.pure c (x:=.iface t (a.eval x)) ?_ (by simp only [Rel];exact ⟨_,rfl,j⟩);have k:=(qx f).1;simp only [execOp,h,Instr.makeInterface,Sem.run_bind,run_underlying k,Result.andThen_ok];generalize l:ti.under=d;cases d<;>first | (exact absurd rfl (b _)) | simp
theorem zdp (b:Sim H G w) (e:SimFr G w fr a) {f:FuncId} {first captured:Array Operand} (c:o.op=.makeFunc (.func f) first captured) {p q:List V} (d:qdm fr H first.toList=some p) (g:qdm fr H captured.toList=some q) :
  ju P o a H G w H (.val (.func (.func f) p q)):=by
 refine ju.pure b (x:=.func (.func f) (first.map a.eval) (captured.map a.eval)) (by simp [execOp,c,Instr.makeFunc]) ?_;exact ⟨_,_,_,rfl,rfl,by simpa using qiy b e d,by simpa using qiy b e g⟩
theorem zho (d:Sim H G w) (e:SimFr G w fr a) {x:Operand} {i:Nat} (g:o.op=.extract x i) {f:List V} {v:V} (j:opd fr H x=some (.tuple f)) (h:f[i]? = some v):ju P o a H G w H (.val v):=by
 have b:=zf d e j;obtain ⟨c,b,k⟩:=b;obtain ⟨y,l,m⟩:=k.get h;refine ju.pure d (x:=y) ?_ m;have:c[i]? = some y:=by simpa using l
 simp [execOp,g,b,Instr.extract,this]
theorem zu0 (g:Sim H G w) (e:SimFr G w fr a) {t:TypeId} {ti i:TI} (j:typeOf P t=some ti) {k:Nat} {f:Field} (l:qi9 ti k=some f) (b:typeOf P f.type=some i) {x:Operand} (m:o.op=.field t x k) {cs:List V} {v:V}
  (n:opd fr H x=some (.agg cs)) (h:qph i cs f.offset=some v):ju P o a H G w H (.val v):=by
 have c:=zf g e n;obtain ⟨p,c,q⟩:=c;obtain ⟨z,A,r,d⟩:=q29 j l;obtain ⟨y,s,u⟩:=qo8 b q h;refine ju.pure g (x:=y) ?_ u;simp [execOp,m,c,Instr.field,run_underlying d,r,asAgg,s]
theorem zdo (f:Sim H G w) (e:SimFr G w fr a) {t:TypeId} {ti:TI} (n:typeOf P t=some ti) (hu:ti.under=.string) {x i:Operand} (p:o.op=.index t x i) {s:List UInt8} {k:IntKind} {j:Int} {b:UInt8}
  (q:opd fr H x=some (.str s)) (r:opd fr H i=some (.int k j)) (u:0<=j) (h:s[j.toNat]? = some b):ju P o a H G w H (.val (.int .u8 b.toNat)):=by
 have l:=zf f e q;have m:=zf f e r;simp only [Rel] at l m;have g:P.underlying t=some .string:=hu ▸ (qx n).1;refine ju.pure f (x:=.int .u8 b.toNat) ?_ (by simp [Rel]);have v:(ByteArray.mk s.toArray)[j.toNat]? = some b:=by
  have c:j.toNat<s.length:=by
   rw [List.getElem?_eq_some_iff] at h;exact h.1
  rw [List.getElem?_eq_getElem c] at h;have d:j.toNat<(ByteArray.mk s.toArray).size:=by simpa [ByteArray.size] using c
  rw [getElem?_pos (ByteArray.mk s.toArray) j.toNat d];exact h
 simp [execOp,p,l,m,Instr.index,asIntOf,run_underlying g,u,v]
theorem zdn (d:Sim H G w) (e:SimFr G w fr a) {t f:TypeId} {n:Nat} {ti g:TI} (q:typeOf P t=some ti) (hu:ti.under=.array n f) (b:typeOf P f=some g) {x i:Operand} (r:o.op=.index t x i) {cs:List V} {k:IntKind} {j:Int} {v:V}
  (s:opd fr H x=some (.agg cs)) (u:opd fr H i=some (.int k j)) (z:0<=j/\j<n) (h:qph g cs (j.toNat * g.size)=some v):ju P o a H G w H (.val v):=by
 have c:=zf d e s;have p:=zf d e u;simp only [Rel] at c p;obtain ⟨A,c,l⟩:=c;have m:P.underlying t=some (.array n f):=hu ▸ (qx q).1;obtain ⟨y,B,C⟩:=qo8 b l h;refine ju.pure d (x:=y) ?_ C;simp [execOp,r,c,p,Instr.index,asIntOf,run_underlying m,z,jw b,B]
theorem z0k (q:Sim H G w) (e:SimFr G w fr a) {c:Go.Call} {f:Operand} (r:o.op=.call c) (s:c.callee=.value f) {args:List V} {p:V} {k:Tgt} {t:List V} (i:qdm fr H c.args.toList=some args) (A:opd fr H f=some p)
  (h:qht p args=some (.call k t)):ju P o a H G w H (.call k t):=by
 have u:=qiy q e i;have B:=zf q e A;have d:(c.args.map a.eval).toList=c.args.toList.map a.eval:=by simp
 cases p with
 | func C first j=>
  obtain ⟨D,v,m,x,y,z,E⟩:=B;cases C with
  | func g=>
   obtain ⟨rfl,rfl⟩:=h;subst y;refine ⟨rfl,.fn (.func g) m,v++c.args.map a.eval,?_,m,rfl,?_⟩
   .simp [execOp,r,resolve,s,x,Deferred.ofValue]
   .rw [Array.toList_append,d];exact (z.append u).append E
  | yield l=>
   obtain ⟨rfl,rfl⟩:=h;obtain ⟨b,F,n,I,rfl⟩:=y;refine ⟨rfl,.fn (.yield b) m,v++c.args.map a.eval,?_,m,b,F,n,rfl,I,?_⟩
   .simp [execOp,r,resolve,s,x,Deferred.ofValue]
   .rw [Array.toList_append,d];exact z.append u
  | _=>simp [qht] at h
 | _=>simp [qht] at h
theorem zuz {E:Env} (d:E.types=typeOf P) (b:E.eqOk=qh7 P 20) (c:Sim H G w) (e:SimFr G w fr a) {op:BinOp} {t f:TypeId} {x y:Operand} (g:o.op=.binOp op t x y f) {p q v:V} (i:opd fr H x=some p) (j:opd fr H y=some q)
  (k:∀ w',(eqGuard op t x y (a.eval x) (a.eval y)).run P w'=.ok () w') (h:qcd E op t p q=some v):ju P o a H G w H (.val v):=by
 obtain ⟨z,l,m⟩:=zbj d b (zf c e i) (zf c e j) h;refine ju.pure c (x:=z) ?_ m;simp [execOp,g,k,l]
theorem qg1 (f:Sim H G w) (e:SimFr G w fr a) {c:Go.Call} {b:Builtin} (g:o.op=.call c) (h:c.callee=.builtin b) {args:List V} (d:qdm fr H c.args.toList=some args) :
  qq G w args (c.args.map a.eval).toList/\∃ cs,(execOp a.eval o).run P w=(builtin b c.argTypes o.type cs (c.args.map a.eval)).run P w:=by
 refine ⟨by simpa using qiy f e d,(c.args.map λ| .const _=>true | _=>false),?_⟩;simp only [execOp,g,resolve,h,Sem.run_bind,Sem.run_pure,Result.andThen_ok,invoke];rfl
end
end Go.E2
/- E2: single operations against the model's, fifth part: builtins, slices, builds. -/
namespace Go.E2
open Go
section
variable {P:Program} {o:Oper} {a:Act} {H:Heap} {G:qk} {w:World} {fr:Fr}
theorem qdi {lo hi:Nat} {x:Option V} {rx:Option Value} (a:match x,rx with | none,none=>True | some v,some r=>Rel G w v r | _,_=>False) {d n:Nat} (h:qbp lo hi x d=some n) :
  (x=none/\rx=none/\n=d)∨∃ k i,x=some (.int k i)/\rx=some (.int k i)/\(lo:Int)<=i/\i<=hi/\n=i.toNat:=by
 cases x with
 | none=>
  cases rx with
  | none=>simp only [qbp,zS] at h;exact .inl ⟨rfl,rfl,h.symm⟩
  | some r=>exact a.elim
 | some v=>
  cases rx with
  | none=>exact a.elim
  | some r=>
   cases v with
   | int k i=>
    subst a;simp only [qbp] at h;split at h
    .grind
    .cases h
   | _=>simp [qbp] at h
theorem run_sliceBound {k:IntKind} {i:Int} {y:Nat} {c:BoundsCode} (a:0<=i) (b:i<=y):∀ w',(Instr.sliceBound (.int k i) y c).run P w'=.ok i.toNat w':=by
 simp [Instr.sliceBound,asIntOf,a,b]
def z2r (G:qk) (w:World) (x:Option V) (rx:Option Value):Prop:=
 match x,rx with
 | none,none=>True
 | some v,some r=>Rel G w v r
 | _,_=>False
theorem qix (b:Sim H G w) (e:SimFr G w fr a) {x:Option Operand} {v:Option V} (h:qo5 fr H x=some v):z2r G w v (x.map a.eval):=by
 cases x with
 | none=>simp only [qo5,zS] at h;subst h;trivial
 | some x=>
  simp only [qo5,zM] at h;obtain ⟨u,c,rfl⟩:=h;exact zf b e c
theorem qf5 {isSlice:Bool} {len cap c:Nat} {lo hi:Option V} {b d:Option Value} (p:z2r G w lo b) (q:z2r G w hi d) {l h:Nat} (r:qbp 0 c hi len=some h) (s:qbp 0 h lo 0=some l) (x:c<=cap) (hlen:len<=c) :
  l<=h/\h<=c/\∀ w',(Instr.sliceBounds isSlice len cap b d none).run P w'=.ok (l,h,cap) w':=by
 have t:=qdi q r;have n:=qdi p s;rcases t with ⟨rfl,rfl,rfl⟩ | ⟨k,i,rfl,rfl,u,y,rfl⟩
 .rcases n with ⟨rfl,rfl,rfl⟩ | ⟨v,j,rfl,rfl,f,g,rfl⟩
  .exact ⟨Nat.zero_le _,hlen,λw'=>by simp [Instr.sliceBounds]⟩
  .have a:0<=j:=by simpa using f
   exact ⟨by omega,hlen,λw'=>by simp [Instr.sliceBounds,run_sliceBound a g]⟩
 .have e:0<=i:=by simpa using u
  have o:i<=cap:=by omega
  rcases n with ⟨rfl,rfl,rfl⟩ | ⟨v,j,rfl,rfl,f,g,rfl⟩
  .exact ⟨Nat.zero_le _,by omega,λw'=>by simp [Instr.sliceBounds,run_sliceBound e o]⟩
  .have a:0<=j:=by simpa using f
   have m:j<=i.toNat:=g;exact ⟨by omega,by omega,λw'=>by simp [Instr.sliceBounds,run_sliceBound e o,run_sliceBound a m]⟩
theorem extract_mk (s:List UInt8) (l h:Nat):(ByteArray.mk s.toArray).extract l h=⟨((s.take h).drop l).toArray⟩:=by
 apply ByteArray.ext;simp [ByteArray.data_extract];rw [List.drop_take]
theorem zds (d:Sim H G w) (e:SimFr G w fr a) {t:TypeId} {ti:TI} (j:typeOf P t=some ti) (hu:ti.under=.string) {x:Operand} {lo hi:Option Operand} (k:o.op=.slice t x lo hi none) {s:List UInt8} {b c:Option V} {v:V}
  (m:opd fr H x=some (.str s)) (n:qo5 fr H lo=some b) (p:qo5 fr H hi=some c) (h:qi5 1 (.str s) b c none=some v):ju P o a H G w H (.val v):=by
 have i:=zf d e m;simp only [Rel] at i;have f:P.underlying t=some .string:=hu ▸ (qx j).1;simp only [qi5,V.qfn,qlf,zI,zM] at h;obtain ⟨q,r,l,u,rfl⟩:=h;obtain ⟨z,A,y⟩:=qf5 (P:=P) (isSlice:=false) (cap:=s.length) (qix d e n) (qix d e p) r u (zN _) (zN _);refine ju.pure d (x:=.string ⟨((s.take q).drop l).toArray⟩) ?_ (by simp [Rel]);have g:(ByteArray.mk s.toArray).size=s.length:=by simp [ByteArray.size]
 simp [execOp,k,i,Instr.sliceAt,run_underlying f,Instr.slice,g,y,extract_mk]
theorem zhp (r:Sim H G w) (e:SimFr G w fr a) {t F:TypeId} {ti d:TI} (ht:typeOf P t=some ti) (hu:ti.under=.slice F) (u:typeOf P F=some d) {x:Operand} {lo hi:Option Operand} (O:o.op=.slice t x lo hi none) {p:V} {y z:Option V} {v:V}
  (hp:opd fr H x=some p) (h1:qo5 fr H lo=some y) (h2:qo5 fr H hi=some z) (j:∀ s,p≠.str s) (h:qi5 d.size p y z none=some v):ju P o a H G w H (.val v):=by
 have q:=zf r e hp;have A:P.underlying t=some (.slice F):=hu ▸ (qx ht).1;have Q:=qix r e h1;have R:=qix r e h2
 replace q:=q.qfn d.size
 unfold qi5 at h;have j:∀ s,p.qfn d.size≠.str s:=λs I=>j s (V.zv6 I);generalize p.qfn d.size=p at q h j;cases p with
 | str s=>simp_all
 | nils=>
  simp only [Rel] at q;simp only [qlf,qbp,zB,zI,zM] at h;obtain ⟨i,J,l,K,rfl⟩:=h;obtain ⟨S,T,L⟩:=qf5 (P:=P) (isSlice:=true) (len:=0) (cap:=0) (c:=0) Q R J K (zN _) (zN _);have M:i=0:=by omega
  have N:l=0:=by omega
  subst M;subst N;refine ju.pure r (x:=.slice none 0 0) ?_ (by simp [Rel]);simp [execOp,O,q,Instr.sliceAt,run_underlying A,Instr.slice,L,jw u]
 | slice nm g off len sz cap=>
  obtain ⟨b,U,n,ro,c,W,m,ad,X,q2,E,q3,q4,q5,q6,q7,Y,q9⟩:=q;simp only [qlf,cond_eq_ite,Bool.not_eq_true'] at h;split at h
  .cases h
  rename_i Z;have Z:d.size=sz:=by
   by_cases I:d.size=sz
   .exact I
   .simp_all
  subst Z;simp only [zI,zM] at h;obtain ⟨i,J,l,K,rfl⟩:=h;have B:cap.getD len<=c:=by
   cases cap with
   | none=>exact q3
   | some k=>simp_all
  have C:len<=cap.getD len:=by
   cases cap with
   | none=>simp_all
   | some k=>simp_all
  obtain ⟨S,T,L⟩:=qf5 (P:=P) (isSlice:=true) (cap:=c) Q R J K B C;have a6:l * d.size<=i * d.size:=zU _ S;have a7:i * d.size<=c * d.size:=zU _ (by omega);have a8:(i-l) * d.size=i * d.size-l * d.size:=Nat.sub_mul _ _ _;have aa:(c-l) * d.size=c * d.size-l * d.size:=Nat.sub_mul _ _ _;have a1:off+i * d.size<=n:=by
   cases cap with
   | none=>
    have:i * d.size<=len * d.size:=zU _ (by simpa using T);omega
   | some k=>grind
  have f:∀ k,cap.map (· - l)=some k->c-l=k/\off+l * d.size+k * d.size<=n:=by
   intro k hk;simp only [zM] at hk;obtain ⟨k0,h5,rfl⟩:=hk;obtain ⟨h6,h7⟩:=q7 k0 h5;subst h6;omega
  refine ju.pure r (x:=.slice (if c=l then some ad else some (ad.add (l * d.size))) (i-l) (c-l)) ?_ ?_
  .simp only [execOp,O,Option.map_none,Sem.run_bind,q2,Instr.sliceAt,run_underlying A,Result.andThen_ok,Instr.slice,L,jw u,Sem.run_pure,zH]
  .by_cases D:c=l
   .rw [zT D];exact ⟨b,U,n,ro,c-l,W,m,ad,X,rfl,.inl (by omega),by omega,by omega,by omega,.inr (by omega),f,Y,by omega⟩
   .rw [zF D];exact ⟨b,U,n,ro+l * d.size,c-l,W,m,_,X,rfl,.inr (by rcases E with E | E;omega;rw [E,qgf]),by omega,by omega,by omega,.inl (by omega),f,Y,by omega⟩
 | _=>simp [qlf] at h
end
end Go.E2
/- E2: single operations against the model's, sixth part: builds and builtins. -/
namespace Go.E2
open Go
section
variable {P:Program} {o:Oper} {a:Act} {H:Heap} {G:qk} {w:World} {fr:Fr}
theorem q6e (off:Nat):∀ (l:List Value) (k:Nat) (cs:Array Value),off+k+l.length<=cs.size->
  ((l.zipIdx k).foldl (λ(cs:Array Value) (x:Value×Nat)=>cs.setIfInBounds (off+x.2) x.1) cs).toList=cs.toList.take (off+k)++l++cs.toList.drop (off+k+l.length)
 | [],k,cs,_=>by simp
 | v::l,k,cs,h=>by
  simp only [List.zipIdx_cons,List.foldl_cons];rw [q6e off l (k+1) (cs.setIfInBounds (off+k) v) (by simp at h ⊢;omega)];have e:=list_seg_step cs.toList (off+k) v l (by simp at h ⊢;omega);simpa [Array.toList_setIfInBounds,Nat.add_assoc] using e
theorem zac {cs a:List V} {l x:List Value} {off:Nat} (h:qq G w cs l) (b:qq G w a x):qq G w (setCells cs off a) (l.take off++x++l.drop (off+x.length)):=by
 unfold setCells;rw [b.length];exact ((h.take _).append b).append (h.drop _)
theorem qon (place:Nat->Option (Nat×Nat)):∀ (parts:List (Nat×V)) (b:List (Nat×Value)) (cells cs:List V) (a:Array Value),qq G w cells a.toList->
  parts.map (·.1)=b.map (·.1)->qq G w (parts.map (·.2)) (b.map (·.2))->qih place cells parts=some cs->∃ c,Instr.fill place a b=some c/\qq G w cs c.toList
 | [],b,cells,cs,a,f,d,e,h=>by
  cases b with
  | nil=>simp only [qih,zS] at h;subst h;exact ⟨a,rfl,f⟩
  | cons x r=>simp at d
 | (i,v)::parts,b,cells,cs,a,f,d,e,h=>by
  cases b with
  | nil=>simp at d
  | cons x r=>
   obtain ⟨j,y⟩:=x;simp only [List.map_cons,List.cons.injEq] at d;obtain ⟨rfl,d⟩:=d;simp only [List.map_cons] at e;rw [qq.zbw] at e;simp only [qih] at h;split at h
   .cases h
   .rename_i off size m;simp only [cond_eq_ite,zA,Nat.beq_eq,Nat.ble_eq] at h;split at h
    .rename_i k;have l:=qg6 e.1;have n:=l.length;have g:=f.length;simp only [Array.length_toList] at n g;have o:(y.cells.zipIdx.foldl (λ(cs:Array Value) (x:Value×Nat)=>cs.setIfInBounds (off+x.2) x.1) a).toList=a.toList.take off++y.cells.toList++a.toList.drop (off+y.cells.toList.length):=by
      have:=q6e off y.cells.toList 0 a (by simp;omega);simp only [Nat.add_zero] at this;rw [<-this,<-Array.foldl_toList,Array.toList_zipIdx]
     obtain ⟨c,p,q⟩:=qon place parts r (setCells cells off v.cells) cs _ (by rw [o];exact zac f l) d e.2 h;refine ⟨c,?_,q⟩;have s:y.cells.size=size:=by omega
     have t:¬ (off+y.cells.size > a.size):=by omega
     simp only [Instr.fill,m];rw [zF (by simp only [s,ne_eq,not_true_eq_false,decide_false,Bool.false_or,decide_eq_true_eq];omega)];exact p
    .cases h
theorem qw8 (d:Sim H G w) (e:SimFr G w fr a) {parts:Array (Nat×Operand)} {b:List V} (h:qdm fr H (parts.toList.map (·.2))=some b) :
  (((parts.toList.map (·.1)).zip b).map (·.1)=((parts.map λ(x:Nat×Operand)=>(x.1,a.eval x.2)).toList).map (·.1))/\
  qq G w (((parts.toList.map (·.1)).zip b).map (·.2)) (((parts.map λ(x:Nat×Operand)=>(x.1,a.eval x.2)).toList).map (·.2)):=by
 have c:=qiy d e h;have f:=c.length;simp only [List.length_map,Array.length_toList] at f;constructor
 .rw [List.map_fst_zip (by simp;omega)];simp
 .rw [List.map_snd_zip (by simp;omega)];simpa [List.map_map,Function.comp_def] using c
def placeOf (f:Field):Sem (Nat×Nat):=do pure (f.offset,<-sizeOf f.type)
theorem qyn (w':World):∀ (l:List Field),(∀ f ∈ l,∃ ti,typeOf P f.type=some ti)->
  ∃ a:List (Nat×Nat),(l.mapM placeOf).run P w'=.ok a w'/\∀ i:Nat,a[i]? = (l[i]?).bind λf=>(typeOf P f.type).map λc=>(f.offset,c.size)
 | [],_=>⟨[],by simp,λi=>by simp⟩
 | f::l,h=>by
  obtain ⟨a,d,e⟩:=qyn w' l (λg j=>h g (by simp [j]));obtain ⟨ti,b⟩:=h f (by simp);have k:(placeOf f).run P w'=.ok (f.offset,ti.size) w':=by simp [placeOf,jw b]
  refine ⟨(f.offset,ti.size)::a,?_,λi=>?_⟩
  .simp [List.mapM_cons,k,d]
  .cases i with
   | zero=>simp [b]
   | succ i=>simpa using e i
theorem q2k (k:Sim H G w) (e:SimFr G w fr a) {t:TypeId} {ti:TI} (l:typeOf P t=some ti) {b:Array Field} (hu:ti.under=.struct b) {parts:Array (Nat×Operand)} (q:o.op=.build t parts) {n cs:List V}
  (r:qdm fr H (parts.toList.map (·.2))=some n) (c:∀ f ∈ b.toList,∃ d,typeOf P f.type=some d)
  (h:qih (λ(i:Nat)=>(b[i]?).bind λ(f:Field)=>(typeOf P f.type).map λd=>(f.offset,d.size)) ti.zero.cells ((parts.toList.map (·.1)).zip n)=some cs):ju P o a H G w H (.val (.agg cs)):=by
 obtain ⟨z,s,_,u⟩:=qfu l w;have j:P.underlying t=some (.struct b):=hu ▸ (qx l).1;obtain ⟨p1,p2⟩:=qw8 k e r;obtain ⟨p,v,y⟩:=qyn (P:=P) w b.toList c;obtain ⟨g,A,B⟩:=qon _ _ _ _ _ z.cells (qg6 (u G w)) p1 p2 h;refine ju.pure k (x:=.agg g) ?_ (by simp only [Rel];exact ⟨g,rfl,B⟩);have C:(b.mapM placeOf).run P w=.ok p.toArray w:=by
  rw [Array.mapM_eq_mapM_toList];simp only [Sem.run_map,v,Result.andThen_ok]
 have D:(λ(i:Nat)=>p.toArray[i]?)=(λ(i:Nat)=>(b[i]?).bind λ(f:Field)=>(typeOf P f.type).map λd=>(f.offset,d.size)):=by
  funext i;rw [List.getElem?_toArray,y i,Array.getElem?_toList]
 have E:(b.mapM (m:=Sem) λ(f:Field)=>do pure (f.offset,<-sizeOf f.type))=b.mapM placeOf:=rfl;simp only [execOp,q,Sem.run_bind,Instr.build,s,Result.andThen_ok,run_underlying j,E,C,D,A,Sem.run_pure]
theorem q42 (j:Sim H G w) (e:SimFr G w fr a) {t c:TypeId} {n:Nat} {ti d:TI} (k:typeOf P t=some ti) (hu:ti.under=.array n c) (f:typeOf P c=some d) {parts:Array (Nat×Operand)} (m:o.op=.build t parts) {l cs:List V}
  (p:qdm fr H (parts.toList.map (·.2))=some l) (h:qih (λi=>some (i * d.size,d.size)) ti.zero.cells ((parts.toList.map (·.1)).zip l)=some cs):ju P o a H G w H (.val (.agg cs)):=by
 obtain ⟨z,q,_,r⟩:=qfu k w;have g:P.underlying t=some (.array n c):=hu ▸ (qx k).1;obtain ⟨p1,p2⟩:=qw8 j e p;obtain ⟨b,s,u⟩:=qon _ _ _ _ _ z.cells (qg6 (r G w)) p1 p2 h;refine ju.pure j (x:=.agg b) ?_ (by simp only [Rel];exact ⟨b,rfl,u⟩);simp only [execOp,m,Sem.run_bind,Instr.build,q,Result.andThen_ok,run_underlying g,jw f,s,Sem.run_pure]
theorem zov (a:Array Value) (n:Nat):((Array.range (n * a.size)).map (λi=>a[i % a.size]!)).toList=(List.replicate n a.toList).flatten:=by
 rw [Array.toList_map,Array.toList_range]
 induction n with
 | zero=>simp
 | succ n b=>
  rw [Nat.succ_mul,List.range_add,List.map_append,b,List.replicate_succ',List.flatten_concat,List.map_map];congr 1;apply List.ext_getElem
  .simp
  .intro i d c;have hi:i<a.size:=by simpa using c
   simp [Nat.mod_eq_of_lt hi,hi]
theorem zi4 {z:List V} {a:Array Value} (h:qq G w z a.toList) (n:Nat):qq G w (List.replicate n z).flatten ((Array.range (n * a.size)).map (λi=>a[i % a.size]!)).toList:=by
 rw [zov]
 induction n with
 | zero=>exact qq.nil
 | succ n b=>simpa [List.replicate_succ] using h.append b
theorem q27 {e:TypeId} {cells:Array Value}:(Go.newRow e cells).run P w=.ok ⟨w.heap.size,0,none⟩ (push w (.cells cells e)):=by
 simp [Go.newRow];rfl
theorem q94 {nm b n sz c:Nat} {w0:World} {arr:Array Value} {e:TypeId} {len:Nat} (a:b=w0.heap.size) (hlen:len<=c) (f:c * sz=n) (g:arr.size=n) :
  Rel (qik G nm 0 (b,0,n)) (push w0 (.cells arr e)) (.slice nm 0 0 len sz (some c)) (.slice (some ⟨b,0,none⟩) len c):=by
 subst a;have:len * sz<=c * sz:=zU _ hlen;simp only [Rel];exact ⟨w0.heap.size,0,n,0,c,e,arr.size,_,qdz _ _ _ _,rfl,.inr rfl,hlen,zN _,by omega,.inl rfl,(λk d=>by cases d;exact ⟨rfl,by omega⟩),qn9,by omega⟩
theorem zco {α:Type} (n:Nat) (l:List α):(List.replicate n l).flatten.length=n * l.length:=by
 simp
theorem qus (place:Nat->Option (Nat×Nat)):∀ (parts:List (Nat×V)) (cells cs:List V),qih place cells parts=some cs->cs.length=cells.length
 | [],cells,cs,h=>by simp only [qih,zS] at h;rw [h]
 | (i,v)::parts,cells,cs,h=>by
  simp only [qih] at h;split at h
  .cases h
  .rename_i off a b;simp only [cond_eq_ite,zA,Nat.beq_eq,Nat.ble_eq] at h;split at h
   .rename_i c;rw [qus place parts _ cs h,qe2 (by omega)]
   .cases h
theorem q43 (v:Sim H G w) (e:SimFr G w fr a) {t j:TypeId} {len:Nat} {ti b:TI} (C:typeOf P t=some ti) (hu:ti.under=.slice j) (c:typeOf P j=some b) {parts:Array (Nat×Operand)} (y:o.op=.buildSlice t len parts) {A cs:List V}
  (D:qdm fr H (parts.toList.map (·.2))=some A) (J:len * b.size<=16777216) (h:qih (λi=>some (i * b.size,b.size)) (List.replicate len b.zero.cells).flatten ((parts.toList.map (·.1)).zip A)=some cs) :
  ju P o a H G w (qla H cs j) (.val (.slice H.next 0 0 len b.size (some len))):=by
 obtain ⟨z,E,g,F⟩:=qfu c w;have k:z.cells.size=b.size:=by
  obtain ⟨_,_,i,K,hi,_,_,p,_,_,I⟩:=qx c;rw [hi] at g;simp only [zB,p,zS] at g;rw [<-g];exact I
 have l:P.underlying t=some (.slice j):=hu ▸ (qx C).1;obtain ⟨p1,p2⟩:=qw8 v e D;have m:=zi4 (qg6 (F G w)) len;rw [k] at m;obtain ⟨q,r,B⟩:=qon _ _ _ _ _ _ m p1 p2 h;have d:=v.newRow B [] j true (λ_=>rfl);simp only [zJ,Array.toArray_toList] at d;have f:cs.length=len * b.size:=by
  rw [qus _ _ _ _ h,zco,(qx c).2.2.choose_spec.choose_spec.2.2.2.2.2.1]
 refine ⟨.slice (some ⟨w.heap.size,0,none⟩) len len,_,_,?_,d,?_⟩
 .have s:¬ (len * b.size > 2 ^ 24):=by omega
  by_cases u:len * b.size=0
  .have n:Instr.fill (λi=>some (i * b.size,b.size)) #[] (Array.map (λ(x:Nat×Operand)=>(x.1,a.eval x.2)) parts).toList=some q:=by
    rw [u,Array.range_zero'] at r;simpa using r
   simp only [Array.toList_map] at n;simp [execOp,y,Instr.buildSlice,run_underlying l,jw c,u,n,q27,Array.range_zero']
  .simp only [execOp,y,Sem.run_bind,Instr.buildSlice,run_underlying l,Result.andThen_ok,jw c,s,if_false,u,E,Sem.run_pure,k,r,q27]
 .have:=B.length;exact q94 rfl (zN _) f.symm (by simpa [f] using this.symm)
end
end Go.E2
/- E2: single operations against the model's, seventh part. -/
namespace Go.E2
open Go
section
variable {P:Program} {o:Oper} {a:Act} {H:Heap} {G:qk} {w:World} {fr:Fr}
theorem zk3 {c:Go.Call} {x:V} (d:qq G w [x] (c.args.map a.eval).toList):∃ b,c.args.map a.eval = #[b]/\Rel G w x b:=by
 obtain ⟨b,g,e,f,rfl⟩:=d;exact ⟨b,by apply Array.ext';simpa using e,f⟩
theorem q36 {c:Go.Call} {x y:V} (e:qq G w [x,y] (c.args.map a.eval).toList):∃ b d,c.args.map a.eval = #[b,d]/\Rel G w x b/\Rel G w y d:=by
 obtain ⟨b,i,f,g,d,j,rfl,h,rfl⟩:=e;exact ⟨b,d,by apply Array.ext';simpa using f,g,h⟩
theorem zlg {α:Type} {x:Array α} {l:List α} (h:x.toList=l):x=l.toArray:=by apply Array.ext';simpa using h
theorem qw6 (h:Sim H G w) (e:SimFr G w fr a) {c:Go.Call} (j:o.op=.call c) (k:c.callee=.builtin .len) {x:V} {t:TypeId} {n:Nat} (b:qdm fr H c.args.toList=some [x]) (g:c.argTypes.toList=[t])
  (d:∀ f,Rel G w x f->∀ ty,(Builtin.len_ #[t] ty #[f]).run P w=.ok (goInt n) w):ju P o a H G w H (.val (qiq n)):=by
 obtain ⟨l,cs,i⟩:=qg1 h e j k b (P:=P);obtain ⟨f,m,p⟩:=zk3 l;rw [m,zlg g] at i;refine ju.pure h (x:=goInt n) ?_ (by simp [qiq,goInt,Rel]);rw [i];simp only [builtin,Sem.run_bind,d f p,Result.andThen_ok,Sem.run_pure]
theorem q65 (m:Sim H G w) (e:SimFr G w fr a) {c:Go.Call} (p:o.op=.call c) (q:c.callee=.builtin .append) {s x v:V} {H':Heap} {t u d:TypeId} {ti f g:TI} (b:qdm fr H c.args.toList=some [s,x]) (i:c.argTypes.toList=[t,u])
  (r:typeOf P t=some ti) (hu:typeOf P u=some f) (j:ti.under=.slice d) (k:(∃ y,f.under=.slice y)∨f.under=.string) (l:typeOf P d=some g) (h:qc7 H d g.size g.bytes s x=some (v,H')):ju P o a H G w H' (.val v):=by
 obtain ⟨z,cs,n⟩:=qg1 m e p q b (P:=P);obtain ⟨K,L,A,B,C⟩:=q36 z;rw [A,zlg i] at n;obtain ⟨D,w',E,F,I,J⟩:=qfv (ty:=o.type) m (j ▸ (qx r).1) (qx hu).1 k l B C h;refine ⟨D,w',E,?_,I,J⟩;rw [n];simp only [builtin,Sem.run_bind,F,Result.andThen_ok,Sem.run_pure]
theorem qoh {G:qk} {w:World}:∀ {cs:List V} {l:List UInt8} {d:List Value},qq G w cs d->qd0 cs=some l->d=l.map λb=>Value.int .u8 b.toNat
 | [],l,d,c,h=>by
  simp only [qq] at c;simp only [qd0,zS] at h;subst h;subst c;rfl
 | v::cs,l,d,c,h=>by
  simp only [qq] at c;obtain ⟨x,i,rfl,e,f⟩:=c;unfold qd0 at h;split at h
  .rename_i a;cases a
  .rename_i n j a;cases a;split at h
   .rename_i k;simp only [zM] at h;obtain ⟨m,g,rfl⟩:=h;simp only [Rel] at e;subst e;rw [qoh f g];simp only [List.map_cons,List.cons.injEq,Value.int.injEq,true_and,and_true];rw [UInt8.toNat_ofNat'];omega
   .cases h
  .cases h
theorem qlz {w:World} {b a:Nat} {n:Nat} (h:a≠b):(w.freeze ⟨b,0,none⟩ n).heap[a]? = w.heap[a]?:=by
 unfold World.freeze;split
 .rfl
 .grind
theorem zn5 {l:List UInt8} {n:Int} (h:l.length=n.toNat) (b:0<n):l≠[]:=by
 intro a;subst a;simp at h;omega
theorem zzp {l:List UInt8} {n:Int} (h:l.length=n.toNat) (a:0<n):n=(l.length:Int):=by omega
theorem znw {l:List UInt8} {n:Int} (h:l.length=n.toNat) (a:n<=140737488355328):l.length<=9223372036854775807:=by omega
theorem toNat_ne {n:Int} (a:0<n):n.toNat≠0:=by omega
theorem zt7 {n m k:Nat} {a b:Nat} (c:a=n) (d:n<=m) (e:m-0<=k) (f:b=a):b<=k:=by omega
theorem Sim.freeze (j:Sim H G w) {nm g b n:Nat} {cells:List V} {elem:TypeId} {floor q:Nat} {exact:Bool}
  (J:H.get nm=some (.row cells elem g floor q exact)) (u:G nm g=some (b,0,n)) (z:H.ro<=nm) {arr:Array Value} {fz:Nat×Nat} (A:w.heap[b]? = some (.cells arr elem fz)) {m:Nat} (hm:m≠0) :
  Step H G w {H with qcg:=H.qcg.set nm (.row cells elem g floor (max q m) exact)} G (w.freeze ⟨b,0,none⟩ m):=by
 obtain ⟨Q,R,S⟩:=j.obj nm _ (j.lt _ _ _ _ _ u).2 J;have r:(w.freeze ⟨b,0,none⟩ m).heap.size=w.heap.size:=by unfold World.freeze;split<;>simp
 have T:∃ d,(w.freeze ⟨b,0,none⟩ m).heap[b]? = some (.cells arr elem d)/\∀ i,m<=i->i<d.2->i<fz.2:=by
  unfold World.freeze;rw [zF hm];obtain ⟨lo,hi⟩:=fz;refine ⟨if (lo == hi)=true then (0,0+m) else (min lo 0,max hi (0+m)),by simp only [Array.getElem?_modify,if_true,A,zH],λi v k=>?_⟩;split at k
  .grind
  .grind
 obtain ⟨d,s,B⟩:=T;refine j.turn nm _ (λm=>qzp m) (zN _) (λ_ h _=>h) rfl rfl z (j.lt _ _ _ _ _ u).2 (.inr (by rw [J];simp)) (λ_ _ _ h=>h) (λ_ _ _ h _=>h) (by rw [r];exact zN _)
  (λK p l L a=>⟨by rw [r];exact (j.lt _ _ _ _ _ a).1,.inr ⟨_,_,a⟩⟩) (λ_ _ _ _ _ _ _ v k _=>(j.inj _ _ _ _ _ _ _ _ _ v k).2) (λp U C=>qlz (λe=>C g 0 n (e ▸ u))) ?_ ?_ (by unfold World.freeze;split<;>exact ⟨rfl,rfl⟩)
 .intro p x y;by_cases c:p=b
  .subst c;simp only [World.shape?,A,s] at y ⊢;exact y
  .simp only [World.shape?,qlz c] at y ⊢;exact y
 .intro f;refine ⟨Q,R,λK p l L a=>?_⟩;obtain ⟨W,X,Y,Z,D,s5⟩:=S K p l L a;refine ⟨W,X,Y,Z,D,λE=>?_⟩;obtain ⟨t,F,I,M,N,O,P⟩:=s5 E;by_cases c:p=b
  .subst c;have a6:(0:Nat)=l:=(j.inj _ _ _ _ _ _ _ _ _ u a).2;rw [A] at I;cases I;exact ⟨arr,d,s,M,jo.ext f N,λo i v k=>O o i (by omega) (B i (by omega) k),P⟩
  .exact ⟨t,F,(qlz c).trans I,M,jo.ext f N,λo i v k=>O o i (by omega) k,P⟩
theorem qzg (s:Sim H G w) (e:SimFr G w fr a) {c:Go.Call} (Z:o.op=.call c) (hc:c.callee=.builtin .unsafeString) {nm g lim:Nat} {n:Int} {A it elem:TypeId} {ti R:TI} {cells:List V} {floor t:Nat} {exact:Bool}
  (k:qdm fr H c.args.toList=some [.ptr nm g 0 lim,.int .i64 n]) (B:c.argTypes.toList=[A,it]) (ht:typeOf P A=some ti) (C:ti.under=.pointer elem) (D:typeOf P elem=some R) (E:R.size=1)
  (p:H.get nm=some (.row cells elem g floor t exact)) (q:0<n) (F:n<=140737488355328) {cs:List V} (d:jz H n.toNat (.ptr nm g 0 lim)=some cs) {l:List UInt8} (hl:qd0 cs=some l) {H':Heap} (hu:H.upd nm (.row cells elem g floor (max t n.toNat) exact)=some H') :
  ju P o a H G w H' (.val (.str l)):=by
 obtain ⟨hr,a6,S⟩:=qg1 s e Z hc k (P:=P);obtain ⟨rx,ry,h1,T,h3⟩:=q36 hr;rw [h1,zlg B] at S;obtain ⟨ad,rl,U,hh,u,W⟩:=qgs s T d;obtain ⟨b,sh,m,I,q1,q2,X⟩:=T;subst h3;have J:sh=0:=by omega
 subst J;rw [X] at U;cases U;obtain ⟨u1,rfl⟩:=qj4 hu;obtain ⟨p1,p0,p2⟩:=s.obj nm _ (s.lt _ _ _ _ _ I).2 p;obtain ⟨_,_,_,_,_,p5⟩:=p2 g b 0 m I;obtain ⟨r,fz,Y,a2,_,_,_⟩:=p5 p1;have h:=qoh u hl;have f:l.length=n.toNat:=by
  have:=u.length;rw [h,List.length_map] at this;omega
 have v:w.shape? b=some (elem,r.size):=by simp only [World.shape?,Y]
 have K:P.cellsOf elem=1:=by
  obtain ⟨_,_,i,z,hi,L,_⟩:=qx D;simp [Program.cellsOf,hi,L,E]
 have M:n.toNat<=m:=by
  simp only [jz,p,cond_eq_ite,zA,Nat.ble_eq] at d;split at d
  .grind
  .cases d
 have N:l.length<=r.size:=zt7 rfl M a2 f;have O:l≠[]:=zn5 f q;have Q:(n:Int)=(l.length:Int):=zzp f q;have y:=Lib.run_unsafeString_row (P:=P) w A it o.type elem (C ▸ (qx ht).1) K b r.size v l O N (znw f F) (λj x hj=>by
  have:=hh j (.int .u8 x.toNat) (by rw [h];simp [hj]);exact this)
 refine ⟨.string ⟨l.toArray⟩,_,G,?_,s.freeze p I u1 Y (m:=n.toNat) (toNat_ne q),by simp only [Rel]⟩;rw [S,X,Q];simp only [builtin,Sem.run_bind,y,Result.andThen_ok,Sem.run_pure,Nat.sub_zero];rfl
theorem qtm (f:Sim H G w) (e:SimFr G w fr a) {c:Go.Call} (h:o.op=.call c) (i:c.callee=.builtin .unsafeString) {j it:TypeId}
  (b:qdm fr H c.args.toList=some [.nilp,.int .i64 0]) (d:c.argTypes.toList=[j,it]):ju P o a H G w H (.val (.str [])):=by
 obtain ⟨k,l,g⟩:=qg1 f e h i b (P:=P);obtain ⟨q,r,m,n,p⟩:=q36 k;rw [m,zlg d] at g;subst n;subst p;refine ju.pure f (x:=.string .empty) ?_ (by simp only [Rel];rfl);rw [g];simp only [builtin,Sem.run_bind,Lib.run_unsafeString_none,Result.andThen_ok,Sem.run_pure]
theorem q9v (z:Sim H G w) (e:SimFr G w fr a) {src dst i:TypeId} {M N O:TI} (B:typeOf P src=some M) (C:typeOf P dst=some N) (D:typeOf P i=some O) (E:M.under=.slice i) (F:O.under=.int .u8)
  (I:N.under=.string) {x:Operand} (R:o.op=.convert src dst x) {p:V} (S:opd fr H x=some p) (T:∀ s,p≠.str s) {r:Nat×List V} (A:js H 1 p=some r) {l:List UInt8} (J:qd0 r.2=some l):ju P o a H G w H (.val (.str l)):=by
 have d:=zf z e S;have j:P.underlying src=some (.slice i):=E ▸ (qx B).1;have q:P.underlying dst=some .string:=I ▸ (qx C).1;have t:P.underlying i=some (.int .u8):=F ▸ (qx D).1;obtain ⟨n,cs⟩:=r;have f:execOp a.eval o=(do let v <-convert src dst (a.eval x);pure (.value v)):=by simp only [execOp,R]
 generalize a.eval x=Z at d f;obtain ⟨rl,U,h2,W⟩:=qqa z d A;have Q:=(W w rfl).2;have K:=qoh U J;cases p with
 | str s=>grind
 | nils=>
  simp only [Rel] at d;obtain ⟨rfl,rfl⟩:=A;simp only [qd0,zS] at J;subst J;refine ju.pure z (x:=.string .empty) ?_ (by simp only [Rel];rfl);simp only [f,Sem.run_bind,d,run_convert_bytes_nil w src i j t 0 0 dst q,Result.andThen_ok,Sem.run_pure]
 | slice nm g off len sz cap=>
  have h:=d;obtain ⟨b,sh,m,ro,c,e',k,ad,e1,X,_⟩:=h;subst X;have u:n=len:=qs5 A;subst u;have L:(loadCells ad n).run P w=.ok ((l.map λx=>(x.toNat:Int)).map (Value.int .u8)).toArray w:=by
   simp only [Builtin.firstCells,Nat.mul_one] at Q;rw [Q,K];simp [List.map_map]
  have y:(⟨ByteArray.empty.data++((l.map λx=>(x.toNat:Int)).map λn=>UInt8.ofNat n.toNat).toArray⟩:ByteArray)=⟨l.toArray⟩:=by
   apply ByteArray.ext;have Y:(l.map λx=>(x.toNat:Int)).map (λn=>UInt8.ofNat n.toNat)=l:=by
    rw [List.map_map]
    conv=>rhs;rw [<-List.map_id l]
    refine List.map_congr_left λx _=>?_;simp
   rw [Y];simp
  refine ju.pure z (x:=.string ⟨l.toArray⟩) ?_ (by simp only [Rel]);simp only [f,Sem.run_bind,run_convert_bytes_string w src dst i _ _ _ j t q,run_bytesToString w _ _ _ _ L,Result.andThen_ok,Sem.run_pure,foldl_push_bytes,y]
 | _=>simp [js,V.qfn,qdx] at A
end
end Go.E2
/- E2: single operations on maps against the model's. -/
namespace Go.E2
open Go
section
variable {P:Program} {o:Oper} {a:Act} {H:Heap} {G:qk} {w:World} {fr:Fr}
theorem q5w (x y:List UInt8):((⟨x.toArray⟩:ByteArray) == ⟨y.toArray⟩)=(x == y):=by
 have a:((⟨x.toArray⟩:ByteArray) == ⟨y.toArray⟩)=(x.toArray == y.toArray):=rfl;rw [a,Bool.eq_iff_iff,beq_iff_eq,beq_iff_eq];exact ⟨λh=>by simpa using congrArg Array.toList h,λh=>by rw [h]⟩
theorem qsi {f:TypeDesc} {x y:V} {rx c:Value} (d:Rel G w x rx) (e:Rel G w y c) {b:Bool} (h:qmj f x y=some b):Instr.sameNow f rx c=some b/\(b=true->c=rx/\Instr.sameBits 10000 c rx=true):=by
 unfold qmj at h;split at h
 .rename_i k i l j;subst d;subst e;split at h
  .rename_i g;subst g;cases h;refine ⟨by simp [Instr.sameNow],λa=>?_⟩;simp only [beq_iff_eq] at a;subst a;exact ⟨rfl,by simp [Instr.sameBits]⟩
  .cases h
 .rename_i s t;subst d;subst e;cases h;refine ⟨by simp only [Instr.sameNow,q5w],λa=>?_⟩;simp only [beq_iff_eq] at a;subst a;exact ⟨rfl,by simp [Instr.sameBits,q5w]⟩
 .rename_i s t;subst d;subst e;cases h;refine ⟨by simp [Instr.sameNow],λa=>?_⟩;simp only [beq_iff_eq] at a;subst a;exact ⟨rfl,by simp [Instr.sameBits]⟩
 .cases h
theorem qhe {g:TypeDesc} {k:V} {c:Value} (m:Rel G w k c):∀ (d:List (V×V×Nat)) (l:List MapEntry) (i:Nat) (r:Option (Nat×V)),qb8 G w d l->qqd g k d i=some r->
  (r=none/\Instr.findNow g c l i=some none)∨∃ j v x e,r=some (j,v)/\Instr.findNow g c l i=some (some (j,x))/\Rel G w v x/\i<=j/\l[j-i]? = some e/\Instr.sameBits 10000 e.key c=true
 | [],l,i,r,a,h=>by
  simp only [qb8] at a;subst a;simp only [qqd,zS] at h;subst h;exact .inl ⟨rfl,rfl⟩
 | (E,v,b)::d,l,i,r,a,h=>by
  simp only [qb8] at a;obtain ⟨e,t,rfl,q,u,_,y⟩:=a;simp only [qqd] at h;split at h
  .rename_i n;cases h;obtain ⟨f,s⟩:=qsi m q n;refine .inr ⟨i,v,e.val,e,rfl,by simp only [Instr.findNow,f],u,zN _,by simp,(s rfl).1 ▸ (s rfl).2⟩
  .rename_i n;obtain ⟨f,_⟩:=qsi m q n;rcases qhe m d t (i+1) r y h with ⟨o,p⟩ | ⟨j,z,x,A,o,p,B,F,C,D⟩
   .exact .inl ⟨o,by simp only [Instr.findNow,f];exact p⟩
   .refine .inr ⟨j,z,x,A,o,by simp only [Instr.findNow,f];exact p,B,by omega,?_,D⟩;rw [show j-i=(j-(i+1))+1 by omega,List.getElem?_cons_succ];exact C
  .cases h
theorem run_checkKey {b:TypeId} {a:TypeDesc} (hu:P.underlying b=some a) (c:plainKey a=true) (e:Bool) (n:Nat) (v:Value):(Instr.checkKey e (n+1) b v).run P w=.ok () w:=by
 cases a<;>simp [plainKey] at c<;>simp [Instr.checkKey,run_underlying hu]
theorem run_findKey {a:TypeId} {b:TypeDesc} (hu:P.underlying a=some b) {c:Value} {l:List MapEntry} {r:Option (Nat×Value)} (h:Instr.findNow b c l 0=some r):(Instr.findKey a c l).run P w=.ok r w:=by
 simp [Instr.findKey,run_underlying hu,h]
theorem q1j {sp:Nat->Option (List V->Heap->Option (CR×Heap))} {b:TypeId} {f:TypeDesc} (hu:P.underlying b=some f) {k:V} {a:Value} (g:Rel G w k a) {es:List (V×V×Nat)} {l:List MapEntry} {r:Option (Nat×V)} (hm:qb8 G w es l) (h:qlv (zr P sp) b f k es=some r) :
  (∀ e,(Instr.checkKey e 10000 b a).run P w=.ok () w)/\((r=none/\(Instr.findKey b a l).run P w=.ok none w)∨∃ j v x e,r=some (j,v)/\(Instr.findKey b a l).run P w=.ok (some (j,x)) w/\Rel G w v x/\l[j]? = some e/\Instr.sameBits 10000 e.key a=true):=by
 unfold qlv at h;rw [cond_eq_ite] at h;split at h
 .rename_i i;refine ⟨λe=>run_checkKey hu i e 9999 a,?_⟩;rcases qhe g es l 0 r hm h with ⟨c,d⟩ | ⟨j,m,x,n,c,d,o,s,p,q⟩
  .exact .inl ⟨c,run_findKey hu d⟩
  .exact .inr ⟨j,m,x,n,c,run_findKey hu d,o,by simpa using p,q⟩
 .cases h
theorem q2l (f:Sim H G w) (e:SimFr G w fr a) {t l m:TypeId} {ti:TI} (s:typeOf P t=some ti) (h:ti.under=.map l m) {r:Option Operand} (p:o.op=.makeMap t r) (u:∀ x,r=some x->∃ k n,opd fr H x=some (.int k n)) :
  ju P o a H G w (H.new (.map [] 0)) (.val (.map H.next)):=by
 have i:P.underlying t=some (.map l m):=h ▸ (qx s).1;have c:=f.new (.map [] 0) (.map #[] 0) 0 (λ_ g b y n d=>by
  simp only [qik] at d;by_cases j:g=0
  .rw [zT ⟨trivial,j⟩] at d;cases d;exact ⟨j,#[],qd1 _ _,by simp [qb8]⟩
  .rw [zF (λx=>j x.2),f.fresh] at d;cases d)
 refine ⟨.map (some w.heap.size),_,_,?_,c,?_⟩
 .cases r with
  | none=>simp [execOp,p,Instr.makeMap];rfl
  | some x=>
   obtain ⟨k,n,v⟩:=u x rfl;have q:=zf f e v;simp only [Rel] at q;simp [execOp,p,Instr.makeMap,q,run_underlying i,asInt,asIntOf];rfl
 .simp only [Rel];exact ⟨w.heap.size,0,0,qdz _ _ _ _,rfl⟩
theorem zoc {sp:Nat->Option (List V->Heap->Option (CR×Heap))} (B:Sim H G w) (e:SimFr G w fr a) {t f O:TypeId} {ti N D:TI} (ht:typeOf P t=some ti) (Q:ti.under=.map f O) (hk:typeOf P f=some N) (he:typeOf P O=some D) {x y:Operand} {ok:Bool} (ho:o.op=.lookup t x y ok) {m k:V}
  {r:Option (Nat×V)} (h:(match m with
    | .nilm=>qlv (zr P sp) f N.under k []
    | .map nm=>match H.get nm with
     | some (.map p _)=>qlv (zr P sp) f N.under k p
     | _=>none
    | _=>none:Option (Option (Nat×V)))=some r) (hx:opd fr H x=some m) (hy:opd fr H y=some k):ju P o a H G w H (match r with
     | some (_,x)=>.val (if ok then .tuple [x,.bool true] else x)
     | none=>.val (if ok then .tuple [D.zero,.bool false] else D.zero)):=by
 have E:P.underlying t=some (.map f O):=Q ▸ (qx ht).1;have R:=(qx hk).1;have S:=zf B e hx;have Z:=zf B e hy;obtain ⟨z,hz,_,F⟩:=qfu he w;obtain ⟨g,I⟩:∃ g,g=a.eval x:=⟨_,rfl⟩;obtain ⟨c,J⟩:∃ c,c=a.eval y:=⟨_,rfl⟩;rw [<-I] at S;rw [<-J] at Z;have K:execOp a.eval o=(do let v <-Instr.lookup t g c ok;pure (.value v)):=by simp only [execOp,ho,I,J]
 have i:∀ (p:List (V×V×Nat)) (d:Array MapEntry),qb8 G w p d.toList->qlv (zr P sp) f N.under k p=some r->
   (∀ s,(Instr.findKey f c d.toList).run P w=.ok s w->(∀ e,(Instr.checkKey e 10000 f c).run P w=.ok () w)->(Instr.lookup t g c ok).run P w=.ok (match s with
      | some (_,v)=>if ok then .tuple #[v,.bool true] else v
      | none=>if ok then .tuple #[z,.bool false] else z) w)->
   ju P o a H G w H (match r with
     | some (_,x)=>.val (if ok then .tuple [x,.bool true] else x)
     | none=>.val (if ok then .tuple [D.zero,.bool false] else D.zero)):=by
  intro p d hm T l;obtain ⟨C,T⟩:=q1j R Z hm T;rcases T with ⟨rfl,U⟩ | ⟨j,v,x',e',rfl,U,r3,_⟩
  .have W:=l _ U C;refine ju.pure B (x:=if ok then .tuple #[z,.bool false] else z) (by rw [K];simp only [Sem.run_bind,W,Result.andThen_ok,Sem.run_pure]) ?_;cases ok with
   | true=>
    exact ⟨_,rfl,qq.cons (F G w) (qq.cons (by simp only [Rel]) qq.nil)⟩
   | false=>exact F G w
  .have W:=l _ U C;refine ju.pure B (x:=if ok then .tuple #[x',.bool true] else x') (by rw [K];simp only [Sem.run_bind,W,Result.andThen_ok,Sem.run_pure]) ?_;cases ok with
   | true=>
    exact ⟨_,rfl,qq.cons r3 (qq.cons (by simp only [Rel]) qq.nil)⟩
   | false=>exact r3
 cases m with
 | nilm=>
  refine i [] #[] (by simp [qb8]) h (λs u C=>?_);subst S;have A:=C true;have L:(Instr.findKey f c []).run P w=.ok s w:=u;simp only [Instr.lookup,Sem.run_bind,run_underlying E,Result.andThen_ok,Sem.run_pure,A,L,List.isEmpty_toArray,List.isEmpty_nil];cases s with
  | none=>simp_all
  | some q=>simp_all
 | map nm=>
  simp only at h;split at h
  .rename_i p ck X;obtain ⟨b,sh,n,hg,rfl⟩:=S;obtain ⟨_,d,hb,M⟩:=B.obj nm _ (B.lt _ _ _ _ _ hg).2 X 0 b sh n hg;refine i p d M h (λs u C=>?_);have A:=C d.isEmpty;have Y:(getObj b).run P w=.ok (.map d ck) w:=by simp [getObj,Sem.run,hb]
   simp only [Instr.lookup,Sem.run_bind,run_underlying E,Result.andThen_ok,Sem.run_pure,Y,A,u];cases s with
   | none=>simp_all
   | some q=>simp_all
  .cases h
 | _=>cases h
theorem qb8.append {c a:List (V×V×Nat)}:∀ {l b:List MapEntry},qb8 G w c l->qb8 G w a b->qb8 G w (c++a) (l++b):=by
 induction c with
 | nil=>intro l b h d;simp only [qb8] at h;subst h;exact d
 | cons e c f=>
  intro l b h d;obtain ⟨x,g,rfl,i,j,k,m⟩:=h;exact ⟨x,g++b,rfl,i,j,k,f m d⟩
theorem qb8.modify {k x:V} {f rx:Value} (g:Rel G w k f) (j:Rel G w x rx):∀ {a:List (V×V×Nat)} {l:List MapEntry} (i:Nat),qb8 G w a l->qb8 G w (a.modify i λe=>(k,x,e.2.2)) (l.modify i λe=>{e with key:=f,val:=rx})
 | [],l,i,h=>by simp only [qb8] at h;subst h;cases i<;>simp [qb8]
 | (p,v,b)::a,l,0,h=>by
  simp only [qb8] at h;obtain ⟨y,m,rfl,n,o,c,d⟩:=h;simp only [List.modify_zero_cons,qb8];exact ⟨_,m,rfl,g,j,c,d⟩
 | (p,v,b)::a,l,i+1,h=>by
  simp only [qb8] at h;obtain ⟨y,m,rfl,n,o,c,d⟩:=h;simp only [List.modify_succ_cons,qb8];exact ⟨y,_,rfl,n,o,c,qb8.modify g j i d⟩
theorem qlb {sp:Nat->Option (List V->Heap->Option (CR×Heap))} (A:Sim H G w) (e:SimFr G w fr a) {t O et:TypeId} {ti ki:TI} (ht:typeOf P t=some ti) (T:ti.under=.map O et) (hk:typeOf P O=some ki) {x y z:Operand} (Q:o.op=.mapUpdate t x y z∨o.op=.insert t x y z) {nm:Nat} {k v:V}
  (hx:opd fr H x=some (.map nm)) (hy:opd fr H y=some k) (hz:opd fr H z=some v) {es:List (V×V×Nat)} {B:Nat} (C:H.get nm=some (.map es B)) {r:Option (Nat×V)} (h:qlv (zr P sp) O ki.under k es=some r) {H':Heap}
  (hu:(match r with
    | some (i,_)=>H.upd nm (.map (es.modify i λe=>(k,v,e.2.2)) B)
    | none=>H.upd nm (.map (es++[(k,v,B)]) (B+1)))=some H'):ju P o a H G w H' .skip:=by
 have D:P.underlying t=some (.map O et):=T ▸ (qx ht).1;have U:=(qx hk).1;have rm:=zf A e hx;have R:=zf A e hy;have W:=zf A e hz;obtain ⟨c,E⟩:∃ c,c=a.eval y:=⟨_,rfl⟩;obtain ⟨f,F⟩:∃ f,f=a.eval z:=⟨_,rfl⟩;rw [<-E] at R;rw [<-F] at W;obtain ⟨b,sh,n,S,X⟩:=rm;have Y:execOp a.eval o=(do Instr.mapUpdate t (.map (some b)) c f;pure .skip):=by
  rcases Q with Q | Q<;>simp only [execOp,Q,X,E,F]
 have p:=A.obj nm _ (A.lt _ _ _ _ _ S).2 C;obtain ⟨_,l,I,g⟩:=p 0 b sh n S;obtain ⟨hp,hf⟩:=q1j U R g h;have J:=hp false;have K:(getObj b).run P w=.ok (.map l B) w:=by simp [getObj,Sem.run,I]
 have q:∀ Z,(setObj b Z).run P w=.ok () (qts w b Z):=λZ=>by simp [setObj,Sem.run,I,qts]
 have a1:w.shape? b=none:=by simp only [World.shape?,I]
 have fin:∀ (s:List (V×V×Nat)) (d:Array MapEntry) (m:Nat),qb8 G w s d.toList->H.upd nm (.map s m)=some H'->(Instr.mapUpdate t (.map (some b)) c f).run P w=.ok () (qts w b (.map d m))->ju P o a H G w H' .skip:=by
  intro s d m a6 a7 L;obtain ⟨u1,rfl⟩:=qj4 a7;refine ⟨qts w b (.map d m),G,by rw [Y];simp only [Sem.run_bind,L,Result.andThen_ok,Sem.run_pure],A.setObj _ C S u1 _ I a1 (λM g' b' a8 m' u=>?_)⟩;obtain ⟨f0,ab,f1,_⟩:=p g' b' a8 m' u;subst f0;rw [S] at u;cases u;exact ⟨rfl,d,qqi I,a6.ext M⟩
 rcases hf with ⟨rfl,r2⟩ | ⟨j,v',x',e',rfl,r2,r3,r5,r6⟩
 .refine fin _ (l.push {key:=c,val:=f,born:=B}) _ ?_ hu ?_
  .rw [Array.toList_push];exact g.append (by simp only [qb8];exact ⟨_,[],rfl,R,W,rfl,rfl⟩)
  .simp only [Instr.mapUpdate,Sem.run_bind,run_underlying D,Result.andThen_ok,K,J,r2,q]
 .refine fin _ (l.modify j λe=>{e with key:=c,val:=f}) _ ?_ hu ?_
  .rw [Array.toList_modify];exact qb8.modify R W j g
  .have N:((l[j]?).map (·.key)).getD c=e'.key:=by
    rw [Array.getElem?_toList] at r5;rw [r5];rfl
   have aa:(Instr.keyThatStays e'.key c).run P w=.ok c w:=by
    simp only [Instr.keyThatStays,r6,if_true,Sem.run_pure]
   simp only [Instr.mapUpdate,Sem.run_bind,run_underlying D,Result.andThen_ok,K,J,r2,N,aa,q]
theorem zdr (j:Sim H G w) (e:SimFr G w fr a) {t z:TypeId} {len:Nat} {ti c:TI} (J:typeOf P t=some ti) (hu:ti.under=.array len z) (A:typeOf P z=some c) {x:Operand} {lo hi:Option Operand} (K:o.op=.slice t x lo hi none) {nm g off lim:Nat} {m p:Option V} {v:V}
  (L:opd fr H x=some (.ptr nm g off lim)) (M:qo5 fr H lo=some m) (N:qo5 fr H hi=some p) {cells:List V} {elem:TypeId} {gen floor B:Nat} {exact:Bool} (C:H.get nm=some (.row cells elem gen floor B exact)) (D:floor<=g) (F:off+len * c.size<=lim)
  (h:qi5 c.size (.slice nm g off len c.size (some len)) m p none=some v):ju P o a H G w H (.val v):=by
 have O:=zf j e L;have E:P.underlying t=some (.array len z):=hu ▸ (qx J).1;have Q:=qix j e M;have R:=qix j e N;obtain ⟨b,f,n,y,q4,q5,S⟩:=O;obtain ⟨_,_,q⟩:=j.obj nm _ (j.lt _ _ _ _ _ y).2 C;obtain ⟨_,k2,_,_,_,T⟩:=q g b f n y;obtain ⟨i,fz,U,a2,_⟩:=T D;have I:w.shape? b=some (elem,i.size):=by simp only [World.shape?,U]
 have r:Nat.beq c.size c.size=true:=by rw [Nat.beq_eq]
 rw [qi5,V.qi2] at h;simp only [qlf,r,Bool.not_true,zQ,Option.getD_some,zH,zI,zM] at h;obtain ⟨s,W,l,X,rfl⟩:=h;obtain ⟨Y,Z,b3⟩:=qf5 (P:=P) (isSlice:=false) (cap:=len) Q R W X (zN _) (zN _);have a6:l * c.size<=s * c.size:=zU _ Y;have a7:s * c.size<=len * c.size:=zU _ Z;have a8:(s-l) * c.size=s * c.size-l * c.size:=Nat.sub_mul _ _ _;have aa:(len-l) * c.size=len * c.size-l * c.size:=Nat.sub_mul _ _ _;have d:∀ k,some (len-l)=some k->len-l=k/\off+l * c.size+k * c.size<=n:=by
  intro k hk;cases hk;exact ⟨rfl,by omega⟩
 refine ju.pure j (x:=.slice (some (if len=l then ⟨b,off-f,none⟩ else ⟨b,off-f+l * c.size,none⟩)) (s-l) (len-l)) ?_ ?_
 .simp only [execOp,K,Option.map_none,Sem.run_bind,S,Instr.sliceAt,run_underlying E,Result.andThen_ok,Instr.sureAddr,b3,jw A,Sem.run_pure,qgf]
 .by_cases u:len=l
  .rw [zT u];exact ⟨b,f,n,off-f,len-l,elem,i.size,_,y,rfl,.inr rfl,by omega,by omega,by omega,.inr (by omega),d,I,by omega⟩
  .rw [zF u];simp only [Rel];exact ⟨b,f,n,off-f+l * c.size,len-l,elem,i.size,_,y,rfl,.inr rfl,by omega,by omega,by omega,.inl (by omega),d,I,by omega⟩
end
end Go.E2
/- E2: ONE OPERATION: what E2 makes of it the model makes of it. -/
namespace Go.E2
open Go
section
variable {P:Program} {sp:Nat->Option (List V->Heap->Option (CR×Heap))} {o:Oper} {a:Act} {H:Heap} {G:qk} {w:World} {fr:Fr}
theorem q44 {d:Nat} {t:TypeId} {a:Array Field} (h:qh7 P (d+1) t=true) (hu:P.underlying t=some (.struct a)):P.eqGuardType P.depth t=false:=by
 simp only [qh7,hu,zA,Bool.not_eq_true'] at h;exact h.1.2
theorem zg0 {op:BinOp} {t:TypeId} {x y:Operand} {p q v:V} {rx l:Value} {E:Env} (D:E=zr P sp) (A:Rel G w p rx) (B:Rel G w q l) (h:qcd E op t p q=some v)
  (i:p≠.nili∨q≠.nili∨(∃ c,x=.const c)∨(∃ c,y=.const c)):∀ w',(eqGuard op t x y rx l).run P w'=.ok () w':=by
 subst D;by_cases e:op=.eql∨op=.neq
 case neg=>
  unfold eqGuard;cases op<;>first | (simp;done) | exact (e (.inl rfl)).elim | exact (e (.inr rfl)).elim
 have f:∀ {u:V},Rel G w u .nilIface->u=.nili:=by
  intro u j;cases u<;>simp only [Rel,reduceCtorEq,false_and,and_false,exists_false] at j
  all_goals first
   | rfl
   | (simp at j;done)
   | grind
 have g:∀ {u:V} {m:Array Value},Rel G w u (.agg m)->∃ cs,u=.agg cs:=by
  intro u m j;cases u<;>simp only [Rel,reduceCtorEq,false_and,and_false,exists_false] at j
  all_goals first
   | exact ⟨_,rfl⟩
   | (simp at j;done)
   | grind
 have n:eqGuard op t x y rx l=eqGuard .eql t x y rx l:=by
  rcases e with rfl | rfl<;>rfl
 rw [n];unfold eqGuard;simp only [Bool.not_true,Bool.false_eq_true,if_false];split
 .have F:=f A;have k:=f B;rcases i with i | i | ⟨c,i⟩ | ⟨c,i⟩
  .simp_all
  .simp_all
  .subst i;simp
  .subst i;simp
 .obtain ⟨m,rfl⟩:=g A;obtain ⟨H,rfl⟩:=g B;have o:∃ b,eqV (zr P sp) 1000 t (.agg m) (.agg H)=some b:=by
   rcases e with rfl | rfl
   .simp only [qcd,zM] at h;obtain ⟨b,a,_⟩:=h;exact ⟨b,a⟩
   .simp only [qcd,zM] at h;obtain ⟨b,a,_⟩:=h;exact ⟨b,a⟩
  obtain ⟨b,a⟩:=o;have I:P.eqGuardType P.depth t=false:=by
   simp only [eqV] at a;split at a
   .cases a
   .rename_i ti J;have r:=(qx J).1;split at a<;>first
     | (cases a;done)
     | skip
    all_goals first
     | (rename_i k C;cases k;done)
     | (rename_i F k C;cases k;done)
     | skip
    rename_i M K L s k C;rw [cond_eq_ite] at a;split at a
    .rename_i z;exact q44 (d:=19) z (s ▸ r)
    .cases a
  simp [I]
 .simp
theorem qb8.length:∀ {a:List (V×V×Nat)} {l:List MapEntry},qb8 G w a l->a.length=l.length
 | [],_,h=>by simp only [qb8] at h;subst h;rfl
 | (k,v,b)::a,_,h=>by
  simp only [qb8] at h;obtain ⟨x,c,rfl,_,_,_,h⟩:=h;simp [qb8.length h]
theorem q6x:∀ (l:List V) (x v:V) (c:Value) (d:List Value),Rel G w x c->qq G w l d->q9n false x l=some v->∃ e,(d.foldlM Builtin.min2 c).run P w=.ok e w/\Rel G w v e
 | [],x,v,c,d,f,a,h=>by
  simp only [qq] at a;subst a;simp only [q9n,zS] at h;subst h;exact ⟨c,by simp,f⟩
 | u::l,x,v,c,d,f,a,h=>by
  simp only [qq] at a;obtain ⟨o,g,rfl,i,a⟩:=a;unfold q9n at h;split at h
  .rename_i b;cases b
  .rename_i k p r q j b;cases b;simp only [Rel] at f i;subst f;subst i;obtain ⟨e,m,n⟩:=q6x l _ v (.int k (if q<p then q else p)) g (by simp [Rel]) a h;exact ⟨e,by simp only [List.foldlM_cons,Builtin.min2,Sem.run_bind,Sem.run_pure,Result.andThen_ok];exact m,n⟩
  .cases h
theorem q6w:∀ (l:List V) (x v:V) (c:Value) (d:List Value),Rel G w x c->qq G w l d->q9n true x l=some v->∃ e,(d.foldlM Builtin.max2 c).run P w=.ok e w/\Rel G w v e
 | [],x,v,c,d,f,a,h=>by
  simp only [qq] at a;subst a;simp only [q9n,zS] at h;subst h;exact ⟨c,by simp,f⟩
 | u::l,x,v,c,d,f,a,h=>by
  simp only [qq] at a;obtain ⟨o,g,rfl,i,a⟩:=a;unfold q9n at h;split at h
  .rename_i b;cases b
  .rename_i k p r q j b;cases b;simp only [Rel] at f i;subst f;subst i;obtain ⟨e,m,n⟩:=q6w l _ v (.int k (if q > p then q else p)) g (by simp [Rel]) a h;exact ⟨e,by simp only [List.foldlM_cons,Builtin.max2,Sem.run_bind,Sem.run_pure,Result.andThen_ok];exact m,n⟩
  .cases h
theorem z1r {a:Array TypeId} {ty:TypeId} {l c:Nat}:(Builtin.unsafeSliceData_ a ty #[.slice none l c]).run P w=.ok (.pointer none) w:=rfl
theorem zw2 {a:Array TypeId} {ty:TypeId} {ad:Addr} {l c:Nat} (h:c≠0):(Builtin.unsafeSliceData_ a ty #[.slice (some ad) l c]).run P w=.ok (.pointer (some ad)) w:=by
 change Sem.run P (if c≠0 then pure (Value.pointer (some ad)) else _) w=_;rw [zT h];rfl
theorem qy9 (p:Sim H G w) (e:SimFr G w fr a) {c:Go.Call} {b:Builtin} (r:o.op=.call c) (y:c.callee=.builtin b) {args:List V} {out:Out} {H':Heap} (d:qdm fr H c.args.toList=some args)
  (h:qar (zr P sp) b c.argTypes.toList args H=some (out,H')):ju P o a H G w H' out:=by
 unfold qar at h;split at h
 .
  split at h
  .rename_i t i;simp only [zr,zI] at h;obtain ⟨ti,I,h⟩:=h;have j:=(qx I).1;split at h
   .rename_i n J f;cases h;exact qw6 p e r y d i (λC q ty=>by rw [f] at j;simp [Builtin.len_,run_underlying j])
   .rename_i s f;cases h;refine qw6 p e r y d i (λC q ty=>?_);subst q;rw [f] at j;have S:(ByteArray.mk s.toArray).size=s.length:=by simp [ByteArray.size]
    simp [Builtin.len_,run_underlying j,S]
   .rename_i J f;cases h;refine qw6 p e r y d i (λC q ty=>?_);subst q;rw [f] at j;simp [Builtin.len_,run_underlying j]
   .rename_i J nm g off len sz cap f;cases h;refine qw6 p e r y d i (λC q ty=>?_);obtain ⟨b,K,n,ro,c,e',m,_,_,rfl,_⟩:=q;rw [f] at j;simp [Builtin.len_,run_underlying j]
   .rename_i kt et f;cases h;refine qw6 p e r y d i (λC q ty=>?_);subst q;rw [f] at j;simp [Builtin.len_,run_underlying j]
   .rename_i kt et nm f;split at h
    .rename_i es ck T;cases h;refine qw6 p e r y d i (λC q ty=>?_);obtain ⟨b,K,n,B,rfl⟩:=q;obtain ⟨_,U,L,M⟩:=p.obj nm _ (p.lt _ _ _ _ _ B).2 T 0 b K n B;rw [f] at j;have D:es.length=U.size:=by simpa using M.length
     simp [Builtin.len_,run_underlying j,getObj,Sem.run,L,D]
    .cases h
   .cases h
  .cases h
 .
  split at h
  .rename_i t u i;simp only [zr,zI] at h;obtain ⟨ti,I,ui,R,h⟩:=h;split at h
   .rename_i J e' f E;simp only [zI,zM,zP] at h;obtain ⟨ei,z,⟨v,H1⟩,B,rfl,rfl⟩:=h;exact q65 p e r y d i I R f (.inl ⟨_,E⟩) z B
   .rename_i J f E;simp only [zI,zM,zP] at h;obtain ⟨ei,z,⟨v,H1⟩,B,rfl,rfl⟩:=h;exact q65 p e r y d i I R f (.inr E) z B
   .cases h
  .cases h
 .
  obtain ⟨F,cs,k⟩:=qg1 (P:=P) p e r y d;obtain ⟨C,A,q⟩:=zk3 F;rw [A] at k;split at h
  .cases h;simp only [Rel] at q;subst q;exact ju.pure p (x:=.pointer none) (by rw [k];simp only [builtin,Sem.run_bind,z1r,Result.andThen_ok,Sem.run_pure]) (by simp [Rel])
  .rename_i nm g off len sz cap;rw [cond_eq_ite] at h;split at h
   .rename_i N;rw [Nat.blt_eq] at N;cases h;simp only [Rel] at q;obtain ⟨b,K,n,ro,c,e',m,ad,e1,rfl,O,e3,e4,e5,e6,e7,e8,e9⟩:=q;have Q:c≠0:=by omega
    obtain rfl:ad=⟨b,ro,none⟩:=by
     rcases O with O | O
     .exact absurd O Q
     .exact O
    refine ju.pure p (x:=.pointer (some ⟨b,ro,none⟩)) (by rw [k];simp only [builtin,Sem.run_bind,zw2 Q,Result.andThen_ok,Sem.run_pure]) ?_;simp only [Rel];refine ⟨b,K,n,e1,e4,e5,?_⟩;have:ro=off-K:=by omega
    rw [this]
   .cases h
  .cases h
 .
  split at h
  .rename_i pt it i;split at h
   .split at h
    .rename_i hn;subst hn;cases h;exact qtm p e r y d i
    .cases h
   .rename_i n nm g lim;simp only [zr,zI] at h;obtain ⟨ti,I,h⟩:=h;split at h
    .rename_i J cells a1 gen W a6 exact f X;simp only [zI] at h;obtain ⟨ei,z,h⟩:=h;split at h
     .rename_i hb;obtain ⟨b1,b2,b3,b4,b5⟩:=hb;subst b1;subst b5;simp only [zI,zM,zP] at h;obtain ⟨cs,Y,l,D,H1,R,rfl,rfl⟩:=h;exact qzg p e r y d i I f z b2 X b3 b4 Y D R
     .cases h
    .cases h
   .cases h
  .cases h
 .
  simp only [zM,zP] at h;obtain ⟨v,B,rfl,rfl⟩:=h;obtain ⟨F,cs,k⟩:=qg1 (P:=P) p e r y d;simp only [qq] at F;obtain ⟨C,rl,A,q,D⟩:=F;obtain ⟨Z,L,M⟩:=q6x (P:=P) _ _ _ _ _ q D B;refine ju.pure p (x:=Z) ?_ M;rw [k];simp only [builtin,Builtin.min_,A,Sem.run_bind,L,Result.andThen_ok,Sem.run_pure]
 .
  simp only [zM,zP] at h;obtain ⟨v,B,rfl,rfl⟩:=h;obtain ⟨F,cs,k⟩:=qg1 (P:=P) p e r y d;simp only [qq] at F;obtain ⟨C,rl,A,q,D⟩:=F;obtain ⟨Z,L,M⟩:=q6w (P:=P) _ _ _ _ _ q D B;refine ju.pure p (x:=Z) ?_ M;rw [k];simp only [builtin,Builtin.max_,A,Sem.run_bind,L,Result.andThen_ok,Sem.run_pure]
 .cases h
theorem zia {b:Nat} {x} (h:w.shape? b=some x):(viewAt b).run P w=.ok none w:=by
 simp [viewAt,h]
theorem q28 {ad:Addr} {x} (h:w.shape? ad.block=some x):(Conv.seenAt ad).run P w=.ok ad w:=by
 simp [Conv.seenAt,zia h]
theorem zd8 {b:Nat} {t:TypeId} {k:Nat} (h:w.shape? b=some (t,k)):(cellsIn b).run P w=.ok (some k) w:=by
 simp [cellsIn,h]
theorem qze (f:Sim H G w) (e:SimFr G w fr a) {src dst i:TypeId} {C D j:TI} (k:typeOf P src=some C) (l:typeOf P dst=some D) (m:typeOf P i=some j) (p:C.under=.pointer i)
  (r:D.under=.unsafePointer) {x:Operand} (J:o.op=.convert src dst x) {nm g off lim:Nat} (K:opd fr H x=some (.ptr nm g off lim)) {cells:List V} {elem:TypeId} {gen floor s:Nat} {exact:Bool}
  (t:H.get nm=some (.row cells elem gen floor s exact)) (L:floor<=g) (O:0<j.size) (Q:off+1<=lim):ju P o a H G w H (.val (.ptr nm g off lim)):=by
 have E:=zf f e K;have u:=E;obtain ⟨b,h,n,F,R,S,I⟩:=E;obtain ⟨_,_,q⟩:=f.obj nm _ (f.lt _ _ _ _ _ F).2 t;obtain ⟨_,_,_,_,_,M⟩:=q g b h n F;obtain ⟨c,fz,N,T,_⟩:=M L;have d:w.shape? b=some (elem,c.size):=by simp only [World.shape?,N]
 have v:P.underlying src=some (.pointer i):=p ▸ (qx k).1;have y:P.underlying dst=some .unsafePointer:=r ▸ (qx l).1;refine ju.pure f (x:=.pointer (some ⟨b,off-h,none⟩)) ?_ (I ▸ u);have z:=jw (P:=P) m;have A:¬ j.size=0:=by omega
 have B:¬ c.size<=off-h:=by omega
 simp [execOp,J,I,convert,run_underlying v,run_underlying y,Conv.unsafePointer,q28 (P:=P) (ad:=⟨b,off-h,none⟩) d,zd8 (P:=P) d,z,A,B]
theorem qve (h:Sim H G w) (e:SimFr G w fr a) {src dst c:TypeId} {I J j li:TI} (k:typeOf P src=some I) (l:typeOf P dst=some J) (m:typeOf P c=some j) (p:I.under=.unsafePointer)
  (r:J.under=.pointer c) {x:Operand} (N:o.op=.convert src dst x) {nm g off lim:Nat} (O:opd fr H x=some (.ptr nm g off lim)) {cells:List V} {elem:TypeId} {gen floor s:Nat}
  (t:H.get nm=some (.row cells elem gen floor s true)) (u:typeOf P elem=some li) (Q:floor<=g) (Z:0<j.size) (R:liesAt P P.depth elem (cells.length / li.size) off c 1=true):ju P o a H G w H (.val (.ptr nm g off lim)):=by
 have K:=zf h e O;have v:=K;obtain ⟨b,d,n,L,q1,q2,M⟩:=K;obtain ⟨_,_,q⟩:=h.obj nm _ (h.lt _ _ _ _ _ L).2 t;obtain ⟨_,_,_,_,S,T⟩:=q g b d n L;obtain ⟨y,fz,U,a2,_,_,W⟩:=T Q;have f:w.shape? b=some (elem,y.size):=by simp only [World.shape?,U]
 have A:P.underlying src=some .unsafePointer:=p ▸ (qx k).1;have B:P.underlying dst=some (.pointer c):=r ▸ (qx l).1;have X:off-d=off:=by have:=S rfl;omega
 refine ju.pure h (x:=.pointer (some ⟨b,off-d,none⟩)) ?_ (M ▸ v);have C:=jw (P:=P) m;have D:¬ j.size=0:=by omega
 have Y:P.cellsOf elem=li.size:=by
  obtain ⟨_,_,i,z,hi,E,_⟩:=qx u;simp [Program.cellsOf,hi,E]
 have F:(variablesAt ⟨b,off-d,none⟩ c 1).run P w=.ok true w:=by
  simp [variablesAt,program,Sem.run,f,Y,X,W rfl,R]
 simp [execOp,N,M,convert,run_underlying A,run_underlying B,Conv.unsafePointer,q28 (P:=P) (ad:=⟨b,off-d,none⟩) f,C,D,F]
theorem qom (B:Sim H G w) (e:SimFr G w fr a) {out:Out} {H':Heap} (h:jk (zr P sp) o fr H=some (out,H')):ju P o a H G w H' out:=by
 unfold jk at h;split at h
 .
  rename_i x z;simp only [zM,zP] at h;obtain ⟨v,A,rfl,rfl⟩:=h;exact zk4 B e (.inl z) A
 .rename_i x z;simp only [zM,zP] at h;obtain ⟨v,A,rfl,rfl⟩:=h;exact zk4 B e (.inr z) A
 .
  rename_i c x y z;split at h
  .rename_i b F;simp only [zM,zP] at h;obtain ⟨v,A,rfl,rfl⟩:=h;exact z0m B e z F A
  .cases h
 .
  rename_i t z;simp only [zr,zM,zP] at h;obtain ⟨ti,E,rfl,rfl⟩:=h;exact zuy B z E
 .
  rename_i t x z;simp only [zI,zS,zP] at h;obtain ⟨v,A,rfl,rfl⟩:=h;exact z4w B e z A
 .
  rename_i t parts z;simp only [zr,zI] at h;obtain ⟨ti,E,vs,L,h⟩:=h;split at h
  .rename_i fs d;simp only [cond_eq_ite,Bool.not_eq_true'] at h;split at h
   .cases h
   .rename_i a8;simp only [zM,zP] at h;obtain ⟨v,⟨cs,A,rfl⟩,rfl,rfl⟩:=h;refine q2k B e E d z L (λf W=>?_) A;have X:fs.toList.all (λf=>(typeOf P f.type).isSome)=true:=by
     cases I:fs.toList.all (λf=>(typeOf P f.type).isSome) with
     | true=>rfl
     | false=>exact absurd I a8
    have:=List.all_eq_true.1 X f W;exact Option.isSome_iff_exists.1 this
  .rename_i n U d;simp only [zI,zM,zP] at h;obtain ⟨T,D,v,⟨cs,A,rfl⟩,rfl,rfl⟩:=h;exact q42 B e E d D z L A
  .cases h
 .
  rename_i t len parts z;simp only [zr,zI] at h;obtain ⟨ti,E,vs,L,h⟩:=h;split at h
  .rename_i U d;simp only [zI,cond_eq_ite,Nat.ble_eq] at h;obtain ⟨T,D,h⟩:=h;split at h
   .rename_i F;simp only [zM,zP] at h;obtain ⟨cs,A,rfl,rfl⟩:=h;exact q43 B e E d D z L F A
   .cases h
  .cases h
 .
  rename_i t x z;simp only [zr,zI,zM,zP] at h;obtain ⟨ti,E,p,C,v,A,rfl,rfl⟩:=h;exact z0l B e E z C A
 .
  rename_i t x y z;simp only [zr,zI,zM,zP] at h;obtain ⟨ti,E,p,C,v,L,H1,A,rfl,rfl⟩:=h;exact zu1 B e E z C L A
 .
  rename_i x z;split at h<;>try (cases h;done)
  rename_i v n1 n2 n3 n4 L;cases h;refine zdq B e z L ?_;split
  .exact (n1 rfl).elim
  .exact (n2 rfl).elim
  .exact (n3 rfl).elim
  .exact (n4 _ _ _ rfl).elim
  .trivial
 .
  rename_i op t x y t' z;simp only [zI] at h;obtain ⟨p,C,q,I,h⟩:=h;have Y:∀ v,qcd (zr P sp) op t p q=some v->(p≠.nili∨q≠.nili∨(∃ c,x=.const c)∨(∃ c,y=.const c))->ju P o a H G w H (.val v):=
   λv L hc=>zuz rfl rfl B e z C I (zg0 rfl (zf B e C) (zf B e I) L hc) L
  split at h
  .split at h
   .simp only [zM,zP] at h;obtain ⟨v,A,rfl,rfl⟩:=h;exact Y v A (.inr (.inr (.inl ⟨_,rfl⟩)))
   .simp only [zM,zP] at h;obtain ⟨v,A,rfl,rfl⟩:=h;exact Y v A (.inr (.inr (.inr ⟨_,rfl⟩)))
   .cases h
  .rename_i hn;simp only [zM,zP] at h;obtain ⟨v,A,rfl,rfl⟩:=h;refine Y v A ?_;by_cases aa:p=.nili
   .by_cases ab:q=.nili
    .exact (hn aa ab).elim
    .exact .inr (.inl ab)
   .exact .inl aa
 .
  rename_i op t x z;simp only [zI,zM,zP] at h;obtain ⟨p,C,v,A,rfl,rfl⟩:=h;exact z0n B e z C A
 .
  rename_i aj dst x z;simp only [zr,zI] at h;obtain ⟨si,M,di,N,p,C,h⟩:=h;split at h
  .rename_i k0 k k' n J K;cases h;exact zhm B e M N J K z C
  .rename_i s J K;cases h;exact zhn B e M N J K z C
  .rename_i U J K;split at h
   .cases h
   .rename_i af;simp only [zI] at h;obtain ⟨T,D,h⟩:=h;split at h
    .rename_i ag;simp only [zI,zM,zP] at h;obtain ⟨r,V,l,hl,rfl,rfl⟩:=h;exact q9v B e M N D J ag K z C (λs I=>af s I) V hl
    .cases h
  .rename_i U nm g off lim J K;simp only [zI] at h;obtain ⟨T,D,h⟩:=h;split at h
   .rename_i c1 c2 c3 O c4 c5 Q;rw [cond_eq_ite] at h;split at h
    .rename_i F;simp only [zA,Nat.ble_eq,Nat.blt_eq] at F;cases h;exact qze B e M N D J K z C Q F.1.1 F.1.2 F.2
    .cases h
   .cases h
  .rename_i U nm g off lim J K;simp only [zI] at h;obtain ⟨T,D,h⟩:=h;split at h
   .rename_i cells ai c3 O c4 Q;simp only [zI] at h;obtain ⟨li,ah,h⟩:=h;rw [cond_eq_ite] at h;split at h
    .rename_i F;simp only [zA,Nat.ble_eq,Nat.blt_eq] at F;cases h;exact qve B e M N D J K z C Q ah F.1.1 F.1.2 F.2
    .cases h
   .cases h
  .cases h
 .
  rename_i fn first a7 z
  simp only [zI,zM,zP] at h;obtain ⟨p,C,q,I,rfl,rfl⟩:=h;exact zdp B e z C I
 .
  rename_i t r z;simp only [zr,zI] at h;obtain ⟨ti,E,h⟩:=h;split at h
  .rename_i kt et d;cases h;exact q2l B e E d z (λx hx=>by cases hx)
  .rename_i kt et x d;simp only [zI] at h;obtain ⟨p,C,h⟩:=h;split at h
   .cases h;exact q2l B e E d z (λx hx=>by cases hx;exact ⟨_,_,C⟩)
   .cases h
  .cases h
 .
  rename_i t x lo hi z;simp only [zr,zI] at h;obtain ⟨ti,E,p,C,ak,Z,al,a1,h⟩:=h;split at h
  .rename_i U d;split at h
   .cases h
   .rename_i ad;simp only [zI,zM,zP] at h;obtain ⟨T,D,v,A,rfl,rfl⟩:=h;exact zhp B e E d D z C Z a1 (λs B=>ad s B) A
  .rename_i d;split at h
   .simp only [zM,zP] at h;obtain ⟨v,A,rfl,rfl⟩:=h;exact zds B e E d z C Z a1 A
   .cases h
  .rename_i n U d;simp only [zI] at h;obtain ⟨T,D,h⟩:=h;split at h
   .split at h
    .rename_i c1 c2 c3 O c4 c5 Q;rw [cond_eq_ite] at h;split at h
     .rename_i F;simp only [zA,Nat.ble_eq] at F;simp only [zM,zP] at h;obtain ⟨v,A,rfl,rfl⟩:=h;exact zdr B e E d D z C Z a1 Q F.1 F.2 A
     .cases h
    .cases h
   .cases h
  .cases h
 .
  rename_i s x k z;simp only [zr,zI,cond_eq_ite,Nat.beq_eq] at h;obtain ⟨ti,E,f,W,fi,a6,h⟩:=h;split at h
  .cases h
  .rename_i hz;simp only [zI] at h;obtain ⟨p,C,h⟩:=h;split at h
   .cases h;exact q9w B e E z W a6 hz C rfl
   .cases h
 .
  rename_i t x k z;simp only [zr,zI] at h;obtain ⟨ti,E,f,W,fi,a6,p,C,h⟩:=h;split at h
  .simp only [zM,zP] at h;obtain ⟨v,A,rfl,rfl⟩:=h;exact zu0 B e E W a6 z C A
  .cases h
 .
  rename_i t x i z;simp only [zr,zI] at h;obtain ⟨ti,E,p,C,q,I,h⟩:=h;split at h
  .rename_i U d;simp only [zI,zM,zP] at h;obtain ⟨T,D,v,A,rfl,rfl⟩:=h;exact q9x B e E d D z C I A
  .rename_i n U d;simp only [zI] at h;obtain ⟨T,D,h⟩:=h;split at h
   .split at h
    .rename_i F;cases h;exact qzf B e E d D z C I F.1 F.2 rfl
    .cases h
   .cases h
  .cases h
 .
  rename_i t x i z;simp only [zr,zI] at h;obtain ⟨ti,E,p,C,q,I,h⟩:=h;split at h
  .rename_i d;split at h
   .rename_i F;simp only [zM,zP] at h;obtain ⟨b,A,rfl,rfl⟩:=h;exact zdo B e E d z C I F A
   .cases h
  .rename_i n U cs k j d;simp only [zI] at h;obtain ⟨T,D,h⟩:=h;split at h
   .rename_i F;simp only [zM,zP] at h;obtain ⟨v,A,rfl,rfl⟩:=h;exact zdn B e E d D z C I F A
   .cases h
  .cases h
 .
  rename_i t i z;simp only [zI] at h;obtain ⟨p,C,h⟩:=h;split at h
  .simp only [zM,zP] at h;obtain ⟨v,A,rfl,rfl⟩:=h;exact zho B e z C A
  .cases h
 .
  rename_i c z;simp only [zI] at h;obtain ⟨args,R,h⟩:=h;split at h
  .rename_i f hc;simp only [zI,zM,zP] at h;obtain ⟨fv,W,ae,A,rfl,rfl⟩:=h;cases ae with
   | call an vs=>exact z0k B e z hc R W A
   | _=>unfold qht at A;split at A<;>cases A
  .rename_i b hc;exact qy9 B e z hc R h
  .cases h
 .
  rename_i t m k ok z;simp only [zr,zI] at h;obtain ⟨ti,E,p,C,q,I,h⟩:=h;split at h
  .rename_i kt et d;simp only [zI,zM] at h;obtain ⟨ki,hk,T,he,r,V,h⟩:=h;have:=zoc B e E d hk he z V C I;cases r with
   | none=>cases h;exact this
   | some y=>cases h;exact this
  .cases h
 .
  rename_i t m k x z;simp only [zr,zI] at h;obtain ⟨ti,E,p,C,q,I,u,hu,h⟩:=h;split at h
  .rename_i kt et nm d;simp only [zI] at h;obtain ⟨ki,hk,h⟩:=h;split at h
   .rename_i es ck S;simp only [zI] at h;obtain ⟨r,V,h⟩:=h;split at h
    .simp only [zM,zP] at h;obtain ⟨H1,A,rfl,rfl⟩:=h;exact qlb B e E d hk (.inl z) C I hu S V A
    .simp only [zM,zP] at h;obtain ⟨H1,A,rfl,rfl⟩:=h;exact qlb B e E d hk (.inl z) C I hu S V A
   .cases h
  .cases h
 .
  rename_i t m k x z;simp only [zr,zI] at h;obtain ⟨ti,E,p,C,q,I,u,hu,h⟩:=h;split at h
  .rename_i kt et nm d;simp only [zI] at h;obtain ⟨ki,hk,h⟩:=h;split at h
   .rename_i es ck S;simp only [zI] at h;obtain ⟨r,V,h⟩:=h;split at h
    .simp only [zM,zP] at h;obtain ⟨H1,A,rfl,rfl⟩:=h;exact qlb B e E d hk (.inr z) C I hu S V A
    .simp only [zM,zP] at h;obtain ⟨H1,A,rfl,rfl⟩:=h;exact qlb B e E d hk (.inr z) C I hu S V A
   .cases h
  .cases h
 .cases h
end
end Go.E2
/- E2: CODE: what E2 makes of it the model makes of it. -/
namespace Go.E2
open Go
def qhb (F:Fence):Prop:=(∀ f,F.fn f)/\F.depth=none/\F.alive=false
theorem qhb.inRound {F:Fence} (h:qhb F) (l:Nat):qhb (F.inRound l):=h
def q5k (G:qk) (w:World) (p:PE) (q:PanicEntry):Prop:=Rel G w p.v q.v/\p.recovered=q.recovered/\p.goexit=q.goexit
def qr3 (G:qk) (w:World):List PE->List PanicEntry->Prop
 | [],l=>l=[]
 | p::ps,l=>∃ q a,l=q::a/\q5k G w p q/\qr3 G w ps a
def zqq (G:qk) (w:World):Ex->Exit->Prop
 | .normal,e=>e=.normal
 | .exit id,e=>e=.exit id
 | .goto l,e=>e=.goto l
 | .ret,e=>e=.ret
 | .panic b,e=>∃ a,e=.panic a/\qr3 G w b a
def qt1 (H:Heap) (G:qk) (w:World) (x:Ex×Fr×Heap):Exit->Act->World->Prop:=
 λe b w'=>∃ a,Step H G w x.2.2 a w'/\SimFr a w' x.2.1 b/\zqq a w' x.1 e
def qln (G:qk) (w:World):CR->Ending->Prop
 | .ret v,e=>∃ x,e=.returned x/\Rel G w v x
 | .panic b,e=>∃ a,e=.panicked a/\qr3 G w b a
def qhr (P:Program) (c:Call):Prop:=
 ∀ i args H r H',c i args H=some (r,H')->∀ G w t a,Sim H G w->zqr G w i args t a->
  (∃ x w' g v,(invoke t a).run P w=.ok (.value x) w'/\Step H G w H' g w'/\r=.ret v/\Rel g w' v x)∨
  (∃ f b,(invoke t a).run P w=.ok (.enter f b) w/\∀ F n,qhb F->CallsIn F n P f b w λe w'=>∃ g,Step H G w H' g w'/\qln g w' r e)∨
  (∃ l f h d body,(invoke t a).run P w=.ok (.round l f h d body) w/\∀ F n,qhb F->RoundIn F n P l f h d body w λe w'=>∃ g,Step H G w H' g w'/\qln g w' r e)
section
variable {P:Program} {sp:Nat->Option (List V->Heap->Option (CR×Heap))} {call:Call} {H:Heap} {G:qk} {w:World} {fr:Fr} {a:Act} {F:Fence} {n:Nat}
theorem z0f {v:V} {b:Bool} (h:Rel G w v (.bool b)) (a:∀ c,v≠.bool c):False:=by
 cases v<;>simp only [Rel,reduceCtorEq,false_and,and_false,exists_false] at h
 all_goals first
  | exact a _ rfl
  | (split at h<;>simp at h;done)
  | grind
theorem q38 {o:Oper} {all:Array Oper} (e:SimFr G w fr a) {b:Bool} (h:qek o all fr=some b):Region.wanted o (yielded all a.tmps)=b:=by
 unfold Region.wanted;unfold qek at h;cases q:o.guard with
 | none=>simp_all
 | some g=>
  obtain ⟨j,p⟩:=g;rw [q] at h;simp only at h ⊢;cases f:(all[j]?).bind (·.dst) with
  | none=>rw [f] at h;simp at h;simp [yielded,f,h]
  | some t=>
   rw [f] at h;simp only at h;split at h
   .rename_i k l;have d:=qoa e l;simp only [yielded,f,zB];simp only [Rel] at d;have c:a.tmps[t]? = some (.bool k):=by
     cases i:a.tmps[t]? with
     | none=>rw [Array.getD_eq_getD_getElem?,i] at d;simp [undef] at d
     | some y=>simp_all
    simpa [c] using h
   .rename_i v m l;have d:=qoa e l;simp only [yielded,f,zB];cases h;have r:∀ b,a.tmps[t]?≠some (.bool b):=by
     intro b i;have s:a.tmps.getD t undef=.bool b:=by rw [Array.getD_eq_getD_getElem?,i];rfl
     rw [s] at d;exact z0f d (λk n=>m k (by rw [n]))
    cases i:a.tmps[t]? with
    | none=>simp
    | some y=>simp_all
   .cases h
theorem qp0 (b:qhb F) {o:Oper}:∀ f,o.about P w a.eval=some f->F.fn f:=λf _=>b.1 f
theorem qq3 (M:qhr P call) (k:qhb F) (m:Sim H G w) (e:SimFr G w fr a) {all:Array Oper} {o:Oper} {r:CR} {H':Heap} (h:qgb (zr P sp) call all o fr H=some (r,H'))
  {K:Act->World->Prop} {Q:Exit->Act->World->Prop} (u:∀ v y w' g,r=.ret v->Step H G w H' g w'->Rel g w' v y->K (a.put o.dst y) w')
  (D:∀ w' g B i,r=.panic B->Step H G w H' g w'->qr3 g w' B i->Q (.panic i) a w') :
  if Region.wanted o (yielded all a.tmps) then o.wpIn F n P a w K Q else (∀ f,o.about P w a.eval=some f->F.fn f)/\K (a.put o.dst undef) w:=by
 unfold qgb at h;split at h
 .rename_i E;rw [q38 e E,zT rfl];have j:∀ c,jk (zr P sp) o fr H≠none->o.op≠.defer c:=by
   intro c I N;apply I;simp only [jk,N]
  split at h
  .rename_i v H1 b;cases h;obtain ⟨y,w',g,p,q,O⟩:=qom m e b;refine ⟨qp0 k,?_⟩;rw [Oper.semAt_eq _ _ _ (λc=>j c (by rw [b];simp)),p];exact u _ _ _ _ rfl q O
  .rename_i H1 b;cases h;obtain ⟨w',g,p,q⟩:=qom m e b;refine ⟨qp0 k,?_⟩;rw [Oper.semAt_eq _ _ _ (λc=>j c (by rw [b];simp)),p];exact u _ _ _ _ rfl q q7l
  .rename_i R args H1 b;obtain ⟨rfl,t,J,p,q⟩:=qom m e b;refine ⟨qp0 k,?_⟩;rw [Oper.semAt_eq _ _ _ (λc=>j c (by rw [b];simp)),p];have L:F.depth.isSome=true->1<=n:=by rw [k.2.1];simp
   rcases M _ _ _ _ _ h _ _ _ _ m q with ⟨y,w',g,V,x,z,S,T⟩ | ⟨f,C,x,z⟩ | ⟨l,f,tmps,assign,body,x,z⟩
   .subst S;rw [x];exact u _ _ _ _ rfl z T
   .rw [x];refine ⟨L,(z F (n-1) k).mono λU w' s=>?_⟩;obtain ⟨g,A,d⟩:=s;cases r with
    | ret v=>obtain ⟨y,rfl,d⟩:=d;exact u _ _ _ _ rfl A d
    | panic B=>obtain ⟨i,rfl,d⟩:=d;exact D _ _ _ _ rfl A d
   .rw [x];refine ⟨L,(z F (n-1) k).mono λU w' s=>?_⟩;obtain ⟨g,A,d⟩:=s;cases r with
    | ret v=>obtain ⟨y,rfl,d⟩:=d;exact u _ _ _ _ rfl A d
    | panic B=>obtain ⟨i,rfl,d⟩:=d;exact D _ _ _ _ rfl A d
  .rename_i v H1 b;cases h;obtain ⟨rfl,y,p,q⟩:=qom m e b;refine ⟨qp0 k,?_⟩;rw [Oper.semAt_eq _ _ _ (λc=>j c (by rw [b];simp)),p];refine D w G _ _ rfl (Step.refl m) ?_;exact ⟨_,_,rfl,⟨q,rfl,rfl⟩,rfl⟩
  .cases h
 .rename_i E;rw [q38 e E];cases h;exact ⟨qp0 k,u _ _ _ _ rfl (Step.refl m) q7l⟩
 .cases h
theorem qt1.trans {H':Heap} {c:qk} {w':World} (h:Step H G w H' c w') {x:Ex×Fr×Heap} {ex:Exit} {d:Act} {a:World} (e:qt1 H' c w' x ex d a):qt1 H G w x ex d a:=by
 obtain ⟨b,f,g,i⟩:=e;exact ⟨b,h.trans f,g,i⟩
theorem qvp (i:qhr P call) (j:qhb F) {s:Bool} (k:s=true->F.round=none) {all:Array Oper}:∀ (l:List Oper) (H:Heap) (G:qk) (w:World) (fr:Fr) (a:Act) (x:Ex×Fr×Heap) (Q:Exit->Act->World->Prop),Sim H G w->SimFr G w fr a->
  qh8 (zr P sp) call s all l fr H=some x->(∀ e t w',qt1 H G w x e t w'->Q e t w')->wpListIn F n P all Q l a w
 | [],H,G,w,fr,a,x,Q,f,e,h,g=>by
  simp only [qh8,zS] at h;subst h;exact g _ _ _ ⟨G,Step.refl f,e,rfl⟩
 | o::l,H,G,w,fr,a,x,Q,f,e,h,g=>by
  simp only [qh8] at h;split at h
  .rename_i v H' m;refine qq3 i j f e m (λu y w' c p b q=>?_) (λw' c z d r=>by cases r);cases p;exact qvp i j k l H' c w' _ _ x Q b.sim ((e.ext b.ext).put _ q) h (λe A B C=>g _ _ _ (C.trans b))
  .rename_i z H' m;cases h;refine qq3 i j f e m (λu y w' c p=>by cases p) (λw' c D d r b q=>?_);cases r;exact g _ _ _ ⟨c,b,e.ext b.ext,⟨d,rfl,q⟩⟩
  .cases h
def zfl (P:Program) (sp:Nat->Option (List V->Heap->Option (CR×Heap))) (call:Call):Prop:=
 ∀ (b:Array Oper) (fr:Fr) (H:Heap) (fr':Fr) (H':Heap),qdy (zr P sp) call b (Region.before b) 0 b.toList [] fr H=some (fr',H')->q09 b=true->
  ∀ (G:qk) (w:World) (a:Act) (F:Fence) (n:Nat) (id:Nat) (Q:Exit->Act->World->Prop),qhb F->Sim H G w->SimFr G w fr a->(∀ e c w',qt1 H G w (.normal,fr',H') e c w'->Q e c w')->(Code.region id b true).wpIn F n P Q a w
def qny (G:qk):Option Nat->Option Nat->Prop
 | none,r=>r=none
 | some l,r=>∃ b a n,G l 0=some (b,a,n)/\r=some b
theorem qny.sub {G a:qk} (h:∀ nm g x,G nm g=some x->a nm g=some x) {r c:Option Nat} (e:qny G r c):qny a r c:=by
 cases r with
 | none=>exact e
 | some l=>obtain ⟨b,d,n,f,i⟩:=e;exact ⟨b,d,n,h _ _ _ f,i⟩
theorem qhm {b:Frame} {k:List Item} {cs:List Frame} {c:Code}:step P (lone (b.atR a (.code (.scope c)::k)) cs w)=.next (lone (b.atR a (.code c::.inScope c::k)) cs w):=
 step_lone_go (by simp [stepG,stepG.exec,Frame.atR])
theorem q5c {b:Frame} {k:List Item} {cs:List Frame} {c:Code}:step P (lone (b.atR a (.inScope c::k)) cs w)=.next (lone (b.atR a k) cs w):=
 step_lone_go (by simp [stepG,stepG.exec,Frame.atR])
def noGoto (Q:Exit->Act->World->Prop):Exit->Act->World->Prop
 | .goto _,_,_=>False
 | e,a,w=>Q e a w
theorem zi3 {c:Code} {Q:Exit->Act->World->Prop} (h:c.wpIn F n P (noGoto Q) a w):(Code.scope c).wpIn F n P Q a w:=by
 intro b k cs m o p;have f:(lone (b.atR a (.code (.scope c)::k)) cs w).fenced P F:=fenced_calm o p rfl;obtain ⟨e,i,j,g,d⟩:=h b (.inScope c::k) cs m o p;cases e with
 | normal=>exact ⟨.normal,i,j,g,.head f qhm (StepsIn.trans d (.one (fenced_calm o p rfl) q5c))⟩
 | exit id=>
  refine ⟨.exit id,i,j,g,λs q=>.head f qhm (d.1 s (by simp [exitTo,q])),λr q=>?_⟩;obtain ⟨t,u,v⟩:=d.2 r (by simp [exitTo,q]);exact ⟨t,u,.head f qhm v⟩
 | goto l=>exact g.elim
 | ret=>exact ⟨.ret,i,j,g,.of_steps (.one f qhm) d⟩
 | panic x=>exact ⟨.panic x,i,j,g,.of_steps (.one f qhm) d⟩
 | outgrown=>exact ⟨.outgrown,i,j,g,.of_steps (b:=b) (k:=k) (cs:=cs) (e:=.outgrown) (.one f qhm) d⟩
theorem qcs.append {c:List Dfr}:∀ {l:List Deferred} {a:List Dfr} {b:List Deferred},qcs G w c l->qcs G w a b->qcs G w (c++a) (l++b):=by
 induction c with
 | nil=>intro l a b h e;simp only [qcs] at h;subst h;exact e
 | cons d c f=>
  intro l a b h e;cases d with
  | mark nm=>
   obtain ⟨x,g,rfl,i,j⟩:=h;exact ⟨x,g++b,rfl,f i e,j⟩
theorem q9j {b:Nat} {L:Loop} (h:w.heap[b]? = some (.loop L)):w.shape? b=none:=by simp only [World.shape?,h]
theorem run_getObj_loop {b:Nat} {L:Loop} (h:w.heap[b]? = some (.loop L)):(getObj b).run P w=.ok (.loop L) w:=by simp [getObj,Sem.run,h]
theorem run_setObj_loop {b:Nat} {L:Loop} {o:Obj} (h:w.heap[b]? = some (.loop L)):(setObj b o).run P w=.ok () (qts w b o):=by simp [setObj,Sem.run,h,qts]
theorem run_getLoop {b:Nat} {L:Loop} (h:w.heap[b]? = some (.loop L)):(Instr.getLoop b).run P w=.ok L w:=by simp [Instr.getLoop,run_getObj_loop h]
theorem Sim.zad (j:Sim H G w) {l:Nat} {st e:LoopState} {c a:Option Code} {lt:Tree V} {ln:Nat} {r:List Tmp} {s t:Code} {u:Nat} (v:H.get l=some (.loop st c lt ln r s t u)) {b x n:Nat} (h:G l 0=some (b,x,n))
  {H':Heap} (hu:H.upd l (.loop e a lt ln r s t u)=some H'):∃ L,w.heap[b]? = some (.loop L)/\L.state=st/\L.pending=c/\Step H G w H' G (qts w b (.loop {L with state:=e,pending:=a})):=by
 obtain ⟨y,rfl⟩:=qj4 hu;have f:=j.obj l _ (j.lt _ _ _ _ _ h).2 v;obtain ⟨_,L,i,z,A,B,C,D,E,k,F,I,J,m,K,o,p⟩:=f 0 b x n h;refine ⟨L,i,z,A,j.setObj _ v h y _ i (q9j i) (λg M N q O d=>?_)⟩;obtain ⟨P,Q,R,_⟩:=f M N q O d;subst P;rw [h] at d;cases d;exact ⟨rfl,_,qqi i,rfl,rfl,B,C,D,E,k,F,I.ext g,J,m,K,o,p⟩
theorem q4u (g:Sim H G w) {l b i n:Nat} (j:G l 0=some (b,i,n)) {ex:Ex} {H':Heap} (h:qgh H l=some (ex,H')) :
  ∃ a w',(Instr.endLoop b).run P w=.ok a w'/\Step H G w H' G w'/\qf3 a=some ex:=by
 unfold qgh at h;split at h
 .rename_i st c lt ln s t u v k;split at h
  .cases h
  .rename_i d;simp only [zI,zM,zP] at h;obtain ⟨H1,m,ex',o,rfl,rfl⟩:=h;obtain ⟨L,f,p,q,e⟩:=g.zad k j m;subst q;refine ⟨L.pending,_,?_,e,o⟩;have r:¬ (L.state == .busy)=true:=by
    rw [p];cases st<;>first
     | (exact (d rfl).elim)
     | decide
   simp only [Instr.endLoop,Sem.run_bind,run_getLoop f,Result.andThen_ok,r,Bool.false_eq_true,if_false,run_setObj_loop f,Sem.run_pure]
 .cases h
theorem zce (f:Sim H G w) {round:Option Nat} (i:qny G round F.round) {mark:List Dfr} {H1:Heap} {r:Nat} (h:qwj round H=some (mark,H1,r)) :
  ∃ k w1 a j e m,Step H G w H1 k w1/\qcs k w1 mark a/\k r 0=some (j,e,m)/\
   ∀ fn tmps ps assign body,(Instr.enterLoop fn tmps ps assign body F.round).run P w=.ok (w1.heap.size,a) (push w1 (.loop {state:=.ready,pending:=none,fn,tmps,params:=ps,assign,body,defers:=j})):=by
 unfold qwj at h;split at h
 .cases h;have st:=f.new .dfr (.deferred (some [])) 0 (λ_ g b s n c=>by
   simp only [qik] at c;by_cases o:g=0
   .rw [zT ⟨trivial,o⟩] at c;cases c;exact ⟨o,qd1 _ _⟩
   .rw [zF (λx=>o x.2),f.fresh] at c;cases c)
  refine ⟨_,_,[{target:=.collected w.heap.size,args:=#[]}],w.heap.size,0,0,st,?_,qdz _ _ _ _,λfn tmps ps assign body=>?_⟩
  .simp only [qcs];exact ⟨_,_,rfl,rfl,w.heap.size,0,0,qdz _ _ _ _,rfl⟩
  .rw [i];rfl
 .rename_i l;split at h
  .rename_i d t;cases h;obtain ⟨b,s,n,c,u⟩:=i;obtain ⟨_,L,v,z,A,B,C,D,E,y,I,J,j,e,m,p,q⟩:=f.obj l _ (f.lt _ _ _ _ _ c).2 t 0 b s n c;refine ⟨G,w,[],j,e,m,Step.refl f,by simp only [qcs],p,λfn tmps ps assign body=>?_⟩;rw [u];simp only [Instr.enterLoop,Sem.run_bind,run_getLoop v,run_newObj,Sem.run_pure,Result.andThen_ok,q];rfl
  .cases h
theorem Sim.z0e (j:Sim H G w) {fr:Fr} {a:Act} (e:SimFr G w fr a) {ps:Array Tmp} {assign body:Code} (m:codeOk assign=true) (o:codeOk body=true) {k h d l:Nat} (p:G k 0=some (h,d,l)) (fn:FuncId) :
  Step H G w (H.new (.loop .ready none fr.tmps fr.n ps.toList assign body k)) (qik G H.next 0 (w.heap.size,0,0)) (push w (.loop {state:=.ready,pending:=none,fn,tmps:=a.tmps,params:=ps,assign,body,defers:=h})):=by
 refine j.new _ _ 0 (λc g b q n f=>?_);simp only [qik] at f;by_cases i:g=0
 .rw [zT ⟨trivial,i⟩] at f;cases f;exact ⟨i,_,qd1 _ _,rfl,rfl,rfl,rfl,rfl,m,o,e.n,e.tmps.ext c,h,d,l,c.sub _ _ _ p,rfl⟩
 .rw [zF (λx=>i x.2),j.fresh] at f;cases f
theorem qs8 {f:Nat} (h:qos (zr P sp) f=true):∃ a c,P.funcs[f]? = some a/\(a.name == "runtime.NumGoroutine")=false/\a.body=some c:=by
 simp only [qos,zr,funcOf] at h;cases b:P.funcs[f]? with
 | none=>simp_all
 | some a=>grind
theorem qcc {f:FuncId} {fn:Func} {c:Code} (b:P.funcs[f]? = some fn) (a:(fn.name == "runtime.NumGoroutine")=false) (d:fn.body=some c) (args:Array Value) (w:World) :
  (callFunc f args).run P w=.ok (.enter f args) w:=by
 have e:fn.name≠ "runtime.NumGoroutine" := by simpa using a
 simp [callFunc,b,e,d]
theorem q8p {b:V} {l:List V} {g:FuncId} {args:List V} (h:qht b l=some (.call (.func g) args)):∃ first a,b=.func (.func g) first a/\args=first++l++a:=by
 unfold qht at h;split at h
 .grind
 .simp at h
 .cases h
theorem q2z {q r:Heap} {g:qk} {w3:World} (st:Step H G w q g w3) {l b s m:Nat} (t:g l 0=some (b,s,m)) {fr':Fr} {h:Act} (o:SimFr g w3 fr' h) {ex:Ex} (i:qgh q l=some (ex,r))
  {Q:Exit->Act->World->Prop} (p:∀ e h w',qt1 H G w (ex,fr',r) e h w'->Q e h w') :
  ∃ a w4,(Instr.endLoop b).run P w3=.ok a w4/\(match a with
    | none=>Q .normal h w4
    | some c=>c.wpIn F n P Q h w4):=by
 obtain ⟨a,w4,j,k,f⟩:=q4u (P:=P) st.sim t i;refine ⟨a,w4,j,?_⟩;have stA:=st.trans k;have d:=o.ext k.ext;cases a with
 | none=>
  simp only [qf3,zS] at f;subst f;exact p _ _ _ ⟨g,stA,d,rfl⟩
 | some c=>
  cases c with
  | ret=>
   simp only [qf3,zS] at f;subst f;exact wpIn_ret (p _ _ _ ⟨g,stA,d,rfl⟩)
  | exit id=>
   simp only [qf3,zS] at f;subst f;exact wpIn_exit (p _ _ _ ⟨g,stA,d,rfl⟩)
  | _=>simp [qf3] at f
theorem qzh (hc:qhr P call) {V:FuncId} {fuel:Nat} {f:Operand} {params:Array Tmp} {assign body:Code} (E:codeOk (.rangeFunc f params assign body)=true) {round:Option Nat} {x:Ex×Fr×Heap} {Q:Exit->Act->World->Prop}
  (hF:qhb F) (W:qny G round F.round) (hs:Sim H G w) (e:SimFr G w fr a) (h:zn (zr P sp) call V round fuel (.rangeFunc f params assign body) fr H=some x) (hQ:∀ e X w',qt1 H G w x e X w'->Q e X w') :
  (Code.rangeFunc f params assign body).wpIn F n P Q a w:=by
 simp only [zn,zI] at h;obtain ⟨⟨I,H1,dn⟩,j,h⟩:=h;split at h
 .rename_i g args k;simp only [zI] at k;obtain ⟨fv,Y,J⟩:=k;obtain ⟨first,b,rfl,rfl⟩:=q8p J;rw [cond_eq_ite] at h;split at h
  .rename_i z;obtain ⟨gn,gc,Z,a1,a6⟩:=qs8 z;obtain ⟨G1,w1,l,db,ab,dm,A,B,a7,s⟩:=zce (P:=P) hs W j;have K:codeOk assign=true/\codeOk body=true:=by
    simp only [codeOk,zA] at E;exact E
   have L:=zf hs e Y;obtain ⟨ad,p,m,h3,h4,h5,h6⟩:=L;subst h4;refine wpIn_rangeFunc λfn _=>?_;have st2:=A.sim.z0e (e.ext A.ext) (ps:=params) K.1 K.2 a7 fn;have o:=s fn a.tmps params assign body;have c:qik G1 H1.next 0 (w1.heap.size,0,0) H1.next 0=some (w1.heap.size,0,0):=qdz _ _ _ _
   generalize qik G1 H1.next 0 (w1.heap.size,0,0)=G2 at st2 c
   generalize push w1 (.loop {state:=.ready,pending:=none,fn,tmps:=a.tmps,params,assign,body,defers:=db})=w2 at st2 o;generalize H1.new (.loop .ready none fr.tmps fr.n params.toList assign body dn)=H2 at st2 h;generalize w1.heap.size=D at o c;have i:=A.trans st2;obtain ⟨y,hy⟩:∃ y:Value,y=.func (.yield D) #[] #[]:=⟨_,rfl⟩;have t:Rel G2 w2 (.func (.yield H1.next) [] []) y:=by
    rw [hy];exact ⟨_,_,_,rfl,⟨_,_,_,c,rfl⟩,qq.nil,qq.nil⟩
   have C:qq G2 w2 (first++[.func (.yield H1.next) [] []]++b) ((p++#[y]).toList++m.toList):=by
    rw [Array.toList_append];exact ((h5.ext i.ext).append (qq.cons t qq.nil)).append (h6.ext i.ext)
   have M:(invoke (.fn (.func g) m) (p++#[y])).run P w2=.ok (.enter g (p++#[y]++m)) w2:=by
    have T:(invoke (.fn (.func g) m) (p++#[y])).run P w2=(callFunc g (p++#[y]++m)).run P w2:=rfl;rw [T,qcc Z a1 a6]
   have N:(resolve a.eval (rangeCall f D) 0).run P w2=.ok (⟨.fn (.func g) m,p++#[y]⟩:Deferred) w2:=by
    have hm:(rangeCall f D).args.map a.eval = #[y]:=by simp [hy,Act.eval]
    have T:resolve a.eval (rangeCall f D) 0=Deferred.ofValue (a.eval f) ((rangeCall f D).args.map a.eval):=rfl;rw [hm] at T;rw [T,h3];simp [Deferred.ofValue]
   refine ⟨D,l,w2,⟨.fn (.func g) m,p++#[y]⟩,w2,g,p++#[y]++m,w2,o,N,λf' _=>hF.1 f',M,by rw [hF.2.1];simp,?_⟩;have O:∀ q u w3,Step H2 G2 w2 q u w3->SimFr u w3 {fr with defers:=I++fr.defers} {a with defers:=l++a.defers}:=by
    intro q u w3 d;have ef:=(e.ext i.ext).ext d.ext;exact ⟨ef.tmps,ef.n,((B.ext st2.ext).ext d.ext).append ef.dfr⟩
   have fin:∀ r q,call (.func g) (first++[.func (.yield H1.next) [] []]++b) H2=some (r,q)->CallsIn F (n-1) P g (p++#[y]++m) w2 λe w'=>∃ G',Step H2 G2 w2 q G' w'/\qln G' w' r e:=by
    intro r q R;rcases hc _ _ _ _ _ R _ _ (.fn (.func g) m) (p++#[y]) st2.sim ⟨m,rfl,C⟩ with ⟨y',w',G',v',r1,_⟩ | ⟨f',U,r1,r2⟩ | ⟨l',f',t',X,b',r1,_⟩
    .simp_all
    .simp_all
    .simp_all
   split at h
   .rename_i v q R;simp only [zM] at h;obtain ⟨⟨ex,H4⟩,S,rfl⟩:=h;refine (fin _ _ R).mono λen w3 j=>?_;obtain ⟨u,d,se⟩:=j;obtain ⟨y',rfl,_⟩:=se;exact q2z (i.trans d) (d.ext.sub _ _ _ c) (O q u w3 d) S hQ
   .rename_i ch q R;cases h;refine (fin _ _ R).mono λen w3 j=>?_;obtain ⟨u,d,se⟩:=j;obtain ⟨a8,rfl,aa⟩:=se;exact hQ _ _ _ ⟨u,i.trans d,O q u w3 d,a8,rfl,aa⟩
   .cases h
  .cases h
 .cases h
theorem qap (A:qhr P call) (C:zfl P sp call) (fn:FuncId) (fuel:Nat):∀ (c:Code) (_:codeOk c=true) (round:Option Nat) (H:Heap) (G:qk) (w:World) (fr:Fr) (a:Act) (x:Ex×Fr×Heap) (F:Fence) (n:Nat) (Q:Exit->Act->World->Prop),
  qhb F->qny G round F.round->Sim H G w->SimFr G w fr a->zn (zr P sp) call fn round fuel c fr H=some x->(∀ e a' w',qt1 H G w x e a' w'->Q e a' w')->c.wpIn F n P Q a w
 | .skip,b,round,H,G,w,fr,a,x,F,n,Q,o,g,j,e,h,k=>by
  simp only [zn,zS] at h;subst h;exact wpIn_skip (k _ _ _ ⟨G,Step.refl j,e,rfl⟩)
 | .label l,b,round,H,G,w,fr,a,x,F,n,Q,o,g,j,e,h,k=>by
  simp only [zn,zS] at h;subst h;exact wpIn_label (k _ _ _ ⟨G,Step.refl j,e,rfl⟩)
 | .exit id,b,round,H,G,w,fr,a,x,F,n,Q,o,g,j,e,h,k=>by
  simp only [zn,zS] at h;subst h;exact wpIn_exit (k _ _ _ ⟨G,Step.refl j,e,rfl⟩)
 | .goto l,b,round,H,G,w,fr,a,x,F,n,Q,o,g,j,e,h,k=>by
  simp only [zn,zS] at h;subst h;exact wpIn_goto (k _ _ _ ⟨G,Step.refl j,e,rfl⟩)
 | .ret,b,round,H,G,w,fr,a,x,F,n,Q,o,g,j,e,h,k=>by
  simp only [zn,zS] at h;subst h;exact wpIn_ret (k _ _ _ ⟨G,Step.refl j,e,rfl⟩)
 | .seq c d,b,round,H,G,w,fr,a,x,F,n,Q,o,g,j,e,h,k=>by
  simp only [zn] at h;split at h
  .rename_i fr' H' K;refine wpIn_seq (qap A C fn fuel c (Bool.and_eq_true_iff.1 b).1 round H G w fr a _ F n _ o g j e K (λE t w1 p=>?_));obtain ⟨I,B,J,q⟩:=p;cases q;exact qap A C fn fuel d (Bool.and_eq_true_iff.1 b).2 round H' I w1 fr' t x F n Q o (g.sub B.ext.sub) B.sim J h (λW T w2 p=>k _ _ _ (p.trans B))
  .rename_i y u;refine wpIn_seq (qap A C fn fuel c (Bool.and_eq_true_iff.1 b).1 round H G w fr a _ F n _ o g j e h (λE t w1 p=>?_));obtain ⟨ex,fr',H'⟩:=x;cases ex with
   | normal=>exact (u _ _ h).elim
   | _=>
    have D:=k E t w1 p;obtain ⟨I,B,J,q⟩:=p
    first
     | (cases q;exact D)
     | (obtain ⟨L,rfl,_⟩:=q;exact D)
 | .cond c x y,b,round,H,G,w,fr,a,z,F,n,Q,o,g,j,e,h,k=>by
  simp only [zn] at h;split at h
  .rename_i X;have O:=zf j e X;simp only [Rel] at O;exact wpIn_cond O (qap A C fn fuel x (Bool.and_eq_true_iff.1 b).1 round H G w fr a z F n Q o g j e h k)
  .rename_i X;have O:=zf j e X;simp only [Rel] at O;exact wpIn_cond O (qap A C fn fuel y (Bool.and_eq_true_iff.1 b).2 round H G w fr a z F n Q o g j e h k)
  .cases h
 | .block id c,b,round,H,G,w,fr,a,x,F,n,Q,o,g,j,e,h,k=>by
  simp only [zn] at h;split at h
  .rename_i Y fr' H' K;refine wpIn_block (qap A C fn fuel c b round H G w fr a _ F n _ o g j e K (λE t w1 p=>?_));obtain ⟨I,B,J,q⟩:=p;cases q;simp only [Exit.inBlock];rw [cond_eq_ite] at h;simp only [Nat.beq_eq] at h;split at h
   .rename_i M;cases h;rw [zT M];exact k _ _ _ ⟨I,B,J,rfl⟩
   .rename_i M;cases h;rw [zF M];exact k _ _ _ ⟨I,B,J,rfl⟩
  .rename_i y u;refine wpIn_block (qap A C fn fuel c b round H G w fr a _ F n _ o g j e h (λE t w1 p=>?_));obtain ⟨ex,fr',H'⟩:=x;have D:=k E t w1 p;obtain ⟨I,B,J,q⟩:=p;cases ex with
   | exit Y=>exact (u _ _ _ h).elim
   | panic ch=>obtain ⟨L,rfl,_⟩:=q;exact D
   | _=>cases q;exact D
 | .scope c,b,round,H,G,w,fr,a,x,F,n,Q,o,g,j,e,h,k=>by
  simp only [zn] at h;split at h
  .cases h
  .rename_i y u;refine zi3 (qap A C fn fuel c b round H G w fr a _ F n _ o g j e h (λE t w1 p=>?_));obtain ⟨ex,fr',H'⟩:=x;have D:=k E t w1 p;obtain ⟨I,B,J,q⟩:=p;cases ex with
   | goto l=>exact (u _ _ _ h).elim
   | panic ch=>obtain ⟨L,rfl,_⟩:=q;exact D
   | _=>cases q;exact D
 | .loop c,b,round,H,G,w,fr,a,x,F,n,Q,o,g,j,e,h,k=>by
  simp only [zn] at h;refine wpIn_loop_rounds fuel ?_;have Z:∀ (m:Nat) (H1:Heap) (N:qk) (w1:World) (v:Fr) (t:Act) (s0:Ex),Step H G w H1 N w1->SimFr N w1 v t->
    iter (λ(s:Ex×Fr×Heap)=>match zn (zr P sp) call fn round fuel c s.2.1 s.2.2 with
     | some (.normal,fr',H')=>some (true,.normal,fr',H')
     | some r=>some (false,r)
     | none=>none) m (s0,v,H1)=some x->Code.roundsIn F n P c Q m t w1:=by
   intro m
   induction m with
   | zero=>intro H1 N w1 v t s0 _ _ hi;simp [iter] at hi
   | succ m ih=>
    intro H1 N w1 v t s0 st E hi;simp only [iter] at hi;split at hi
    .rename_i s' i;split at i
     .rename_i fr' H' K;cases i;refine qap A C fn fuel c b round H1 N w1 v t _ F n _ o (g.sub st.ext.sub) st.sim E K (λW T w2 p=>?_);obtain ⟨I,B,J,q⟩:=p;cases q;exact ih H' I w2 fr' T _ (st.trans B) J hi
     .cases i
     .cases i
    .rename_i s' i;cases hi;split at i
     .cases i
     .rename_i r u K;cases i;refine qap A C fn fuel c b round H1 N w1 v t _ F n _ o (g.sub st.ext.sub) st.sim E K (λW T w2 p=>?_);have D:=k W T w2 (p.trans st);obtain ⟨ex,fr',H'⟩:=x;obtain ⟨I,B,J,q⟩:=p;cases ex with
      | normal=>simp_all
      | panic ch=>obtain ⟨L,rfl,_⟩:=q;exact D
      | _=>cases q;exact D
     .cases i
    .cases hi
  exact Z fuel H G w fr a .normal (Step.refl j) e h
 | .region id R S,b,round,H,G,w,fr,a,x,F,n,Q,o,g,j,e,h,k=>by
  simp only [zn,cond_eq_ite] at h;cases S with
  | false=>
   refine wpIn_region_list (qvp A o (λhr=>?_) R.toList H G w fr a x Q j e h k);cases round with
   | none=>exact g
   | some l=>cases hr
  | true=>
   simp only [if_true,zM] at h;obtain ⟨⟨fr',H'⟩,K,rfl⟩:=h;exact C R fr H fr' H' K (by simpa [codeOk] using b) G w a F n id Q o j e k
 | .rangeFunc f U V body,b,round,H,G,w,fr,a,x,F,n,Q,o,g,j,e,h,k=>qzh A b o g j e h k
 | .refuse s,b,round,H,G,w,fr,a,x,F,n,Q,o,g,j,e,h,k=>by
  simp [zn] at h
end
end Go.E2
