/- A VERIFIED EVALUATOR, texts E2a, E2b, E2c, E2d, E2e, E2f, E2g, E2h, E2i, E2j, E2k, E2l, E2m, E2w in one. -/
import GoSem.Step
import Derived.Orders
import Derived.KernelRfl
import Derived.RangeFuncIn
import Derived.OrdersIn
import Derived.WalkKit
import Derived.Lib.UnsafeStr
import Derived.Laws.BytesArg
namespace Go
abbrev ZB := List UInt8
theorem zI {α β : Type _} {o : Option α} {f : α -> Option β} {b : β} : o.bind f = some b ↔ ∃ a, o = some a ∧ f a = some b := Option.bind_eq_some_iff
theorem zM {α β : Type _} {o : Option α} {f : α -> β} {b : β} : o.map f = some b ↔ ∃ a, o = some a ∧ f a = b := Option.map_eq_some_iff
theorem zS {α : Type _} (a b : α) : (some a = some b) = (a = b) := Option.some.injEq a b
theorem zP {α β : Type _} (a : α) (b : β) (c : α) (d : β) : ((a, b) = (c, d)) = (a = c ∧ b = d) := Prod.mk.injEq a b c d
theorem zN (n : Nat) : n ≤ n := Nat.le_refl n
theorem zA (a b : Bool) : ((a && b) = true) = (a = true ∧ b = true) := Bool.and_eq_true a b
theorem zE {n m : Nat} (h : Nat.beq n m = true) : n = m := Nat.eq_of_beq_eq_true h
theorem zL {n m k : Nat} (h : n < m) (h' : m ≤ k) : n < k := Nat.lt_of_lt_of_le h h'
theorem zC {α : Type _} {a : α} {l : List α} : a ∈ a :: l := List.mem_cons_self
theorem zD {α : Type _} {a b : α} {l : List α} : a ∈ b :: l ↔ a = b ∨ a ∈ l := List.mem_cons
theorem zB {α β : Type _} (a : α) (f : α -> Option β) : (some a).bind f = f a := Option.bind_some a f
theorem zF {c : Prop} {h : Decidable c} (n : ¬c) {α : Sort _} {t e : α} : ite c t e = e := if_neg n
theorem zT {c : Prop} {h : Decidable c} (n : c) {α : Sort _} {t e : α} : ite c t e = t := if_pos n
theorem zG {α : Type _} (y : α) {a : α} {l : List α} (h : a ∈ l) : a ∈ y :: l := List.mem_cons_of_mem y h
theorem zH {α β : Type _} (a : α) (f : α -> β) : (some a).map f = some (f a) := Option.map_some a f
theorem zJ {α : Type _} (l : List α) : l ++ [] = l := List.append_nil l
theorem zK (a : Int) : a ≤ a := Int.le_refl a
theorem zO {α : Sort _} {a b : α} : cond true a b = a := rfl
theorem zQ {α : Sort _} {a b : α} : cond false a b = b := rfl
theorem zR {n m k : Nat} (h : n ≤ m) (h' : m ≤ k) : n ≤ k := Nat.le_trans h h'
theorem zU {m n : Nat} (k : Nat) (h : m ≤ n) : m * k ≤ n * k := Nat.mul_le_mul_right k h
end Go
/- THE MACHINE E2: an executable big-step machine over memory with names, for programs of the model. Definitions alone; nothing is proved here of the model. -/
namespace Go.E2
inductive Tree (α:Type) where
 | nil
 | node (v:Option α) (l r:Tree α)
def Tree.get {α:Type}:Tree α->Nat->Option α
 | .nil,_=>none
 | .node v l r,n=>bif Nat.beq n 0 then v else bif Nat.beq (n % 2) 1 then l.get (n / 2) else r.get (n / 2-1)
def Tree.qw2 {α:Type} (a:α):Nat->Tree α->Nat->Tree α
 | 0,t,_=>t
 | f+1,.nil,n=>bif Nat.beq n 0 then .node (some a) .nil .nil
   else bif Nat.beq (n % 2) 1 then .node none (Tree.qw2 a f .nil (n / 2)) .nil else .node none .nil (Tree.qw2 a f .nil (n / 2-1))
 | f+1,.node v l r,n=>bif Nat.beq n 0 then .node (some a) l r
   else bif Nat.beq (n % 2) 1 then .node v (Tree.qw2 a f l (n / 2)) r else .node v l (Tree.qw2 a f r (n / 2-1))
def Tree.set {α:Type} (t:Tree α) (n:Nat) (a:α):Tree α:=Tree.qw2 a (n+1) t n
def Tree.del {α:Type}:Tree α->Nat->Tree α
 | .nil,_=>.nil
 | .node v l r,n=>bif Nat.beq n 0 then .node none l r else bif Nat.beq (n % 2) 1 then .node v (l.del (n / 2)) r else .node v l (r.del (n / 2-1))
def kk {α:Type} (src:Tree α):List Nat->Tree α->Tree α
 | [],t=>t
 | n::l,t=>kk src l (match src.get n with
  | some a=>t.set n a
  | none=>t.del n)
def Tree.ofList {α:Type} (l:List α):Tree α:=(l.foldl (fun (s:Tree α×Nat) a=>(s.1.set s.2 a,s.2+1)) (.nil,0)).1
inductive V where
 | int (k:IntKind) (n:Int)
 | bool (b:Bool)
 | str (s:List UInt8)
 | ptr (nm g off lim:Nat)
 | nilp
 | slice (nm g off len sz:Nat) (cap:Option Nat)
 | nils
 | func (fn:Fn) (first captured:List V)
 | nilf
 | iface (t:TypeId) (v:V)
 | nili
 | agg (cells:List V)
 | tuple (vs:List V)
 | map (nm:Nat)
 | nilm
def jb:V:=.tuple []
def V.cells:V->List V
 | .agg cs=>cs
 | v=>[v]
mutual
def qk5:Nat->Value->Option V
 | 0,_=>none
 | n+1,v=>match v with
  | .int k i=>some (.int k i)
  | .bool b=>some (.bool b)
  | .string s=>some (.str s.data.toList)
  | .pointer none=>some .nilp
  | .slice none 0 0=>some .nils
  | .map none=>some .nilm
  | .func (.func f) first captured=>(q3q n first.toList).bind fun a=>(q3q n captured.toList).map fun c=>.func (.func f) a c
  | .nilFunc=>some .nilf
  | .iface t v=>(qk5 n v).map fun x=>.iface t x
  | .nilIface=>some .nili
  | .agg cs=>(q3q n cs.toList).map .agg
  | .tuple vs=>(q3q n vs.toList).map .tuple
  | _=>none
def q3q:Nat->List Value->Option (List V)
 | 0,_=>none
 | n+1,l=>match l with
  | []=>some []
  | v::vs=>(qk5 n v).bind fun x=>(q3q n vs).map fun xs=>x::xs
end
structure D where
 fn:Fn
 captured:List V
 args:List V
inductive O where
 | row (cells:List V) (elem:TypeId) (gen floor frz:Nat) (exact:Bool)
 | map (es:List (V×V×Nat)) (clock:Nat)
 | siter (s:List UInt8) (pos:Nat)
 | miter (m:Option Nat) (since:Nat) (seen:List Nat) (stepped:Nat)
 | loop (st:LoopState) (pending:Option Code) (tmps:Tree V) (n:Nat) (params:List Tmp) (assign body:Code) (defers:Nat)
 | dfr
 | gone
structure Heap where
 qa6:Tree O
 next:Nat
 ro:Nat
 qy:Nat
def Heap.get (H:Heap) (n:Nat):Option O:=H.qa6.get n
def Heap.new (H:Heap) (o:O):Heap:=
 match H with
 | ⟨t,n,r,g⟩=>⟨t.set n o,n+1,r,g⟩
def Heap.upd (H:Heap) (n:Nat) (o:O):Option Heap:=
 match H with
 | ⟨t,k,r,g⟩=>bif Nat.blt n r then none else some ⟨t.set n o,k,r,g⟩
structure TI where
 under:TypeDesc
 size:Nat
 bytes:Nat
 zero:V
 isAgg:Bool
structure FI where
 body:Option Code
 ext:Nat
 ntmps:Nat
 results:List ResultVar
inductive Tgt where
 | func (f:FuncId)
 | round (l:Nat)
structure PE where
 v:V
 recovered:Bool
 goexit:Bool
inductive CR where
 | ret (v:V)
 | panic (chain:List PE)
structure Env where
 types:Nat->Option TI
 funcs:Nat->Option FI
 spec:Nat->Option (List V->Heap->Option (CR×Heap))
 eqOk:TypeId->Bool
 lies:TypeId->Nat->Nat->TypeId->Bool
inductive Dfr where
 | call (d:D)
 | mark (nm:Nat)
structure Fr where
 tmps:Tree V
 n:Nat
 defers:List Dfr
def Fr.put (fr:Fr) (dst:Option Tmp) (v:V):Fr:=
 match dst with
 | some d=>match fr with
  | ⟨t,n,ds⟩=>bif Nat.blt d n then ⟨t.set d v,n,ds⟩ else ⟨t,n,ds⟩
 | none=>fr
def Fr.tmp (fr:Fr) (t:Nat):Option V:=fr.tmps.get t
def opd (fr:Fr) (H:Heap):Operand->Option V
 | .tmp t=>fr.tmp t
 | .const v=>qk5 1000 v
 | .global g=>bif Nat.blt g H.qy then match H.get g with
  | some (.row cells _ 0 _ _ _)=>some (.ptr g 0 0 cells.length)
  | _=>none else none
 | .func f=>some (.func (.func f) [] [])
def qbj (fr:Fr) (H:Heap):List Operand->Option (List V)
 | []=>some []
 | x::xs=>(opd fr H x).bind fun v=>(qbj fr H xs).map fun vs=>v::vs
inductive Out where
 | val (v:V)
 | skip
 | call (t:Tgt) (args:List V)
 | defer (d:D)
 | panic (v:V)
inductive Ex where
 | normal
 | exit (id:Nat)
 | goto (l:Nat)
 | ret
 | panic (chain:List PE)
def qi8 (ti:TI) (cs:List V) (off:Nat):Option V:=
 bif ti.isAgg then (bif Nat.ble (off+ti.size) cs.length then some (.agg ((cs.drop off).take ti.size)) else none)
 else cs[off]?
def setCells (cs:List V) (off:Nat) (vs:List V):List V:=cs.take off++vs++cs.drop (off+vs.length)
def qfw (place:Nat->Option (Nat×Nat)):List V->List (Nat×V)->Option (List V)
 | cells,[]=>some cells
 | cells,(i,v)::rest=>match place i with
  | none=>none
  | some (off,size)=>bif Nat.beq v.cells.length size&&Nat.ble (off+size) cells.length then qfw place (setCells cells off v.cells) rest else none
def qby (o:Oper) (all:Array Oper) (fr:Fr):Option Bool:=
 match o.guard with
 | none=>some true
 | some (j,want)=>match (all[j]?).bind (·.dst) with
  | none=>some false
  | some d=>match fr.tmp d with
   | some (.bool b)=>some (b == want)
   | some _=>some false
   | none=>none
def isHole:V->Bool
 | .tuple [.slice _ _ _ _ 0 _]=>true
 | _=>false
def qms (cs:List V):Option (List V):=bif cs.any isHole then none else some cs
def jk (H:Heap) (size:Nat):V->Option (List V)
 | .ptr nm g off lim=>match H.get nm with
  | some (.row cells _ _ floor _ _)=>
   bif Nat.ble floor g&&Nat.ble (off+size) lim&&Nat.ble lim cells.length then qms ((cells.drop off).take size) else none
  | _=>none
 | _=>none
def qg3 (H:Heap) (ti:TI) (p:V):Option V:=
 (jk H ti.size p).bind fun cs=>bif ti.isAgg then some (.agg cs) else match cs with
   | [v]=>some v
   | _=>none
def V.j7:V->Bool
 | .agg _ | .tuple _=>false
 | _=>true
def j3 (H:Heap) (vs:List V):V->Option Heap
 | .ptr nm g off lim=>match H.get nm with
  | some (.row cells elem gen _ frz exact)=>
   bif Nat.beq g gen&&Nat.ble (off+vs.length) lim&&Nat.ble lim cells.length&&Nat.ble frz off&&vs.all V.j7
   then H.upd nm (.row (setCells cells off vs) elem gen gen frz exact) else none
  | _=>none
 | _=>none
def qjj (H:Heap) (ti:TI) (p v:V):Option Heap:=
 bif Nat.beq v.cells.length ti.size then j3 H v.cells p else none
def qfm (H:Heap) (cells:List V) (elem:TypeId):Heap:=H.new (.row cells elem 0 0 0 true)
def V.qc0 (sz:Nat):V->V
 | .slice nm g off len z cap=>match cap with
  | some c=>bif Nat.beq c 0 then .slice nm g off len sz cap else .slice nm g off len z cap
  | none=>.slice nm g off len z cap
 | v=>v
def qbu (H:Heap) (sz:Nat):V->Option (Nat×List V)
 | .nils=>some (0,[])
 | .slice nm g off len sz' _=>bif Nat.beq sz sz' then (jk H (len * sz) (.ptr nm g off (off+len * sz))).map fun cs=>(len,cs) else none
 | .str s=>bif Nat.beq sz 1 then some (s.length,s.map fun b=>.int .u8 b.toNat) else none
 | _=>none
def kp (H:Heap) (sz:Nat) (x:V):Option (Nat×List V):=qbu H sz (x.qc0 sz)
def room:Nat:=140737488355328
def qbt (H:Heap) (elem:TypeId) (sz bytes:Nat) (s x:V):Option (V×Heap):=
 (kp H sz x).bind fun (n,items)=>
 match s with
 | .nils=>bif Nat.beq n 0 then some (.nils,H)
   else bif Nat.ble (n * bytes) room&&Nat.ble n room then some (.slice H.next 0 0 n sz none,H.new (.row items elem 0 0 0 false)) else none
 | .slice nm g off len sz' cap=>
  bif !Nat.beq sz sz' then none else
  bif Nat.beq n 0 then some (s,H) else
  bif !(Nat.ble ((len+n) * bytes) room&&Nat.ble (len+n) room) then none else
  bif !items.all V.j7 then none else
  match H.get nm with
  | some (.row cells e gen floor frz _)=>
   match cap with
   | some c=>
    bif Nat.ble (len+n) c then
     (j3 H items (.ptr nm g (off+len * sz) (off+(len+n) * sz))).map fun H'=>(.slice nm g off (len+n) sz cap,H')
    else (kp H sz s).map fun (_,old)=>(.slice H.next 0 0 (len+n) sz none,H.new (.row (old++items) elem 0 0 0 false))
   | none=>
    bif Nat.beq g gen&&Nat.beq (off+len * sz) cells.length&&Nat.ble frz cells.length&&Nat.ble floor gen&&!Nat.beq sz 0&&Nat.beq e elem then
     (H.upd nm (.row (cells++items) e (gen+1) floor frz false)).map fun H'=>(.slice nm (gen+1) off (len+n) sz none,H')
    else none
  | _=>none
 | _=>none
def qcn (H:Heap) (elem:TypeId) (sz bytes:Nat) (s x:V):Option (V×Heap):=qbt H elem sz bytes (s.qc0 sz) x
def qa9:List UInt8->List UInt8->Bool
 | _,[]=>false
 | [],_::_=>true
 | a::x,b::y=>a<b || (a == b&&qa9 x y)
def qf7 (op:BinOp) (k:IntKind) (a b:Int):Option V:=
 match op with
 | .add=>some (.int k (k.wrap (a+b)))
 | .sub=>some (.int k (k.wrap (a-b)))
 | .mul=>some (.int k (k.wrap (a * b)))
 | .quo=>if b=0 then none else some (.int k (k.wrap (a.tdiv b)))
 | .rem=>if b=0 then none else some (.int k (a.tmod b))
 | .and=>some (.int k (k.wrap (BitVec.ofInt k.bits a &&&BitVec.ofInt k.bits b).toNat))
 | .or=>some (.int k (k.wrap (BitVec.ofInt k.bits a ||| BitVec.ofInt k.bits b).toNat))
 | .xor=>some (.int k (k.wrap (BitVec.ofInt k.bits a ^^^ BitVec.ofInt k.bits b).toNat))
 | .andNot=>some (.int k (k.wrap (BitVec.ofInt k.bits a &&&~~~ BitVec.ofInt k.bits b).toNat))
 | .eql=>some (.bool (a == b))
 | .neq=>some (.bool (a != b))
 | .lss=>some (.bool (a<b))
 | .leq=>some (.bool (a<=b))
 | .gtr=>some (.bool (a > b))
 | .geq=>some (.bool (a>=b))
 | _=>none
def qrq (op:BinOp) (k:IntKind) (a b:Int):Option V:=
 if b<0 then none else
  let n:=min b.toNat k.bits
  match op with
  | .shl=>some (.int k (k.wrap (a * 2 ^ n)))
  | .shr=>some (.int k (a.fdiv (2 ^ n)))
  | _=>none
def qjk (op:BinOp) (x y:List UInt8):Option V:=
 match op with
 | .add=>bif Nat.ble (x.length+y.length) room then some (.str (x++y)) else none
 | .eql=>some (.bool (x == y))
 | .neq=>some (.bool (!(x == y)))
 | .lss=>some (.bool (qa9 x y))
 | .leq=>some (.bool (qa9 x y || x == y))
 | .gtr=>some (.bool (!(qa9 x y || x == y)))
 | .geq=>some (.bool (!qa9 x y))
 | _=>none
mutual
def eqV (E:Env):Nat->TypeId->V->V->Option Bool
 | 0,_,_,_=>none
 | d+1,t,x,y=>match E.types t with
  | none=>none
  | some ti=>match ti.under,x,y with
   | .int _,.int k a,.int k' b=>if k=k' then some (a == b) else none
   | .string,.str a,.str b=>some (a == b)
   | .bool,.bool a,.bool b=>some (a == b)
   | .struct fs,.agg xs,.agg ys=>bif E.eqOk t then eqFields E d fs.toList xs ys else none
   | .slice _,.nils,.nils=>some true
   | .slice _,.nils,.slice .. | .slice _,.slice ..,.nils=>some false
   | .func ..,.nilf,.nilf=>some true
   | .func ..,.nilf,.func .. | .func ..,.func ..,.nilf=>some false
   | .map ..,.nilm,.nilm=>some true
   | .map ..,.nilm,.map _ | .map ..,.map _,.nilm=>some false
   | .pointer _,.nilp,.nilp=>some true
   | .pointer _,.nilp,.ptr .. | .pointer _,.ptr ..,.nilp=>some false
   | .pointer e,.ptr nm g off _,.ptr nm' g' off' _=>(E.types e).bind fun ei=>bif !Nat.beq ei.size 0&&(Nat.beq nm nm'&&Nat.beq g g') then some (Nat.beq off off') else none
   | .interface _,.iface ..,.nili | .interface _,.nili,.iface ..=>some false
   | .interface _,.nili,.nili=>some true
   | _,_,_=>none
def eqFields (E:Env):Nat->List Field->List V->List V->Option Bool
 | 0,_,_,_=>none
 | d+1,fs,xs,ys=>match fs with
  | []=>some true
  | f::fs=>match E.types f.type with
   | none=>none
   | some ti=>(qi8 ti xs f.offset).bind fun a=>(qi8 ti ys f.offset).bind fun b=>
    (eqV E d f.type a b).bind fun r=>bif r then eqFields E d fs xs ys else some false
end
def qaz (E:Env) (op:BinOp) (t:TypeId) (x y:V):Option V:=
 match op,x,y with
 | .shl,.int k a,.int _ b=>qrq .shl k a b
 | .shr,.int k a,.int _ b=>qrq .shr k a b
 | op,.int k a,.int k' b=>if k=k' then qf7 op k a b else none
 | op,.str a,.str b=>qjk op a b
 | .eql,x,y=>(eqV E 1000 t x y).map .bool
 | .neq,x,y=>(eqV E 1000 t x y).map fun b=>.bool (!b)
 | _,_,_=>none
def q6o (op:UnOp) (x:V):Option V:=
 match op,x with
 | .neg,.int k n=>some (.int k (k.wrap (0-n)))
 | .xor,.int k n=>some (.int k (k.wrap (BitVec.ofInt k.bits (if k.signed then -1 else k.max) ^^^ BitVec.ofInt k.bits n).toNat))
 | .not,.bool b=>some (.bool !b)
 | _,_=>none
def jw (lo hi:Nat):Option V->Nat->Option Nat
 | none,d=>some d
 | some (.int _ i),_=>if (lo:Int)<=i/\i<=hi then some i.toNat else none
 | some _,_=>none
def qgn (elemSz:Nat) (x:V) (lo hi mx:Option V):Option V:=
 match x with
 | .str s=>match mx with
  | some _=>none
  | none=>(jw 0 s.length hi s.length).bind fun h=>(jw 0 h lo 0).map fun l=>.str ((s.take h).drop l)
 | .nils=>(jw 0 0 mx 0).bind fun m=>(jw 0 m hi 0).bind fun h=>(jw 0 h lo 0).map fun _=>.nils
 | .slice nm g off len sz cap=>
  bif !Nat.beq elemSz sz then none else
  match mx with
  | some _=>
   let c:=cap.getD len
   (jw 0 c mx c).bind fun m=>(jw 0 m hi len).bind fun h=>(jw 0 h lo 0).map fun l=>
     .slice nm g (off+l * sz) (h-l) sz (some (m-l))
  | none=>
   let c:=cap.getD len
   (jw 0 c hi len).bind fun h=>(jw 0 h lo 0).map fun l=>.slice nm g (off+l * sz) (h-l) sz (cap.map (· - l))
 | _=>none
def qd9 (elemSz:Nat) (x:V) (lo hi mx:Option V):Option V:=qgn elemSz (x.qc0 elemSz) lo hi mx
def qet (elemSz:Nat) (x i:V):Option V:=
 match x,i with
 | .slice nm g off len sz _,.int _ i=>if Nat.beq elemSz sz=true/\0<=i/\i<len then some (.ptr nm g (off+i.toNat * sz) (off+len * sz)) else none
 | _,_=>none
def qcc (n:Nat):V:=.int .i64 n
def qiq:TypeDesc->V->V->Option Bool
 | .int _,.int k a,.int k' b=>if k=k' then some (a == b) else none
 | .string,.str a,.str b=>some (a == b)
 | .bool,.bool a,.bool b=>some (a == b)
 | _,_,_=>none
def plainKey:TypeDesc->Bool
 | .int _ | .string | .bool=>true
 | _=>false
def qlm (kd:TypeDesc) (k:V):List (V×V×Nat)->Nat->Option (Option (Nat×V))
 | [],_=>some none
 | (k',v,_)::es,i=>match qiq kd k k' with
  | some true=>some (some (i,v))
  | some false=>qlm kd k es (i+1)
  | none=>none
def qgr:List V->List V->Bool
 | [],[]=>true
 | .int k a::l,.int k' b::l'=>decide (k=k')&&(a == b)&&qgr l l'
 | .bool a::l,.bool b::l'=>(a == b)&&qgr l l'
 | .str a::l,.str b::l'=>(a == b)&&qgr l l'
 | _,_=>false
def zc6 (E:Env) (fs:List Field) (cs:List V):Bool:=fs.all fun f=>match E.types f.type with
 | some fi=>plainKey fi.under&&(qi8 fi cs f.offset).isSome
 | none=>false
def q4r (E:Env) (kt:TypeId) (k:List V):List (V×V×Nat)->Nat->Option (Option (Nat×V))
 | [],_=>some none
 | (k',v,_)::es,i=>match eqV E 1000 kt (.agg k) k' with
  | some true=>match k' with
   | .agg ys=>bif qgr k ys then some (some (i,v)) else none
   | _=>none
  | some false=>q4r E kt k es (i+1)
  | none=>none
def qh7 (E:Env) (kt:TypeId) (kd:TypeDesc) (k:V) (es:List (V×V×Nat)):Option (Option (Nat×V)):=
 bif plainKey kd then qlm kd k es 0 else match kd,k with
  | .struct fs,.agg cs=>bif zc6 E fs.toList cs then q4r E kt cs es 0 else none
  | _,_=>none
def qds (f:V) (args:List V):Option Out:=
 match f with
 | .func (.func f) first captured=>some (.call (.func f) (first++args++captured))
 | .func (.yield l) first _=>some (.call (.round l) (first++args))
 | _=>none
def qfg (ti:TI) (k:Nat):Option Field:=
 match ti.under with
 | .struct fs=>fs[k]?
 | _=>none
def qje (fr:Fr) (H:Heap):Option Operand->Option (Option V)
 | none=>some none
 | some x=>(opd fr H x).map some
def q2e (mx:Bool):V->List V->Option V
 | x,[]=>some x
 | .int k a,.int _ b::rest=>q2e mx (.int k (if (if mx then b > a else b<a) then b else a)) rest
 | _,_=>none
def qb9:List V->Option (List UInt8)
 | []=>some []
 | .int .u8 n::vs=>if 0<=n/\n<256 then (qb9 vs).map fun l=>UInt8.ofNat n.toNat::l else none
 | _=>none
def jh (E:Env) (b:Builtin) (ats:List TypeId) (args:List V) (H:Heap):Option (Out×Heap):=
 match b,args with
 | .len,[x]=>match ats with
  | [t]=>(E.types t).bind fun ti=>match ti.under,x with
   | .array n _,_=>some (.val (qcc n),H)
   | .string,.str s=>some (.val (qcc s.length),H)
   | .slice _,.nils=>some (.val (qcc 0),H)
   | .slice _,.slice _ _ _ len _ _=>some (.val (qcc len),H)
   | .map ..,.nilm=>some (.val (qcc 0),H)
   | .map ..,.map nm=>match H.get nm with
    | some (.map es _)=>some (.val (qcc es.length),H)
    | _=>none
   | _,_=>none
  | _=>none
 | .append,[s,x]=>match ats with
  | [t,u]=>(E.types t).bind fun ti=>(E.types u).bind fun ui=>match ti.under,ui.under with
   | .slice e,.slice _ | .slice e,.string=>(E.types e).bind fun ei=>(qcn H e ei.size ei.bytes s x).map fun r=>(.val r.1,r.2)
   | _,_=>none
  | _=>none
 | .copy,[d,x]=>match ats with
  | [t,_]=>(E.types t).bind fun ti=>match ti.under with
   | .slice e=>(E.types e).bind fun ei=>match d,x with
    | .slice nm g off len sz _,.slice nm' g' off' len' sz' cap'=>bif Nat.beq sz ei.size&&Nat.beq sz' ei.size then
      (kp H ei.size (.slice nm' g' off' (min len' len) ei.size cap')).bind fun r=>
        (if min len' len=0 then some H else j3 H r.2 (.ptr nm g off (off+len * ei.size))).map fun H'=>(.val (qcc (min len' len)),H') else none
    | _,_=>none
   | _=>none
  | _=>none
 | .clear,[x]=>match ats with
  | [t]=>(E.types t).bind fun ti=>match ti.under with
   | .slice e=>match x with
    | .nils=>some (.val (.tuple []),H)
    | .slice nm g off len sz _=>(E.types e).bind fun ei=>bif Nat.beq sz ei.size then (if len=0 then some (.val (.tuple []),H) else
      (j3 H (List.replicate len ei.zero.cells).flatten (.ptr nm g off (off+len * ei.size))).map fun H'=>(.val (.tuple []),H')) else none
    | _=>none
   | _=>none
  | _=>none
 | .unsafeSliceData,[x]=>match x with
  | .nils=>some (.val .nilp,H)
  | .slice nm g off len sz _=>bif Nat.blt 0 len then some (.val (.ptr nm g off (off+len * sz)),H) else none
  | _=>none
 | .unsafeString,[p,.int .i64 n]=>match ats with
  | [pt,_]=>match p with
   | .nilp=>if n=0 then some (.val (.str []),H) else none
   | .ptr nm g 0 lim=>(E.types pt).bind fun ti=>match ti.under,H.get nm with
    | .pointer e,some (.row cells elem gen floor frz exact)=>(E.types elem).bind fun ei=>
     if e=elem/\ei.size=1/\0<n/\n<=140737488355328/\g=gen then
      (jk H n.toNat (.ptr nm g 0 lim)).bind fun cs=>(qb9 cs).bind fun l=>
        (H.upd nm (.row cells elem gen floor (max frz n.toNat) exact)).map fun H'=>(.val (.str l),H')
     else none
    | _,_=>none
   | _=>none
  | _=>none
 | .min,x::rest=>(q2e false x rest).map fun v=>(.val v,H)
 | .max,x::rest=>(q2e true x rest).map fun v=>(.val v,H)
 | _,_=>none
def qmj (t:TypeId) (zero:V) (ok:Bool):V->Option V
 | .nili=>bif ok then some (.tuple [zero,.bool false]) else none
 | .iface u y=>bif Nat.beq u t then some (bif ok then .tuple [y,.bool true] else y) else bif ok then some (.tuple [zero,.bool false]) else none
 | _=>none
def q5f (H:Heap) (nm:Nat) (s:List UInt8) (pos:Nat):Option (Out×Heap):=
 bif Nat.blt pos s.length then (match Utf8.decode ⟨s.toArray⟩ pos with
  | (c,wd)=>(H.upd nm (.siter s (pos+wd))).map fun H'=>(.val (.tuple [.bool true,qcc pos,.int .i32 c]),H'))
 else some (.val (.tuple [.bool false]),H)
def zz (E:Env) (o:Oper) (fr:Fr) (H:Heap):Option (Out×Heap):=
 let v (x:Option V):Option (Out×Heap):=x.map fun x=>(.val x,H)
 match o.op with
 | .move x | .assign x=>v (opd fr H x)
 | .pick c a b=>match opd fr H c with
  | some (.bool c)=>v (opd fr H (if c then a else b))
  | _=>none
 | .alloc e=>(E.types e).map fun ti=>(.val (.ptr H.next 0 0 ti.zero.cells.length),qfm H ti.zero.cells e)
 | .box e x=>(opd fr H x).bind fun x=>some (.val (.ptr H.next 0 0 x.cells.length),qfm H x.cells e)
 | .build t parts=>(E.types t).bind fun ti=>(qbj fr H (parts.toList.map (·.2))).bind fun vs=>
  match ti.under with
  | .struct fs=>bif !fs.toList.all (fun f=>(E.types f.type).isSome) then none else v ((qfw (fun i=>(fs[i]?).bind fun f=>(E.types f.type).map fun fi=>(f.offset,fi.size)) ti.zero.cells ((parts.toList.map (·.1)).zip vs)).map .agg)
  | .array _ e=>(E.types e).bind fun ei=>v ((qfw (fun i=>some (i * ei.size,ei.size)) ti.zero.cells ((parts.toList.map (·.1)).zip vs)).map .agg)
  | _=>none
 | .buildSlice t len parts=>(E.types t).bind fun ti=>(qbj fr H (parts.toList.map (·.2))).bind fun vs=>
  match ti.under with
  | .slice e=>(E.types e).bind fun ei=>
   bif Nat.ble (len * ei.size) 16777216 then
    (qfw (fun i=>some (i * ei.size,ei.size)) (List.replicate len ei.zero.cells).flatten ((parts.toList.map (·.1)).zip vs)).map fun cells=>
      (.val (.slice H.next 0 0 len ei.size (some len)),qfm H cells e)
   else none
  | _=>none
 | .load t p=>(E.types t).bind fun ti=>(opd fr H p).bind fun p=>v (qg3 H ti p)
 | .store t p x=>(E.types t).bind fun ti=>(opd fr H p).bind fun p=>(opd fr H x).bind fun x=>(qjj H ti p x).map fun H'=>(.skip,H')
 | .nilCheck x=>match opd fr H x with
  | some .nilp | some .nili | some .nilf | some (.func (.method _) _ _) | none=>none
  | some x=>some (.val x,H)
 | .binOp op t x y _=>(opd fr H x).bind fun a=>(opd fr H y).bind fun b=>
  match a,b with
  | .nili,.nili=>match x,y with
   | .const _,_ | _,.const _=>v (qaz E op t a b)
   | _,_=>none
  | _,_=>v (qaz E op t a b)
 | .unOp op _ x=>(opd fr H x).bind fun x=>v (q6o op x)
 | .convert src dst x=>(E.types src).bind fun si=>(E.types dst).bind fun di=>(opd fr H x).bind fun x=>
  match si.under,di.under,x with
  | .int _,.int k,.int _ n=>some (.val (.int k (k.wrap n)),H)
  | .string,.string,.str s=>some (.val (.str s),H)
  | .slice e,.string,x=>match x with
   | .str _=>none
   | _=>(E.types e).bind fun ei=>match ei.under with
    | .int .u8=>(kp H 1 x).bind fun r=>(qb9 r.2).map fun l=>(.val (.str l),H)
    | _=>none
  | .pointer e,.unsafePointer,.ptr nm g off lim=>(E.types e).bind fun ei=>match H.get nm with
   | some (.row _ _ _ floor _ _)=>bif Nat.ble floor g&&Nat.blt 0 ei.size&&Nat.ble (off+1) lim then some (.val (.ptr nm g off lim),H) else none
   | _=>none
  | .unsafePointer,.pointer e,.ptr nm g off lim=>(E.types e).bind fun ei=>match H.get nm with
   | some (.row cells elem _ floor _ true)=>(E.types elem).bind fun li=>bif Nat.ble floor g&&Nat.blt 0 ei.size&&E.lies elem (cells.length / li.size) off e then some (.val (.ptr nm g off lim),H) else none
   | _=>none
  | _,_,_=>none
 | .makeInterface t x=>(E.types t).bind fun ti=>match ti.under with
  | .interface _=>none
  | _=>v ((opd fr H x).map (.iface t))
 | .makeFunc (.func fn) first captured=>(qbj fr H first.toList).bind fun a=>(qbj fr H captured.toList).map fun c=>(.val (.func (.func fn) a c),H)
 | .makeMap t r=>(E.types t).bind fun ti=>match ti.under,r with
  | .map ..,none=>some (.val (.map H.next),H.new (.map [] 0))
  | .map ..,some r=>(opd fr H r).bind fun r=>match r with
   | .int ..=>some (.val (.map H.next),H.new (.map [] 0))
   | _=>none
  | _,_=>none
 | .makeSlice t l c=>(E.types t).bind fun ti=>(opd fr H l).bind fun l=>(opd fr H c).bind fun c=>
  match ti.under,l,c with
  | .slice e,.int .i64 l,.int .i64 c=>(E.types e).bind fun ei=>
   if 0<=l/\l<=c/\c * (ei.bytes:Int)<=281474976710656/\c<=281474976710656 then
    some (.val (.slice H.next 0 0 l.toNat ei.size (some c.toNat)),qfm H (List.replicate c.toNat ei.zero.cells).flatten e)
   else none
  | _,_,_=>none
 | .slice t x lo hi none=>(E.types t).bind fun ti=>(opd fr H x).bind fun x=>(qje fr H lo).bind fun lo=>(qje fr H hi).bind fun hi=>
  match ti.under with
  | .slice e=>match x with
   | .str _=>none
   | _=>(E.types e).bind fun ei=>v (qd9 ei.size x lo hi none)
  | .string=>match x with
   | .str _=>v (qd9 1 x lo hi none)
   | _=>none
  | .array n e=>(E.types e).bind fun ei=>match x with
   | .ptr nm g off lim=>match H.get nm with
    | some (.row _ _ _ floor _ _)=>bif Nat.ble floor g&&Nat.ble (off+n * ei.size) lim then v (qd9 ei.size (.slice nm g off n ei.size (some n)) lo hi none) else none
    | _=>none
   | _=>none
  | _=>none
 | .slice t x lo (some hi) (some mx)=>(E.types t).bind fun ti=>(opd fr H x).bind fun x=>(qje fr H lo).bind fun lo=>(opd fr H hi).bind fun hi=>(opd fr H mx).bind fun mx=>
  match ti.under,x with
  | .slice e,.slice nm g off len sz cap=>(E.types e).bind fun ei=>v (qd9 ei.size (.slice nm g off len sz cap) lo (some hi) (some mx))
  | _,_=>none
 | .fieldAddr s x k=>(E.types s).bind fun ti=>(qfg ti k).bind fun f=>(E.types f.type).bind fun fi=>
  bif Nat.beq fi.size 0 then none else (opd fr H x).bind fun x=>
  match x with
  | .ptr nm g off lim=>some (.val (.ptr nm g (off+f.offset) lim),H)
  | _=>none
 | .field t x k=>(E.types t).bind fun ti=>(qfg ti k).bind fun f=>(E.types f.type).bind fun fi=>(opd fr H x).bind fun x=>
  match x with
  | .agg cs=>v (qi8 fi cs f.offset)
  | _=>none
 | .indexAddr t x i=>(E.types t).bind fun ti=>(opd fr H x).bind fun x=>(opd fr H i).bind fun i=>
  match ti.under with
  | .slice e=>(E.types e).bind fun ei=>v (qet ei.size x i)
  | .array n e=>(E.types e).bind fun ei=>match x,i with
   | .ptr nm g off lim,.int _ i=>if 0<=i/\i<n then some (.val (.ptr nm g (off+i.toNat * ei.size) lim),H) else none
   | _,_=>none
  | _=>none
 | .index t x i=>(E.types t).bind fun ti=>(opd fr H x).bind fun x=>(opd fr H i).bind fun i=>
  match ti.under,x,i with
  | .string,.str s,.int _ i=>if 0<=i then (s[i.toNat]?).map fun b=>(.val (.int .u8 b.toNat),H) else none
  | .array n e,.agg cs,.int _ i=>(E.types e).bind fun ei=>if 0<=i/\i<n then v (qi8 ei cs (i.toNat * ei.size)) else none
  | _,_,_=>none
 | .extract t i=>(opd fr H t).bind fun t=>match t with
  | .tuple vs=>v vs[i]?
  | _=>none
 | .call c=>(qbj fr H c.args.toList).bind fun args=>match c.callee with
  | .value f=>(opd fr H f).bind fun f=>(qds f args).map fun o=>(o,H)
  | .builtin b=>jh E b c.argTypes.toList args H
  | .invoke ..=>none
 | .lookup t m k ok=>(E.types t).bind fun ti=>(opd fr H m).bind fun m=>(opd fr H k).bind fun k=>
  match ti.under with
  | .map kt et=>(E.types kt).bind fun ki=>(E.types et).bind fun ei=>(match m with
    | .nilm=>qh7 E kt ki.under k []
    | .map nm=>match H.get nm with
     | some (.map es _)=>qh7 E kt ki.under k es
     | _=>none
    | _=>none:Option (Option (Nat×V))).map fun r=>match r with
     | some (_,x)=>(.val (if ok then .tuple [x,.bool true] else x),H)
     | none=>(.val (if ok then .tuple [ei.zero,.bool false] else ei.zero),H)
  | _=>none
 | .mapUpdate t m k x | .insert t m k x=>(E.types t).bind fun ti=>(opd fr H m).bind fun m=>(opd fr H k).bind fun k=>(opd fr H x).bind fun x=>
  match ti.under,m with
  | .map kt _,.map nm=>(E.types kt).bind fun ki=>match H.get nm with
   | some (.map es clock)=>(qh7 E kt ki.under k es).bind fun r=>match r with
    | some (i,_)=>(H.upd nm (.map (es.modify i fun e=>(k,x,e.2.2)) clock)).map fun H'=>(.skip,H')
    | none=>(H.upd nm (.map (es++[(k,x,clock)]) (clock+1))).map fun H'=>(.skip,H')
   | _=>none
  | _,_=>none
 | .typeAssert x _ t ok=>(E.types t).bind fun ti=>match ti.under with
  | .interface _=>none
  | _=>(opd fr H x).bind fun x=>v (qmj t ti.zero ok x)
 | .panic x=>(opd fr H x).bind fun x=>match x with
  | .iface t x=>some (.panic (.iface t x),H)
  | _=>none
 | .range t x=>(E.types t).bind fun ti=>(opd fr H x).bind fun x=>match ti.under,x with
  | .string,.str s=>some (.val (.ptr H.next 0 0 0),H.new (.siter s 0))
  | _,_=>none
 | .next x true=>(opd fr H x).bind fun x=>match x with
  | .ptr nm _ 0 _=>match H.get nm with
   | some (.siter s pos)=>q5f H nm s pos
   | _=>none
  | _=>none
 | _=>none
abbrev Call:=Tgt->List V->Heap->Option (CR×Heap)
def qd7 (E:Env) (call:Call) (all:Array Oper) (o:Oper) (fr:Fr) (H:Heap):Option (CR×Heap):=
 match qby o all fr with
 | some true=>match zz E o fr H with
  | some (.val v,H')=>some (.ret v,H')
  | some (.skip,H')=>some (.ret jb,H')
  | some (.call t args,H')=>call t args H'
  | some (.panic v,H')=>some (.panic [⟨v,false,false⟩],H')
  | _=>none
 | some false=>some (.ret jb,H)
 | none=>none
def q7r (fr:Fr) (H:Heap) (c:Go.Call):Option D:=
 match c.callee with
 | .value f=>(qbj fr H c.args.toList).bind fun args=>(opd fr H f).bind fun f=>match f with
  | .func (.func g) first captured=>some {fn:=.func g,captured:=captured,args:=first++args}
  | _=>none
 | _=>none
def Fr.push (fr:Fr) (d:D):Fr:=
 match fr with
 | ⟨t,n,ds⟩=>⟨t,n,.call d::ds⟩
def qdp (E:Env) (call:Call) (nd:Bool) (all:Array Oper):List Oper->Fr->Heap->Option (Ex×Fr×Heap)
 | [],fr,H=>some (.normal,fr,H)
 | o::rest,fr,H=>match o.op with
  | .defer c=>match qby o all fr with
   | some true=>bif nd then (q7r fr H c).bind fun d=>qdp E call nd all rest ((fr.push d).put o.dst jb) H else none
   | some false=>qdp E call nd all rest (fr.put o.dst jb) H
   | none=>none
  | _=>match qd7 E call all o fr H with
   | some (.ret v,H')=>qdp E call nd all rest (fr.put o.dst v) H'
   | some (.panic ch,H')=>some (.panic ch,fr,H')
   | none=>none
inductive FP where
 | none
 | reads (l:List Nat)
 | writes (l:List Nat)
 | call
 | lone
def V.nm:V->List Nat
 | .ptr nm _ _ _ | .slice nm _ _ _ _ _ | .map nm=>[nm]
 | _=>[]
def ql3 (fr:Fr):Operand->List Nat
 | .tmp t=>match fr.tmp t with
  | some v=>v.nm
  | none=>[]
 | .global g=>[g]
 | _=>[]
def qaq (fr:Fr) (l:List Operand):List Nat:=l.flatMap (ql3 fr)
def qfk:Operand->List Nat
 | .global g=>[g]
 | _=>[]
def zy (E:Env) (op:Op):Bool:=
 match op with
 | .load .. | .store .. | .lookup .. | .mapUpdate .. | .insert .. | .next .. | .convert ..=>true
 | .call c=>match c.callee with
  | .builtin .min | .builtin .max | .builtin .unsafeSliceData=>c.args.any fun | .global _=>true | _=>false
  | .builtin .len=>match c.argTypes.toList with
   | t::_=>match E.types t with
    | some {under:=.map ..,..} | none=>true
    | _=>c.args.any fun | .global _=>true | _=>false
   | _=>true
  | _=>true
 | .slice t x lo hi mx=>(match E.types t with
   | some {under:=.array ..,..} | none=>true
   | _=>false) || (Op.slice t x lo hi mx).operands.any fun | .global _=>true | _=>false
 | op=>op.operands.any fun | .global _=>true | _=>false
def V.many:V->Option Nat
 | .nils=>some 0
 | .slice _ _ _ len _ _=>some len
 | .str s=>some s.length
 | _=>none
def q2n (fr:Fr):Operand->Option V
 | .tmp t=>fr.tmp t
 | .const v=>qk5 1000 v
 | _=>none
def qpp (fr:Fr):List Operand->Bool
 | [a,x]=>match q2n fr a,(q2n fr x).bind V.many with
  | some .nils,some _=>true
  | some (.slice _ _ _ len _ (some c)),some n=>Nat.beq n 0 || !Nat.ble (len+n) c
  | _,_=>false
 | _=>false
def qf5 (E:Env) (o:Oper) (fr:Fr):FP:=
 bif !zy E o.op then .none else
 match o.op with
 | .store _ a x=>.writes (ql3 fr a++qfk x)
 | .mapUpdate _ m k x | .insert _ m k x=>.writes (ql3 fr m++qfk k++qfk x)
 | .next i _=>.writes (ql3 fr i)
 | .call c=>match c.callee with
  | .builtin b=>match b with
   | .append=>bif qpp fr c.args.toList then .reads (qaq fr c.args.toList) else .writes (qaq fr c.args.toList)
   | .copy | .clear | .unsafeString=>.writes (qaq fr c.args.toList)
   | _=>.reads (qaq fr c.args.toList)
  | _=>.call
 | op=>.reads (qaq fr op.operands.toList)
def zl4 (all:Array Oper) (i:Nat) (o:Oper):Bool:=
 match o.op with
 | .load _ (.tmp t)=>all.toList.any fun p=>(match p.dst with | some d=>Nat.beq d t | none=>false)&&(match p.op with
   | .indexAddr _ (.tmp u) _=>all.toList.zipIdx.any fun (q,j)=>(match q.dst with | some d=>Nat.beq d u | none=>false)&&Nat.blt i j&&(match q.op with | .buildSlice ..=>true | _=>false)
   | _=>false)
 | _=>false
def qrc (E:Env) (all:Array Oper) (b:Array Nat) (i:Nat):Bool:=
 all.toList.zipIdx.all fun (o,k)=>Nat.beq k i || !zy E o.op || (b.getD (max i k) 0).testBit (min i k) || zl4 all i o
structure Done where
 i:Nat
 fp:FP
 lo:Nat
 hi:Nat
 dels:List Nat
def qbq (d:Done) (dels:List Nat) (fp:FP):Bool:=
 match d.fp,fp with
 | .none,_ | _,.none=>false
 | .lone,.reads l | .lone,.writes l | .call,.writes l=>l.any fun n=>Nat.blt n d.lo&&!d.dels.any fun m=>Nat.beq n m
 | .reads l,.lone | .writes l,.lone | .writes l,.call=>l.any fun n=>!dels.any fun m=>Nat.beq n m
 | .lone,.lone | .lone,.call | .call,.lone=>true
 | .writes w,.writes l | .writes w,.reads l | .reads l,.writes w=>w.any fun n=>l.any fun m=>Nat.beq n m
 | .reads _,.reads _ | .reads _,.call | .call,.reads _ | .call,.call=>false
def Done.names (d:Done):List Nat:=List.range' d.lo (d.hi-d.lo)
def zr (H:Heap) (fp:FP) (dels:List Nat):Heap:=
 let ok (n:Nat):Bool:=Nat.blt n H.next&&!dels.any fun m=>Nat.beq n m
 match fp with
 | .none=>{H with qa6:=.nil,ro:=H.next}
 | .reads l=>{H with qa6:=kk H.qa6 (l.filter ok) .nil,ro:=H.next}
 | .writes l=>{H with qa6:=kk H.qa6 (l.filter ok) .nil}
 | .call=>{H with qa6:=kk .nil dels H.qa6,ro:=H.next}
 | .lone=>{H with qa6:=kk .nil dels H.qa6}
def qbc (H K:Heap) (fp:FP) (dels:List Nat):Heap:=
 let ok (n:Nat):Bool:=Nat.blt n H.next&&!dels.any fun m=>Nat.beq n m
 {qa6:=match fp with
    | .none | .reads _ | .call=>kk K.qa6 (List.range' H.next (K.next-H.next)) H.qa6
    | .writes l=>kk K.qa6 (l.filter ok++List.range' H.next (K.next-H.next)) H.qa6
    | .lone=>kk H.qa6 dels K.qa6,
   next:=K.next,ro:=H.ro,qy:=H.qy}
def qb7 (E:Env) (call:Call) (all:Array Oper) (b:Array Nat):Nat->List Oper->List Done->Fr->Heap->Option (Fr×Heap)
 | _,[],_,fr,H=>some (fr,H)
 | i,o::rest,done,fr,H=>(qby o all fr).bind fun wnt=>
  let fp:=bif wnt then (match qf5 E o fr with
   | .call=>bif qrc E all b i then .lone else .call
   | x=>x) else .none
  let free:=done.filter fun d=>!(b.getD i 0).testBit d.i
  let dels:=free.flatMap Done.names
  bif free.any (fun d=>qbq d dels fp) then none else
  match qd7 E call all o {fr with tmps:=kk fr.tmps (o.looksAt all) .nil} (zr H fp dels) with
  | some (.ret v,K)=>bif Nat.blt K.next H.next then none else qb7 E call all b (i+1) rest (⟨i,fp,H.next,K.next,dels⟩::done) (fr.put o.dst v) (qbc H K fp dels)
  | _=>none
def qu2 (ops:Array Oper):Bool:=
 ops.toList.zipIdx.all fun (o,i)=>o.after.all (fun e=>!Region.binds .any e || Nat.blt e.on i)&&(match o.op with | .select ..=>false | _=>true)&&
  ops.toList.zipIdx.all fun (p,k)=>Nat.ble i k || ((Region.before ops).getD i 0).testBit k || (p.apart ops o)
def codeOk:Code->Bool
 | .region _ ops draw=>!draw || qu2 ops
 | .seq a b=>codeOk a&&codeOk b
 | .cond _ a b=>codeOk a&&codeOk b
 | .block _ a | .loop a | .scope a=>codeOk a
 | .rangeFunc _ _ a b=>codeOk a&&codeOk b
 | _=>true
def iter {σ:Type} (step:σ->Option (Bool×σ)):Nat->σ->Option σ
 | 0,_=>none
 | n+1,s=>match step s with
  | some (true,s')=>iter step n s'
  | some (false,s')=>some s'
  | none=>none
def qd1:Option Code->Option Ex
 | none=>some .normal
 | some .ret=>some .ret
 | some (.exit id)=>some (.exit id)
 | _=>none
def qqu (round:Option Nat) (H:Heap):Option (List Dfr×Heap×Nat):=
 match round with
 | none=>some ([Dfr.mark H.next],H.new .dfr,H.next)
 | some l=>match H.get l with
  | some (.loop _ _ _ _ _ _ _ d)=>some ([],H,d)
  | _=>none
def qef (H:Heap) (l:Nat):Option (Ex×Heap):=
 match H.get l with
 | some (.loop st pending lt ln lp la lb ld)=>match st with
  | .busy=>none
  | _=>(H.upd l (.loop .exhausted pending lt ln lp la lb ld)).bind fun H'=>(qd1 pending).map fun ex=>(ex,H')
 | _=>none
def qkb (E:Env) (f:Nat):Bool:=
 match E.funcs f with
 | some fi=>fi.body.isSome
 | none=>false
def zi (E:Env) (call:Call) (fn:FuncId) (round:Option Nat) (fuel:Nat):Code->Fr->Heap->Option (Ex×Fr×Heap)
 | .skip,fr,H=>some (.normal,fr,H)
 | .label _,fr,H=>some (.normal,fr,H)
 | .exit id,fr,H=>some (.exit id,fr,H)
 | .goto l,fr,H=>some (.goto l,fr,H)
 | .ret,fr,H=>some (.ret,fr,H)
 | .seq a b,fr,H=>match zi E call fn round fuel a fr H with
  | some (.normal,fr',H')=>zi E call fn round fuel b fr' H'
  | r=>r
 | .cond c a b,fr,H=>match opd fr H c with
  | some (.bool true)=>zi E call fn round fuel a fr H
  | some (.bool false)=>zi E call fn round fuel b fr H
  | _=>none
 | .block id c,fr,H=>match zi E call fn round fuel c fr H with
  | some (.exit id',fr',H')=>bif Nat.beq id' id then some (.normal,fr',H') else some (.exit id',fr',H')
  | r=>r
 | .scope c,fr,H=>match zi E call fn round fuel c fr H with
  | some (.goto _,_,_)=>none
  | r=>r
 | .loop c,fr,H=>iter (fun (s:Ex×Fr×Heap)=>match zi E call fn round fuel c s.2.1 s.2.2 with
   | some (.normal,fr',H')=>some (true,.normal,fr',H')
   | some r=>some (false,r)
   | none=>none) fuel (.normal,fr,H)
 | .region _ ops draw,fr,H=>bif draw then
   (qb7 E call ops (Region.before ops) 0 ops.toList [] fr H).map fun r=>(.normal,r.1,r.2)
  else qdp E call round.isNone ops ops.toList fr H
 | .rangeFunc f params assign body,fr,H=>(qqu round H).bind fun z=>
  match (opd fr H f).bind fun f=>qds f [.func (.yield z.2.1.next) [] []] with
  | some (.call (.func g) args)=>
   bif qkb E g then
    match call (.func g) args (z.2.1.new (.loop .ready none fr.tmps fr.n params.toList assign body z.2.2)) with
    | some (.ret _,H3)=>(qef H3 z.2.1.next).map fun y=>(y.1,{fr with defers:=z.1++fr.defers},y.2)
    | some (.panic ch,H3)=>some (.panic ch,{fr with defers:=z.1++fr.defers},H3)
    | none=>none
   else none
  | _=>none
 | .refuse _,_,_=>none
def kx (E:Env) (fr:Fr) (H:Heap):List ResultVar->Option (List V)
 | []=>some []
 | .tmp t::rs=>(fr.tmp t).bind fun v=>(kx E fr H rs).map fun vs=>v::vs
 | .cell a t::rs=>(E.types t).bind fun ti=>(fr.tmp a).bind fun p=>(qg3 H ti p).bind fun v=>(kx E fr H rs).map fun vs=>v::vs
def qdt (args:List V):Tree V:=Tree.ofList args
def qc6 (n:Nat):List Tmp->List V->Tree V->Option (Tree V)
 | [],[],t=>some t
 | p::ps,v::vs,t=>bif Nat.blt p n then qc6 n ps vs (t.set p v) else none
 | _,_,_=>none
def zcp (ext:Nat) (args:List V):Option V:=
 match ext,args with
 | 1,[.str s,.int .u8 c]=>some (.int .i64 (match s.findIdx? (fun b=>b == c.toNat.toUInt8) with | some i=>(i:Int) | none=>-1))
 | 2,[.str s,.int .u8 c]=>some (.int .i64 (s.countP (fun b=>b == c.toNat.toUInt8):Nat))
 | 4,[x]=>some x
 | _,_=>none
inductive Md where
 | returning
 | panicking (v:V)
 | recovered (v:V)
def qmn (o:Oper):Bool:=
 match o.op with
 | .call c=>match c.callee with
  | .builtin .recover=>Nat.beq c.args.size 0
  | _=>false
 | _=>false
def qho (E:Env) (all:Array Oper):List Oper->Md->Fr->Heap->Option (Ex×Md×Fr×Heap)
 | [],md,fr,H=>some (.normal,md,fr,H)
 | o::rest,md,fr,H=>match qby o all fr with
  | some true=>bif qmn o then (match md with
    | .panicking v=>qho E all rest (.recovered v) (fr.put o.dst v) H
    | md=>qho E all rest md (fr.put o.dst .nili) H)
   else (match zz E o fr H with
    | some (.val v,H')=>qho E all rest md (fr.put o.dst v) H'
    | some (.skip,H')=>qho E all rest md (fr.put o.dst jb) H'
    | _=>none)
  | some false=>qho E all rest md (fr.put o.dst jb) H
  | none=>none
def qdk:Code->Bool
 | .region _ ops _=>ops.toList.any qmn
 | .seq a b=>qdk a || qdk b
 | .cond _ a b=>qdk a || qdk b
 | .block _ a | .loop a | .scope a=>qdk a
 | .rangeFunc _ _ a b=>qdk a || qdk b
 | _=>false
def q1d (E:Env) (call:Call) (fn:FuncId) (fuel:Nat) (c:Code) (md:Md) (fr:Fr) (H:Heap):Option (Ex×Md×Fr×Heap):=
 bif qdk c then (match c with
  | .region _ ops false=>qho E ops ops.toList md fr H
  | _=>none)
 else (zi E call fn none fuel c fr H).map fun x=>(x.1,md,x.2)
def qiw (E:Env) (call:Call) (fn:FuncId) (fuel:Nat):Code->Md->Fr->Heap->Option (Ex×Md×Fr×Heap)
 | .seq a b,md,fr,H=>match qiw E call fn fuel a md fr H with
  | some (.normal,md',fr',H')=>qiw E call fn fuel b md' fr' H'
  | x=>x
 | .cond c a b,md,fr,H=>match opd fr H c with
  | some (.bool true)=>qiw E call fn fuel a md fr H
  | some (.bool false)=>qiw E call fn fuel b md fr H
  | _=>none
 | c,md,fr,H=>q1d E call fn fuel c md fr H
def q21:Md->Md
 | .recovered _=>.returning
 | md=>md
def qj4 (E:Env) (call:Call) (fuel:Nat) (d:D) (md:Md) (H:Heap):Option (Md×Heap):=
 match d.fn with
 | .func f=>(E.funcs f).bind fun fi=>match fi.body with
  | some c=>(qiw E call f fuel c md {tmps:=qdt (d.args++d.captured),n:=max (d.args++d.captured).length fi.ntmps,defers:=[]} H).bind fun x=>
   match x.1,x.2.2.1.defers with
   | .normal,[] | .ret,[]=>(kx E x.2.2.1 x.2.2.2 fi.results).map fun _=>(x.2.1,x.2.2.2)
   | _,_=>none
  | none=>none
 | _=>none
def leave (E:Env) (call:Call) (fuel:Nat):List Dfr->Md->Heap->Option (Md×Heap)
 | [],md,H=>some (md,H)
 | .mark nm::ds,md,H=>match H.get nm with
  | some .dfr=>(H.upd nm .gone).bind fun H'=>leave E call fuel ds md H'
  | _=>none
 | .call d::ds,md,H=>(qj4 E call fuel d md H).bind fun r=>leave E call fuel ds (q21 r.1) r.2
def q26 (E:Env) (call:Call) (fuel:Nat) (x:Ex×Fr×Heap):Option (Md×Fr×Heap):=
 match x.1 with
 | .normal | .ret=>(leave E call fuel x.2.1.defers .returning x.2.2).map fun r=>(r.1,x.2.1,r.2)
 | .panic [⟨v,false,false⟩]=>(leave E call fuel x.2.1.defers (.panicking v) x.2.2).map fun r=>(r.1,x.2.1,r.2)
 | _=>none
def qf2 (H:Heap) (l:Nat) (jump:Option Code):Option (CR×Heap):=
 match H.get l with
 | some (.loop _ _ lt ln lp la lb ld)=>(H.upd l (.loop (if jump.isNone then .ready else .done) jump lt ln lp la lb ld)).map fun H'=>(.ret (.bool jump.isNone),H')
 | _=>none
def ql8 (l:Nat) (x:Ex×Fr×Heap):Option (CR×Heap):=
 match x.1 with
 | .normal=>qf2 x.2.2 l none
 | .ret=>qf2 x.2.2 l (some .ret)
 | .exit id=>qf2 x.2.2 l (some (.exit id))
 | _=>none
def qug (H:Heap) (l:Nat):Option Heap:=
 match H.get l with
 | some (.loop .ready pending lt ln lp la lb ld)=>H.upd l (.loop .busy pending lt ln lp la lb ld)
 | _=>none
def oneOf:List V->V
 | [v]=>v
 | vs=>.tuple vs
def qlt (E:Env) (rs:List ResultVar) (x:Md×Fr×Heap):Option (CR×Heap):=
 match x.1 with
 | .returning=>(kx E x.2.1 x.2.2 rs).map fun vs=>(.ret (oneOf vs),x.2.2)
 | .panicking v=>some (.panic [⟨v,false,false⟩],x.2.2)
 | .recovered _=>none
def qaa (E:Env):Nat->Call
 | 0,_,_,_=>none
 | n+1,.func f,args,H=>match (match E.spec f with
   | some s=>s args H
   | none=>none) with
  | some r=>some r
  | none=>(E.funcs f).bind fun fi=>match fi.body with
  | some c=>(zi E (qaa E n) f none (n+1) c {tmps:=qdt args,n:=max args.length fi.ntmps,defers:=[]} H).bind fun x=>
    (q26 E (qaa E n) (n+1) x).bind fun y=>qlt E fi.results y
  | none=>(zcp fi.ext args).map fun v=>(.ret v,H)
 | n+1,.round l,args,H=>match H.get l with
  | some (.loop _ _ lt ln lp la lb _)=>(qc6 ln lp args lt).bind fun t=>
   match zi E (qaa E n) 0 (some l) (n+1) la {tmps:=t,n:=ln,defers:=[]} H with
   | some (.normal,fr,H1)=>(qug H1 l).bind fun H2=>(zi E (qaa E n) 0 (some l) (n+1) lb fr H2).bind fun x=>ql8 l x
   | _=>none
  | _=>none
def qfo (P:Program):Nat->TypeId->Bool
 | 0,_=>false
 | d+1,t=>match P.underlying t with
  | some (.int _) | some .string | some .bool=>true
  | some (.struct fs)=>!P.stoodInHeld t&&!P.eqGuardType P.depth t&&fs.all fun f=>f.name != "_" && qfo P d f.type
  | _=>false
def zgv:TypeDesc->Bool
 | .struct _ | .array ..=>true
 | _=>false
def typeOf (P:Program) (t:Nat):Option TI:=
 match P.info? t,P.underlying t with
 | some i,some u=>(i.zero.bind (qk5 1000)).bind fun z=>bif Nat.beq z.cells.length i.size then some {under:=u,size:=i.size,bytes:=i.bytes,zero:=z,isAgg:=zgv u} else none
 | _,_=>none
def qsa (name:String):Nat:=
 if name == "internal/bytealg.IndexByteString" then 1 else if name == "internal/bytealg.CountString" then 2 else if name == "internal/abi.NoEscape" then 4 else 0
def funcOf (P:Program) (f:Nat):Option FI:=
 match P.funcs[f]? with
 | some fn=>bif fn.name == "runtime.NumGoroutine" then none else
  match fn.body with
  | some c=>some {body:=some c,ext:=0,ntmps:=fn.ntmps,results:=fn.results.toList}
  | none=>some {body:=none,ext:=qsa fn.name,ntmps:=0,results:=[]}
 | none=>none
def qo (P:Program) (spec:Nat->Option (List V->Heap->Option (CR×Heap))):Env:=
 {types:=typeOf P,funcs:=funcOf P,spec,eqOk:=qfo P 20,lies:=fun e n off u=>liesAt P P.depth e n off u 1}
end Go.E2
/- E2's memory and values against the model's: the relation, and what keeps it. -/
namespace Go.E2
open Go
theorem Tree.qpo {α:Type} (v:Option α) (l r:Tree α) (m:Nat) :
  (Tree.node v l r).get m=if m=0 then v else if m % 2=1 then l.get (m / 2) else r.get (m / 2-1):=by
 simp only [Tree.get,cond_eq_ite,Nat.beq_eq]
theorem Tree.zd4 {α:Type} (a:α) (f:Nat) (t:Tree α) (n:Nat) :
  ∃ v l r,(∀ m,t.get m=(Tree.node v l r).get m)/\Tree.qw2 a (f+1) t n=(if n=0 then .node (some a) l r
   else if n % 2=1 then .node v (Tree.qw2 a f l (n / 2)) r else .node v l (Tree.qw2 a f r (n / 2-1))):=by
 cases t with
 | nil=>exact ⟨none,.nil,.nil,fun m=>by rw [Tree.qpo];simp [Tree.get],by simp only [Tree.qw2,cond_eq_ite,Nat.beq_eq]⟩
 | node v l r=>exact ⟨v,l,r,fun _=>rfl,by simp only [Tree.qw2,cond_eq_ite,Nat.beq_eq]⟩
theorem Tree.zgk {α:Type} (a:α):∀ (f:Nat) (t:Tree α) (n m:Nat),n<f->
  (Tree.qw2 a f t n).get m=if m=n then some a else t.get m:=by
 intro f
 induction f with
 | zero=>intro t n m h;omega
 | succ f ih=>
  intro t n m h
  obtain ⟨v,l,r,hg,e⟩:=Tree.zd4 a f t n
  rw [e,hg m]
  by_cases h0:n=0
  .subst h0
   simp only [if_true,Tree.qpo]
   by_cases hm:m=0<;>simp [hm]
  .simp only [h0,if_false]
   by_cases h1:n % 2=1
   .simp only [h1,if_true,Tree.qpo]
    rw [ih l (n / 2) (m / 2) (by omega)]
    by_cases hm0:m=0
    .subst hm0;simp;intro h;omega
    .simp only [hm0,if_false]
     by_cases hm1:m % 2=1
     .simp only [hm1,if_true]
      by_cases he:m=n
      .subst he;simp
      .have:¬ m / 2=n / 2:=by omega
       simp [he,this]
     .have:¬ m=n:=by omega
      simp [hm1,this]
   .simp only [h1,if_false,Tree.qpo]
    rw [ih r (n / 2-1) (m / 2-1) (by omega)]
    by_cases hm0:m=0
    .subst hm0;simp;intro h;omega
    .simp only [hm0,if_false]
     by_cases hm1:m % 2=1
     .have:¬ m=n:=by omega
      simp [hm1,this]
     .simp only [hm1,if_false]
      by_cases he:m=n
      .subst he;simp
      .have:¬ m / 2-1=n / 2-1:=by omega
       simp [he,this]
theorem Tree.km {α:Type} (t:Tree α) (n:Nat) (a:α) (m:Nat):(t.set n a).get m=if m=n then some a else t.get m:=
 Tree.zgk a (n+1) t n m (by omega)
theorem Tree.qv2 {α:Type}:∀ (l:List α) (t:Tree α) (k:Nat) (m:Nat),
  ((l.foldl (fun (s:Tree α×Nat) a=>(s.1.set s.2 a,s.2+1)) (t,k)).1).get m=if k<=m/\m<k+l.length then l[m-k]? else t.get m:=by
 intro l
 induction l with
 | nil=>intro t k m;simp;intro h1 h2;omega
 | cons a l ih=>
  intro t k m
  simp only [List.foldl_cons,List.length_cons]
  rw [ih]
  by_cases h1:k+1<=m/\m<k+1+l.length
  .have h2:k<=m/\m<k+(l.length+1):=by omega
   rw [zT h1,zT h2]
   have:m-k=(m-(k+1))+1:=by omega
   rw [this,List.getElem?_cons_succ]
  .rw [zF h1,Tree.km]
   by_cases h3:m=k
   .subst h3;simp
   .have h2:¬ (k<=m/\m<k+(l.length+1)):=by omega
    rw [zF h2,zF h3]
theorem Tree.qn3 {α:Type} (l:List α) (m:Nat):(Tree.ofList l).get m=l[m]?:=by
 unfold Tree.ofList
 rw [Tree.qv2]
 by_cases h:m<l.length
 .simp [h]
 .simp only [Nat.zero_le,true_and,Nat.zero_add,h,if_false,Tree.get]
  exact (List.getElem?_eq_none (by omega)).symm
abbrev qi:=Nat->Nat->Option (Nat×Nat×Nat)
def qg9 (G:qi) (b:Nat):Prop:=∀ nm g sh n,G nm g≠some (b,sh,n)
def qgo (G:qi) (f f':Fn):Prop:=
 match f with
 | .yield l=>∃ b sh n,G l 0=some (b,sh,n)/\f'=.yield b
 | f=>f'=f
mutual
def Rel (G:qi) (w:World):V->Value->Prop
 | .int k n,v=>v=.int k n
 | .bool b,v=>v=.bool b
 | .str s,v=>v=.string ⟨s.toArray⟩
 | .ptr nm g off lim,v=>∃ b sh n,G nm g=some (b,sh,n)/\sh<=off/\lim<=n/\v=.pointer (some ⟨b,off-sh,none⟩)
 | .nilp,v=>v=.pointer none
 | .slice nm g off len sz cap,v=>∃ b sh n ro c e m ad,G nm g=some (b,sh,n)/\v=.slice (some ad) len c/\(c=0∨ad=⟨b,ro,none⟩)/\len<=c/\sh<=off/\
   off+len * sz<=n/\(ro+sh=off∨c=0)/\(∀ k,cap=some k->c=k/\off+k * sz<=n)/\w.shape? b=some (e,m)/\ro+c * sz<=m
 | .nils,v=>v=.slice none 0 0
 | .func fn first captured,v=>∃ fn' a c,v=.func fn' a c/\qgo G fn fn'/\qm G w first a.toList/\qm G w captured c.toList
 | .nilf,v=>v=.nilFunc
 | .iface t x,v=>∃ y,v=.iface t y/\Rel G w x y
 | .nili,v=>v=.nilIface
 | .agg cs,v=>∃ a,v=.agg a/\qm G w cs a.toList
 | .tuple vs,v=>∃ a,v=.tuple a/\qm G w vs a.toList
 | .map nm,v=>∃ b sh n,G nm 0=some (b,sh,n)/\v=.map (some b)
 | .nilm,v=>v=.map none
def qm (G:qi) (w:World):List V->List Value->Prop
 | [],l=>l=[]
 | v::vs,l=>∃ x xs,l=x::xs/\Rel G w v x/\qm G w vs xs
end
theorem V.qju {nm g off len sz:Nat} {cap:Option Nat}:V.qc0 sz (.slice nm g off len sz cap)=.slice nm g off len sz cap:=by
 cases cap with
 | none=>rfl
 | some c=>simp only [V.qc0];cases Nat.beq c 0<;>rfl
theorem V.qdo {nm g off len z sz:Nat} {cap:Option Nat}:V.qc0 sz (.slice nm g off len z cap)=.slice nm g off len z cap∨(cap=some 0/\V.qc0 sz (.slice nm g off len z cap)=.slice nm g off len sz cap):=by
 cases cap with
 | none=>exact .inl rfl
 | some c=>cases c with
  | zero=>exact .inr ⟨rfl,rfl⟩
  | succ c=>exact .inl rfl
theorem V.zdz {sz:Nat} {v:V}:(v.qc0 sz).qc0 sz=v.qc0 sz:=by
 cases v with
 | slice nm g off len z cap=>
  rcases V.qdo (nm:=nm) (g:=g) (off:=off) (len:=len) (z:=z) (sz:=sz) (cap:=cap) with e | ⟨_,e⟩
  .rw [e,e]
  .rw [e,V.qju]
 | _=>rfl
theorem qr8 {H:Heap} {sz:Nat} {v:V}:kp H sz (v.qc0 sz)=kp H sz v:=by unfold kp;rw [V.zdz]
theorem V.q2v {sz:Nat} {v:V}:(v.qc0 sz).nm=v.nm:=by
 cases v with
 | slice nm g off len z cap=>
  rcases V.qdo (nm:=nm) (g:=g) (off:=off) (len:=len) (z:=z) (sz:=sz) (cap:=cap) with e | ⟨_,e⟩
  .rw [e]
  .rw [e];rfl
 | _=>rfl
theorem V.zin {sz:Nat} {v:V} {s:List UInt8} (h:v.qc0 sz=.str s):v=.str s:=by
 cases v with
 | slice nm g off len z cap=>rcases V.qdo (nm:=nm) (g:=g) (off:=off) (len:=len) (z:=z) (sz:=sz) (cap:=cap) with e | ⟨_,e⟩<;>rw [e] at h<;>cases h
 | _=>exact h
theorem Rel.qc0 {G:qi} {w:World} {v:V} {rv:Value} (sz:Nat) (h:Rel G w v rv):Rel G w (v.qc0 sz) rv:=by
 cases v with
 | slice nm g off len z cap=>
  rcases V.qdo (nm:=nm) (g:=g) (off:=off) (len:=len) (z:=z) (sz:=sz) (cap:=cap) with e | ⟨rfl,e⟩
  .rw [e];exact h
  .rw [e]
   simp only [Rel] at h ⊢
   obtain ⟨b,sh,n,ro,c,e0,m,ad,q1,q2,q0,q3,q4,q5,q6,q7,q8,q9⟩:=h
   obtain ⟨rfl,_⟩:=q7 0 rfl
   obtain rfl:len=0:=by omega
   exact ⟨b,sh,n,ro,0,e0,m,ad,q1,q2,.inl rfl,q3,q4,by omega,.inr rfl,fun k hk=>by cases hk;exact ⟨rfl,by omega⟩,q8,by omega⟩
 | _=>exact h
theorem qm.length {G:qi} {w:World}:∀ {vs:List V} {l:List Value},qm G w vs l->vs.length=l.length
 | [],_,h=>by simp [qm] at h;simp [h]
 | v::vs,_,h=>by
  simp only [qm] at h
  obtain ⟨x,xs,rfl,_,h2⟩:=h
  simp [qm.length h2]
theorem qm.cons {G:qi} {w:World} {v:V} {vs:List V} {x:Value} {xs:List Value} (h1:Rel G w v x) (h2:qm G w vs xs):qm G w (v::vs) (x::xs):=by
 simp only [qm];exact ⟨x,xs,rfl,h1,h2⟩
theorem qm.nil {G:qi} {w:World}:qm G w [] []:=by simp [qm]
theorem qm.q33 {G:qi} {w:World} {v:V} {vs:List V} {x:Value} {xs:List Value}:qm G w (v::vs) (x::xs)↔Rel G w v x/\qm G w vs xs:=by
 simp only [qm]
 constructor
 .rintro ⟨y,ys,h,h1,h2⟩
  cases h
  exact ⟨h1,h2⟩
 .rintro ⟨h1,h2⟩
  exact ⟨x,xs,rfl,h1,h2⟩
theorem qm.append {G:qi} {w:World}:∀ {vs:List V} {l:List Value} {vs':List V} {l':List Value},qm G w vs l->qm G w vs' l'->qm G w (vs++vs') (l++l')
 | [],_,_,_,h,h'=>by simp [qm] at h;simpa [h] using h'
 | v::vs,_,_,_,h,h'=>by
  simp only [qm] at h
  obtain ⟨x,xs,rfl,h1,h2⟩:=h
  exact qm.cons h1 (qm.append h2 h')
theorem qm.take {G:qi} {w:World}:∀ {vs:List V} {l:List Value} (n:Nat),qm G w vs l->qm G w (vs.take n) (l.take n)
 | [],_,n,h=>by simp [qm] at h;simp [h,qm]
 | v::vs,_,0,h=>by simp [qm]
 | v::vs,_,n+1,h=>by
  simp only [qm] at h
  obtain ⟨x,xs,rfl,h1,h2⟩:=h
  exact qm.cons h1 (qm.take n h2)
theorem qm.drop {G:qi} {w:World}:∀ {vs:List V} {l:List Value} (n:Nat),qm G w vs l->qm G w (vs.drop n) (l.drop n)
 | [],_,n,h=>by simp [qm] at h;simp [h,qm]
 | v::vs,_,0,h=>by simpa using h
 | v::vs,_,n+1,h=>by
  simp only [qm] at h
  obtain ⟨x,xs,rfl,h1,h2⟩:=h
  simpa using qm.drop n h2
theorem qm.get {G:qi} {w:World}:∀ {vs:List V} {l:List Value} {i:Nat} {v:V},qm G w vs l->vs[i]? = some v->∃ x,l[i]? = some x/\Rel G w v x
 | [],_,_,_,_,h=>by simp at h
 | u::vs,_,0,_,h,hi=>by
  simp only [qm] at h
  obtain ⟨x,xs,rfl,h1,h2⟩:=h
  simp at hi;subst hi
  exact ⟨x,rfl,h1⟩
 | u::vs,_,i+1,_,h,hi=>by
  simp only [qm] at h
  obtain ⟨x,xs,rfl,h1,h2⟩:=h
  have hh:=qm.get (i:=i) h2 (by simpa using hi)
  simpa using hh
structure Ext (r:Nat) (G:qi) (w:World) (G':qi) (w':World):Prop where
 sub:∀ nm g x,G nm g=some x->G' nm g=some x
 frg:∀ b,b<w.heap.size->qg9 G b->w'.heap[b]? = w.heap[b]?/\qg9 G' b
 size:w.heap.size<=w'.heap.size
 shp:∀ b x,w.shape? b=some x->w'.shape? b=some x
 ro:∀ nm g b sh n,nm<r->G nm g=some (b,sh,n)->w'.heap[b]? = w.heap[b]?
 out:w'.os=w.os/\w'.output=w.output
theorem Ext.refl (r:Nat) (G:qi) (w:World):Ext r G w G w:=
 ⟨fun _ _ _ h=>h,fun _ _ h=>⟨rfl,h⟩,zN _,fun _ _ h=>h,fun _ _ _ _ _ _ _=>rfl,rfl,rfl⟩
theorem Ext.trans {r:Nat} {G G' G'':qi} {w w' w'':World} (h:Ext r G w G' w') (h':Ext r G' w' G'' w''):Ext r G w G'' w'':=
 ⟨fun nm g x e=>h'.sub nm g x (h.sub nm g x e),
  fun b hb hf=>by
   have h1:=h.frg b hb hf
   have h2:=h'.frg b (zL hb h.size) h1.2
   exact ⟨h2.1.trans h1.1,h2.2⟩,
  zR h.size h'.size,fun b x e=>h'.shp b x (h.shp b x e),
  fun nm g b sh n hr e=>(h'.ro nm g b sh n hr (h.sub _ _ _ e)).trans (h.ro nm g b sh n hr e),h'.out.1.trans h.out.1,h'.out.2.trans h.out.2⟩
theorem Ext.mono {r r':Nat} {G G':qi} {w w':World} (h:Ext r G w G' w') (hr:r'<=r):Ext r' G w G' w':=
 ⟨h.sub,h.frg,h.size,h.shp,fun nm g b sh n h1 e=>h.ro nm g b sh n (zL h1 hr) e,h.out⟩
structure Up (G:qi) (w:World) (G':qi) (w':World):Prop where
 sub:∀ nm g x,G nm g=some x->G' nm g=some x
 shp:∀ b x,w.shape? b=some x->w'.shape? b=some x
theorem Ext.up {r:Nat} {G G':qi} {w w':World} (h:Ext r G w G' w'):Up G w G' w':=⟨h.sub,h.shp⟩
theorem qgo.ext {G G':qi} (hs:∀ nm g x,G nm g=some x->G' nm g=some x) {f f':Fn} (h:qgo G f f'):qgo G' f f':=by
 unfold qgo at *
 cases f with
 | yield l=>obtain ⟨b,sh,n,e,r⟩:=h;exact ⟨b,sh,n,hs _ _ _ e,r⟩
 | _=>exact h
theorem qdm {w:World} {b:Nat} {o:Obj} (h:w.heap[b]? = some o):b<w.heap.size:=by
 rw [Array.getElem?_eq_some_iff] at h
 exact h.1
mutual
theorem Rel.up {G G':qi} {w w':World} (h:Up G w G' w'):∀ {v:V} {x:Value},Rel G w v x->Rel G' w' v x
 | .int _ _,_,e | .bool _,_,e | .str _,_,e | .nilp,_,e | .nils,_,e | .nilf,_,e | .nili,_,e | .nilm,_,e=>by simpa [Rel] using e
 | .ptr nm g off lim,_,e=>by
  simp only [Rel] at e ⊢
  obtain ⟨b,sh,n,e1,e2⟩:=e
  exact ⟨b,sh,n,h.sub _ _ _ e1,e2⟩
 | .slice nm g off len sz cap,_,e=>by
  simp only [Rel] at e ⊢
  obtain ⟨b,sh,n,ro,c,el,m,ad,e1,e2,e0,e3,e4,e5,e6,e7,e8,e9⟩:=e
  exact ⟨b,sh,n,ro,c,el,m,ad,h.sub _ _ _ e1,e2,e0,e3,e4,e5,e6,e7,h.shp _ _ e8,e9⟩
 | .func fn first captured,_,e=>by
  simp only [Rel] at e ⊢
  obtain ⟨fn',a,c,e1,e2,e3,e4⟩:=e
  exact ⟨fn',a,c,e1,e2.ext h.sub,qm.up h e3,qm.up h e4⟩
 | .iface t x,_,e=>by
  simp only [Rel] at e ⊢
  obtain ⟨y,e1,e2⟩:=e
  exact ⟨y,e1,Rel.up h e2⟩
 | .agg cs,_,e=>by
  simp only [Rel] at e ⊢
  obtain ⟨a,e1,e2⟩:=e
  exact ⟨a,e1,qm.up h e2⟩
 | .tuple cs,_,e=>by
  simp only [Rel] at e ⊢
  obtain ⟨a,e1,e2⟩:=e
  exact ⟨a,e1,qm.up h e2⟩
 | .map nm,_,e=>by
  simp only [Rel] at e ⊢
  obtain ⟨b,sh,n,e1,e2⟩:=e
  exact ⟨b,sh,n,h.sub _ _ _ e1,e2⟩
theorem qm.up {G G':qi} {w w':World} (h:Up G w G' w'):∀ {vs:List V} {l:List Value},qm G w vs l->qm G' w' vs l
 | [],_,e=>by simpa [qm] using e
 | v::vs,_,e=>by
  simp only [qm] at e ⊢
  obtain ⟨x,xs,e1,e2,e3⟩:=e
  exact ⟨x,xs,e1,Rel.up h e2,qm.up h e3⟩
end
theorem Rel.ext {r:Nat} {G G':qi} {w w':World} (h:Ext r G w G' w') {v:V} {x:Value} (e:Rel G w v x):Rel G' w' v x:=Rel.up h.up e
theorem qm.ext {r:Nat} {G G':qi} {w w':World} (h:Ext r G w G' w') {vs:List V} {l:List Value} (e:qm G w vs l):qm G' w' vs l:=qm.up h.up e
def kh (G:qi) (w:World):List V->List Value->Prop
 | [],l=>l=[]
 | v::vs,l=>∃ x xs,l=x::xs/\(isHole v=true∨Rel G w v x)/\kh G w vs xs
theorem qm.c {G:qi} {w:World}:∀ {vs:List V} {l:List Value},qm G w vs l->kh G w vs l
 | [],_,h=>by simp [qm] at h;simp [kh,h]
 | v::vs,_,h=>by
  simp only [qm] at h
  obtain ⟨x,xs,rfl,h1,h2⟩:=h
  simp only [kh]
  exact ⟨x,xs,rfl,.inr h1,h2.c⟩
theorem kh.l {G:qi} {w:World}:∀ {vs:List V} {l:List Value},kh G w vs l->vs.any isHole=false->qm G w vs l
 | [],_,h,_=>by simp [kh] at h;simp [qm,h]
 | v::vs,_,h,hn=>by
  simp only [kh] at h
  obtain ⟨x,xs,rfl,h1,h2⟩:=h
  simp only [List.any_cons,Bool.or_eq_false_iff] at hn
  simp only [qm]
  refine ⟨x,xs,rfl,h1.resolve_left (by rw [hn.1];exact Bool.false_ne_true),h2.l hn.2⟩
theorem kh.length {G:qi} {w:World}:∀ {vs:List V} {l:List Value},kh G w vs l->vs.length=l.length
 | [],_,h=>by simp [kh] at h;simp [h]
 | v::vs,_,h=>by
  simp only [kh] at h
  obtain ⟨x,xs,rfl,_,h2⟩:=h
  simp [kh.length h2]
theorem kh.append {G:qi} {w:World}:∀ {vs:List V} {l:List Value} {vs':List V} {l':List Value},kh G w vs l->kh G w vs' l'->kh G w (vs++vs') (l++l')
 | [],_,_,_,h,h'=>by simp [kh] at h;simpa [h] using h'
 | v::vs,_,_,_,h,h'=>by
  simp only [kh] at h
  obtain ⟨x,xs,rfl,h1,h2⟩:=h
  simp only [List.cons_append,kh]
  exact ⟨x,_,rfl,h1,kh.append h2 h'⟩
theorem kh.take {G:qi} {w:World}:∀ {vs:List V} {l:List Value} (n:Nat),kh G w vs l->kh G w (vs.take n) (l.take n)
 | [],_,n,h=>by simp [kh] at h;simp [h,kh]
 | v::vs,_,0,h=>by simp [kh]
 | v::vs,_,n+1,h=>by
  simp only [kh] at h
  obtain ⟨x,xs,rfl,h1,h2⟩:=h
  simp only [List.take_succ_cons,kh]
  exact ⟨x,_,rfl,h1,kh.take n h2⟩
theorem kh.drop {G:qi} {w:World}:∀ {vs:List V} {l:List Value} (n:Nat),kh G w vs l->kh G w (vs.drop n) (l.drop n)
 | [],_,n,h=>by simp [kh] at h;simp [h,kh]
 | v::vs,_,0,h=>by simpa using h
 | v::vs,_,n+1,h=>by
  simp only [kh] at h
  obtain ⟨x,xs,rfl,h1,h2⟩:=h
  simpa using kh.drop n h2
theorem kh.up {G G':qi} {w w':World} (h:Up G w G' w'):∀ {vs:List V} {l:List Value},kh G w vs l->kh G' w' vs l
 | [],_,e=>by simpa [kh] using e
 | v::vs,_,e=>by
  simp only [kh] at e ⊢
  obtain ⟨x,xs,e1,e2,e3⟩:=e
  exact ⟨x,xs,e1,e2.imp id (Rel.up h),kh.up h e3⟩
theorem kh.ext {r:Nat} {G G':qi} {w w':World} (h:Ext r G w G' w') {vs:List V} {l:List Value} (e:kh G w vs l):kh G' w' vs l:=kh.up h.up e
theorem qkl {cs ds:List V} (h:qms cs=some ds):ds=cs/\cs.any isHole=false:=by
 unfold qms at h
 cases hc:cs.any isHole with
 | true=>rw [hc] at h;cases h
 | false=>rw [hc] at h;cases h;exact ⟨rfl,rfl⟩
def ZS (u:V):Prop:=∃ nm g off len cap,u=.slice nm g off len 0 cap
theorem qn7 {v:V}:isHole v=true↔∃ u,v=.tuple [u]/\ZS u:=by
 unfold isHole
 split
 .exact ⟨fun _=>⟨_,rfl,_,_,_,_,_,rfl⟩,fun _=>rfl⟩
 .rename_i h
  exact ⟨fun h=>(by cases h),fun ⟨u,hn,nm,g,off,len,cap,hu⟩=>(h nm g off len cap (by rw [hn,hu])).elim⟩
theorem qi7 {cs:List V} (h:∀ v ∈ cs,isHole v=false):qms cs=some cs:=by
 unfold qms
 have:cs.any isHole=false:=by
  rw [<-Bool.not_eq_true,List.any_eq_true]
  rintro ⟨v,hv,h1⟩
  rw [h v hv] at h1
  cases h1
 rw [this]
 rfl
theorem Tree.qpn {α:Type}:∀ (t:Tree α) (n m:Nat),(t.del n).get m=if m=n then none else t.get m
 | .nil,n,m=>by simp [Tree.del,Tree.get]
 | .node v l r,n,m=>by
  simp only [Tree.del,cond_eq_ite,Nat.beq_eq]
  by_cases hn:n=0
  .subst hn
   simp only [if_true,Tree.get,cond_eq_ite,Nat.beq_eq]
   by_cases hm:m=0<;>simp [hm]
  .rw [zF hn]
   by_cases hp:n % 2=1
   .rw [zT hp]
    simp only [Tree.get,cond_eq_ite,Nat.beq_eq,Tree.qpn l]
    by_cases hm:m=0
    .simp [hm,Ne.symm hn]
    .by_cases hq:m % 2=1
     .simp only [hm,if_false,hq,if_true]
      by_cases he:m=n
      .subst he;simp
      .have:¬ m / 2=n / 2:=by omega
       simp [he,this]
     .have he:m≠n:=by intro he;subst he;exact hq hp
      simp [hm,hq,he]
   .rw [zF hp]
    simp only [Tree.get,cond_eq_ite,Nat.beq_eq,Tree.qpn r]
    by_cases hm:m=0
    .simp [hm,Ne.symm hn]
    .by_cases hq:m % 2=1
     .have he:m≠n:=by intro he;subst he;exact hp hq
      simp [hm,hq,he]
     .simp only [hm,if_false,hq]
      by_cases he:m=n
      .subst he;simp
      .have:¬ m / 2-1=n / 2-1:=by omega
       simp [he,this]
theorem jf {α:Type} (src:Tree α):∀ (l:List Nat) (t:Tree α) (m:Nat),(kk src l t).get m=if m ∈ l then src.get m else t.get m
 | [],t,m=>by simp [kk]
 | n::l,t,m=>by
  simp only [kk]
  rw [jf src l]
  by_cases h:m ∈ l
  .simp [h]
  .simp only [h,if_false,zD,or_false]
   by_cases he:m=n
   .subst he
    cases hs:src.get m with
    | none=>simp [Tree.qpn]
    | some a=>simp [Tree.km]
   .rw [zF he]
    cases hs:src.get n with
    | none=>simp [Tree.qpn,he]
    | some a=>simp [Tree.km,he]
end Go.E2
/- E2's memory against the model's: what holds of every name, and how a step keeps it. -/
namespace Go.E2
open Go
def qxm (G:qi) (w:World) (t:Tree V) (arr:Array Value):Prop:=∀ k v,t.get k=some v->Rel G w v (arr.getD k undef)
def qan (G:qi) (w:World):List (V×V×Nat)->List MapEntry->Prop
 | [],l=>l=[]
 | (k,v,b)::es,l=>∃ x xs,l=x::xs/\Rel G w k x.key/\Rel G w v x.val/\x.born=b/\qan G w es xs
def qc7 (G:qi) (w:World) (nm:Nat) (o:O):Prop:=
 match o with
 | .row cells elem gen floor frz exact=>floor<=gen/\(exact=true->gen=0)/\∀ g b sh n,G nm g=some (b,sh,n)->
   g<=gen/\sh<=n/\n<=cells.length/\(g=gen->n=cells.length)/\(exact=true->sh=0)/\
   (floor<=g->∃ arr fz,w.heap[b]? = some (.cells arr elem fz)/\n-sh<=arr.size/\kh G w ((cells.take n).drop sh) (arr.toList.take (n-sh))/\
     (g=gen->∀ i,frz<=i+sh->i<fz.2->False)/\(exact=true->arr.size=cells.length))
 | .map es clock=>∀ g b sh n,G nm g=some (b,sh,n)->g=0/\∃ res,w.heap[b]? = some (.map res clock)/\qan G w es res.toList
 | .siter s pos=>∀ g b sh n,G nm g=some (b,sh,n)->g=0/\w.heap[b]? = some (.stringIter ⟨s.toArray⟩ pos)
 | .miter ..=>∀ g x,G nm g≠some x
 | .loop st pending tmps n params assign body defers=>∀ g b sh m,G nm g=some (b,sh,m)->g=0/\
   ∃ L,w.heap[b]? = some (.loop L)/\L.state=st/\L.pending=pending/\L.params.toList=params/\L.assign=assign/\L.body=body/\codeOk assign=true/\codeOk body=true/\
    L.tmps.size=n/\qxm G w tmps L.tmps/\∃ db dsh dn,G defers 0=some (db,dsh,dn)/\L.defers=db
 | .dfr=>∀ g b sh n,G nm g=some (b,sh,n)->g=0/\w.heap[b]? = some (.deferred (some []))
 | .gone=>True
structure Sim (H:Heap) (G:qi) (w:World):Prop where
 lt:∀ nm g b sh n,G nm g=some (b,sh,n)->b<w.heap.size/\nm<H.next
 inj:∀ nm g b sh n nm' g' sh' n',G nm g=some (b,sh,n)->G nm' g'=some (b,sh',n')->nm=nm'/\sh=sh'
 obj:∀ nm o,nm<H.next->H.get nm=some o->qc7 G w nm o
 ro:H.ro<=H.next
 qy:H.qy<=H.ro
 globs:∀ g o,g<H.qy->H.get g=some o->∃ n,G g 0=some (g,0,n)
theorem qxm.up {G G':qi} {w w':World} (h:Up G w G' w') {t:Tree V} {arr:Array Value} (e:qxm G w t arr):qxm G' w' t arr:=
 fun k v hv=>Rel.up h (e k v hv)
theorem qxm.ext {r:Nat} {G G':qi} {w w':World} (h:Ext r G w G' w') {t:Tree V} {arr:Array Value} (e:qxm G w t arr):qxm G' w' t arr:=e.up h.up
theorem qan.up {G G':qi} {w w':World} (h:Up G w G' w'):∀ {es:List (V×V×Nat)} {l:List MapEntry},qan G w es l->qan G' w' es l
 | [],_,e=>by simpa [qan] using e
 | (k,v,b)::es,_,e=>by
  simp only [qan] at e ⊢
  obtain ⟨x,xs,e1,e2,e3,e4,e5⟩:=e
  exact ⟨x,xs,e1,Rel.up h e2,Rel.up h e3,e4,qan.up h e5⟩
theorem qan.ext {r:Nat} {G G':qi} {w w':World} (h:Ext r G w G' w') {es:List (V×V×Nat)} {l:List MapEntry} (e:qan G w es l):qan G' w' es l:=e.up h.up
theorem qc7.up {G G':qi} {w w':World} {nm:Nat} {o:O} (h:Up G w G' w') (hG:∀ g x,G' nm g=some x->G nm g=some x)
  (hw:∀ g b sh n,G nm g=some (b,sh,n)->w'.heap[b]? = w.heap[b]?) (e:qc7 G w nm o):qc7 G' w' nm o:=by
 cases o with
 | row cells elem gen floor frz exact=>
  refine ⟨e.1,e.2.1,fun g b sh n hg=>?_⟩
  have hg':=hG _ _ hg
  obtain ⟨e1,e2,e3,e4,e4',e5⟩:=e.2.2 g b sh n hg'
  refine ⟨e1,e2,e3,e4,e4',fun hf=>?_⟩
  obtain ⟨arr,fz,a1,a2,a3,a4⟩:=e5 hf
  exact ⟨arr,fz,(hw _ _ _ _ hg').trans a1,a2,kh.up h a3,a4⟩
 | map es clock=>
  intro g b sh n hg
  have hg':=hG _ _ hg
  obtain ⟨e0,res,e1,e2⟩:=e g b sh n hg'
  exact ⟨e0,res,(hw _ _ _ _ hg').trans e1,qan.up h e2⟩
 | siter s pos=>
  intro g b sh n hg
  have hg':=hG _ _ hg
  exact ⟨(e g b sh n hg').1,(hw _ _ _ _ hg').trans (e g b sh n hg').2⟩
 | miter m a b c=>intro g x hx;exact e g x (hG _ _ hx)
 | loop st pending tmps n params assign body defers=>
  intro g b sh m hg
  have hg':=hG _ _ hg
  obtain ⟨e0,L,e1,e2,e3,e4,e5,e6,e7,e7',e8,e9,db,dsh,dn,e10,e11⟩:=e g b sh m hg'
  exact ⟨e0,L,(hw _ _ _ _ hg').trans e1,e2,e3,e4,e5,e6,e7,e7',e8,e9.up h,db,dsh,dn,h.sub _ _ _ e10,e11⟩
 | dfr=>
  intro g b sh n hg
  have hg':=hG _ _ hg
  exact ⟨(e g b sh n hg').1,(hw _ _ _ _ hg').trans (e g b sh n hg').2⟩
 | gone=>trivial
theorem qc7.ext {r:Nat} {G G':qi} {w w':World} {nm:Nat} {o:O} (h:Ext r G w G' w') (hG:∀ g x,G' nm g=some x->G nm g=some x)
  (hw:∀ g b sh n,G nm g=some (b,sh,n)->w'.heap[b]? = w.heap[b]?) (e:qc7 G w nm o):qc7 G' w' nm o:=e.up h.up hG hw
structure Step (H:Heap) (G:qi) (w:World) (H':Heap) (G':qi) (w':World):Prop where
 ext:Ext H.ro G w G' w'
 sim:Sim H' G' w'
 next:H.next<=H'.next
 ro:H'.ro=H.ro
 qy:H'.qy=H.qy
 keep:∀ nm,nm<H.ro->H'.get nm=H.get nm
 newG:∀ nm g x,G' nm g=some x->nm<H.ro->G nm g=some x
 frame:∀ nm,nm<H.next->H.get nm=none->H'.get nm=none/\(∀ g b sh n,G nm g=some (b,sh,n)->w'.heap[b]? = w.heap[b]?)/\∀ g x,G' nm g=some x->G nm g=some x
theorem Step.refl {H:Heap} {G:qi} {w:World} (h:Sim H G w):Step H G w H G w:=
 ⟨Ext.refl _ _ _,h,zN _,rfl,rfl,fun _ _=>rfl,fun _ _ _ h _=>h,fun _ _ h=>⟨h,fun _ _ _ _ _=>rfl,fun _ _ h=>h⟩⟩
theorem Step.trans {H H' H'':Heap} {G G' G'':qi} {w w' w'':World} (h:Step H G w H' G' w') (h':Step H' G' w' H'' G'' w''):Step H G w H'' G'' w'':=by
 refine ⟨h.ext.trans (h.ro ▸ h'.ext),h'.sim,zR h.next h'.next,h'.ro.trans h.ro,h'.qy.trans h.qy,fun nm hn=>?_,fun nm g x hx hn=>?_,fun nm hn h0=>?_⟩
 .rw [h'.keep nm (h.ro.symm ▸ hn),h.keep nm hn]
 .exact h.newG nm g x (h'.newG nm g x hx (h.ro.symm ▸ hn)) hn
 .obtain ⟨a1,a2,a3⟩:=h.frame nm hn h0
  obtain ⟨b1,b2,b3⟩:=h'.frame nm (zL hn h.next) a1
  exact ⟨b1,fun g b sh n hg=>(b2 g b sh n (h.ext.sub _ _ _ hg)).trans (a2 g b sh n hg),fun g x hx=>a3 g x (b3 g x hx)⟩
theorem Sim.turn {H H':Heap} {G G':qi} {w w':World} (hs:Sim H G w) (nm0:Nat) (o:O)
  (hH:∀ nm,H'.get nm=if nm=nm0 then some o else H.get nm) (hnext:H.next<=H'.next) (hnx:∀ nm,nm<H'.next->nm≠nm0->nm<H.next) (hro:H'.ro=H.ro) (hglob:H'.qy=H.qy) (hro0:H.ro<=nm0) (hn0:nm0<H'.next) (hfr:H.next<=nm0∨H.get nm0≠none)
  (hGs:∀ nm g x,G nm g=some x->G' nm g=some x) (hGn:∀ nm g x,G' nm g=some x->nm≠nm0->G nm g=some x)
  (hsize:w.heap.size<=w'.heap.size)
  (hnew:∀ g b sh n,G' nm0 g=some (b,sh,n)->b<w'.heap.size/\(w.heap.size<=b∨∃ g' n',G nm0 g'=some (b,sh,n')))
  (hone:∀ g b sh n g' sh' n',G' nm0 g=some (b,sh,n)->G' nm0 g'=some (b,sh',n')->w.heap.size<=b->sh=sh')
  (hw:∀ b,b<w.heap.size->(∀ g sh n,G nm0 g≠some (b,sh,n))->w'.heap[b]? = w.heap[b]?)
  (hshp:∀ b x,w.shape? b=some x->w'.shape? b=some x)
  (hobj:Ext H.ro G w G' w'->qc7 G' w' nm0 o) (hout:w'.os=w.os/\w'.output=w.output:=by exact ⟨rfl,rfl⟩):Step H G w H' G' w':=by
 have hfor:∀ b,b<w.heap.size->qg9 G b->qg9 G' b:=by
  intro b hb hf nm g sh n hg
  by_cases h0:nm=nm0
  .subst h0
   rcases (hnew g b sh n hg).2 with h1 | ⟨g',n',h1⟩
   .omega
   .exact hf _ _ _ _ h1
  .exact hf _ _ _ _ (hGn _ _ _ hg h0)
 have hext:Ext H.ro G w G' w':=by
  refine ⟨hGs,fun b hb hf=>⟨hw b hb (fun g sh n=>hf nm0 g sh n),hfor b hb hf⟩,hsize,hshp,fun nm g b sh n hr hg=>?_,hout⟩
  have hlt:=hs.lt nm g b sh n hg
  refine hw b hlt.1 (fun g' sh' n' h'=>?_)
  have:=(hs.inj nm g b sh n nm0 g' sh' n' hg h').1
  omega
 refine ⟨hext,⟨fun nm g b sh n hg=>?_,fun nm g b sh n nm' g' sh' n' h1 h2=>?_,fun nm o' hlt' ho=>?_,by rw [hro];exact zR hs.ro hnext,by rw [hglob,hro];exact hs.qy,fun g o' hg ho=>?_⟩,hnext,hro,hglob,fun nm hn=>?_,fun nm g x hx hn=>?_,fun nm hn hnone=>?_⟩
 .by_cases h0:nm=nm0
  .subst h0;exact ⟨(hnew g b sh n hg).1,hn0⟩
  .have:=hs.lt _ _ _ _ _ (hGn _ _ _ hg h0)
   exact ⟨zL this.1 hsize,zL this.2 hnext⟩
 .by_cases h0:nm=nm0
  .by_cases h0':nm'=nm0
   .subst h0;subst h0'
    refine ⟨rfl,?_⟩
    rcases (hnew g b sh n h1).2 with h3 | ⟨g3,n3,h3⟩
    .exact hone _ _ _ _ _ _ _ h1 h2 h3
    .rcases (hnew g' b sh' n' h2).2 with h4 | ⟨g4,n4,h4⟩
     .have:=(hs.lt _ _ _ _ _ h3).1;omega
     .exact (hs.inj _ _ _ _ _ _ _ _ _ h3 h4).2
   .exfalso
    subst h0
    have hb:=hGn _ _ _ h2 h0'
    rcases (hnew g b sh n h1).2 with h3 | ⟨g3,n3,h3⟩
    .have:=(hs.lt _ _ _ _ _ hb).1;omega
    .exact h0' (hs.inj _ _ _ _ _ _ _ _ _ hb h3).1
  .by_cases h0':nm'=nm0
   .exfalso
    subst h0'
    have hb:=hGn _ _ _ h1 h0
    rcases (hnew g' b sh' n' h2).2 with h3 | ⟨g3,n3,h3⟩
    .have:=(hs.lt _ _ _ _ _ hb).1;omega
    .exact h0 (hs.inj _ _ _ _ _ _ _ _ _ hb h3).1
   .exact hs.inj _ _ _ _ _ _ _ _ _ (hGn _ _ _ h1 h0) (hGn _ _ _ h2 h0')
 .rw [hH] at ho
  by_cases h0:nm=nm0
  .subst h0
   rw [zT rfl] at ho
   cases ho
   exact hobj hext
  .rw [zF h0] at ho
   refine (hs.obj nm o' (hnx nm hlt' h0) ho).ext hext (fun g x hx=>hGn _ _ _ hx h0) (fun g b sh n hg=>?_)
   exact hw b (hs.lt _ _ _ _ _ hg).1 (fun g' sh' n' h'=>h0 (hs.inj _ _ _ _ _ _ _ _ _ hg h').1)
 .rw [hglob] at hg
  have:=hs.qy
  rw [hH,zF (by omega)] at ho
  obtain ⟨n,hn⟩:=hs.globs g o' hg ho
  exact ⟨n,hGs _ _ _ hn⟩
 .rw [hH,zF (by omega)]
 .exact hGn _ _ _ hx (by omega)
 .have h0:nm≠nm0:=by
   intro h0
   subst h0
   rcases hfr with h1 | h1
   .omega
   .exact h1 hnone
  refine ⟨by rw [hH,zF h0];exact hnone,fun g b sh n hg=>?_,fun g x hx=>hGn _ _ _ hx h0⟩
  exact hw b (hs.lt _ _ _ _ _ hg).1 (fun g' sh' n' h'=>h0 (hs.inj _ _ _ _ _ _ _ _ _ hg h').1)
def qfv (G:qi) (nm g:Nat) (x:Nat×Nat×Nat):qi:=fun nm' g'=>if nm'=nm/\g'=g then some x else G nm' g'
theorem qc2 (G:qi) (nm g:Nat) (x):qfv G nm g x nm g=some x:=by simp [qfv]
def push (w:World) (o:Obj):World:={w with heap:=w.heap.push o}
theorem qbm (w:World) (o:Obj):(push w o).heap[w.heap.size]? = some o:=Array.getElem?_push_size
theorem size_push (w:World) (o:Obj):(push w o).heap.size=w.heap.size+1:=Array.size_push _
theorem qw3 {w:World} {o:Obj} {b:Nat} {x} (h:w.shape? b=some x):(push w o).shape? b=some x:=by
 unfold World.shape? at *
 simp only [push]
 by_cases hb:b<w.heap.size
 .rw [Array.getElem?_push_lt hb,<-Array.getElem?_eq_getElem hb];exact h
 .rw [Array.getElem?_eq_none (by omega)] at h;simp at h
theorem qkc {w:World} {o:Obj} {b:Nat} (hb:b<w.heap.size):(push w o).heap[b]? = w.heap[b]?:=by
 simp only [push]
 rw [Array.getElem?_push_lt hb,<-Array.getElem?_eq_getElem hb]
theorem Heap.zk9 (H:Heap) (o:O) (nm:Nat):(H.new o).get nm=if nm=H.next then some o else H.get nm:=by
 simp only [Heap.get,Heap.new,Tree.km]
theorem Sim.fresh {H:Heap} {G:qi} {w:World} (hs:Sim H G w) (g:Nat):G H.next g=none:=by
 cases h:G H.next g with
 | none=>rfl
 | some x=>have:=(hs.lt _ _ _ _ _ h).2;omega
theorem Sim.new {H:Heap} {G:qi} {w:World} (hs:Sim H G w) (o:O) (ob:Obj) (n:Nat)
  (hobj:Ext H.ro G w (qfv G H.next 0 (w.heap.size,0,n)) (push w ob)->qc7 (qfv G H.next 0 (w.heap.size,0,n)) (push w ob) H.next o) :
  Step H G w (H.new o) (qfv G H.next 0 (w.heap.size,0,n)) (push w ob):=by
 refine hs.turn H.next o (Heap.zk9 H o) (by simp [Heap.new]) (fun nm h1 h2=>by simp only [Heap.new] at h1;omega) rfl rfl hs.ro (by simp [Heap.new]) (.inl (zN _)) (fun nm g x hx=>?_) (fun nm g x hx h0=>?_) (by simp [size_push])
  (fun g b sh m hg=>?_) (fun g b sh m g' sh' m' h1 h2 _=>?_) (fun b hb _=>qkc hb) (fun b x h=>qw3 h) hobj
 .simp only [qfv]
  by_cases h:nm=H.next/\g=0
  .rw [h.1,hs.fresh] at hx;simp at hx
  .rw [zF h];exact hx
 .simp only [qfv] at hx
  rw [zF (by omega)] at hx
  exact hx
 .simp only [qfv] at hg
  by_cases h:g=0
  .rw [zT ⟨trivial,h⟩] at hg
   cases hg
   exact ⟨by simp [size_push],.inl (zN _)⟩
  .rw [zF (fun x=>h x.2),hs.fresh] at hg;simp at hg
 .simp only [qfv] at h1 h2
  by_cases h:g=0
  .by_cases h':g'=0
   .rw [zT ⟨trivial,h⟩] at h1
    rw [zT ⟨trivial,h'⟩] at h2
    cases h1;cases h2;rfl
   .rw [zF (fun x=>h' x.2),hs.fresh] at h2;simp at h2
  .rw [zF (fun x=>h x.2),hs.fresh] at h1;simp at h1
def qjv (w:World) (b:Nat) (ob:Obj):World:={w with heap:=w.heap.setIfInBounds b ob}
theorem qic {w:World} {b:Nat} {ob ob':Obj} (h:w.heap[b]? = some ob):(qjv w b ob').heap[b]? = some ob':=by
 have hb:b<w.heap.size:=by rw [Array.getElem?_eq_some_iff] at h;exact h.1
 simp only [qjv]
 exact Array.getElem?_setIfInBounds_self_of_lt hb
theorem qpq {w:World} {b b':Nat} {ob:Obj} (h:b'≠b):(qjv w b ob).heap[b']? = w.heap[b']?:=by
 simp only [qjv]
 exact Array.getElem?_setIfInBounds_ne (Ne.symm h)
theorem Sim.setObj {H:Heap} {G:qi} {w:World} (hs:Sim H G w) {nm b sh n:Nat} {o:O} (o':O) (ho:H.get nm=some o) (hg:G nm 0=some (b,sh,n)) (hro:H.ro<=nm) {ob:Obj} (ob':Obj) (hb:w.heap[b]? = some ob)
  (hnc:w.shape? b=none) (hobj:Ext H.ro G w G (qjv w b ob')->qc7 G (qjv w b ob') nm o') :
  Step H G w {H with qa6:=H.qa6.set nm o'} G (qjv w b ob'):=by
 have hsz:(qjv w b ob').heap.size=w.heap.size:=by simp [qjv]
 refine hs.turn nm o' (fun m=>by simp only [Heap.get,Tree.km]) (zN _) (fun _ h _=>h) rfl rfl hro (hs.lt _ _ _ _ _ hg).2 (.inr (by rw [ho];simp)) (fun _ _ _ h=>h) (fun _ _ _ h _=>h) (by rw [hsz];exact zN _)
  (fun g' b' sh' n' hg'=>⟨by rw [hsz];exact (hs.lt _ _ _ _ _ hg').1,.inr ⟨_,_,hg'⟩⟩) (fun _ _ _ _ _ _ _ h1 h2 _=>(hs.inj _ _ _ _ _ _ _ _ _ h1 h2).2) (fun b' _ hne=>qpq (fun e=>hne 0 sh n (e ▸ hg))) (fun b' x hx=>?_) hobj
 by_cases hbb:b'=b
 .subst hbb
  rw [hnc] at hx
  cases hx
 .simp only [World.shape?,qpq hbb] at hx ⊢
  exact hx
end Go.E2
/- E2's reads and writes of cells against the model's. -/
namespace Go.E2
open Go
theorem qfs {α:Type} (l:List α) (n o s:Nat) (h:o+s<=n):((l.take n).drop o).take s=(l.drop o).take s:=by
 rw [List.drop_take,List.take_take,Nat.min_eq_left (by omega)]
theorem qec (b o j:Nat):(⟨b,o,none⟩:Addr).add j=⟨b,o+j,none⟩:=by unfold Addr.add;split<;>simp_all
theorem Rel.j7 {G:qi} {w:World} {v:V} {x:Value} (h:Rel G w v x):x.oneCell'=v.j7:=by
 cases v<;>simp only [Rel] at h<;>first
  | (subst h;rfl)
  | (obtain ⟨a,rfl,h2⟩:=h;rfl)
  | (obtain ⟨b,sh,n,h1,h2,h3,rfl⟩:=h;rfl)
  | (obtain ⟨b,sh,n,ro,c,e,m,ad,h1,rfl,h2⟩:=h;rfl)
  | (obtain ⟨b,o,c,arr,e,fz,rfl,h2⟩:=h;rfl)
  | (obtain ⟨b,o,arr,e,fz,rfl,h2⟩:=h;rfl)
  | (obtain ⟨a,b,c,rfl,h2⟩:=h;rfl)
  | (obtain ⟨b,sh,n,h1,rfl⟩:=h;rfl)
theorem qm.j7 {G:qi} {w:World}:∀ {vs:List V} {l:List Value},qm G w vs l->vs.all V.j7=true->∀ x ∈ l,x.oneCell'=true
 | [],_,h,_,x,hx=>by simp [qm] at h;simp [h] at hx
 | v::vs,_,h,ha,x,hx=>by
  simp only [qm] at h
  obtain ⟨y,ys,rfl,h1,h2⟩:=h
  simp only [List.all_cons,zA] at ha
  rcases zD.1 hx with rfl | hx
  .rw [h1.j7];exact ha.1
  .exact qm.j7 h2 ha.2 x hx
def Holds (w:World) (a:Addr) (l:List Value):Prop:=∀ j v,l[j]? = some v->w.cell? (a.add j)=some v
theorem Holds.of_heap {w w':World} {a:Addr} {l:List Value} (h:Holds w a l) (e:w'.heap=w.heap):Holds w' a l:=by
 intro j v hj
 have:=h j v hj
 simpa only [World.cell?,e] using this
theorem Holds.run {w:World} {a:Addr} {l:List Value} (h:Holds w a l) (P:Program):(loadCells a l.length).run P w=.ok l.toArray w:=
 run_loadCells_list w a l h
theorem q46 {w:World} {b:Nat} {arr:Array Value} {e:TypeId} {fz:Nat×Nat} (h:w.heap[b]? = some (.cells arr e fz)) (o s:Nat):Holds w ⟨b,o,none⟩ ((arr.toList.drop o).take s):=by
 intro j v hj
 rw [qec]
 simp only [World.cell?,h,Option.isSome_none,Bool.false_eq_true,if_false]
 rw [List.getElem?_take] at hj
 split at hj
 .rw [List.getElem?_drop] at hj;simpa using hj
 .cases hj
theorem qd8 (P:Program) (g o:Nat) (t:TypeId) (fz:Nat×Nat):∀ (vs:List Value) (i:Nat) (cur:Array Value) (w:World),w.heap[g]? = some (.cells cur t fz)->
  (∀ j,o+i<=j->fz.1<=j->j<fz.2->False)->o+i+vs.length<=cur.size->(∀ v ∈ vs,v.oneCell'=true)->
  (storeCells ⟨g,o,none⟩ vs i).run P w=.ok () (w.setRow g (cur.toList.take (o+i)++vs++cur.toList.drop (o+i+vs.length)).toArray)
 | [],i,cur,w,hg,_,_,_=>by
  simp only [storeCells,zJ,List.length_nil,Nat.add_zero,List.take_append_drop,Array.toArray_toList]
  rw [setRow_self w g cur t fz hg]
  rfl
 | v::rest,i,cur,w,hg,hfz,hl,h1=>by
  have hi:o+i<cur.size:=by simp at hl;omega
  have hcell:w.cell? ⟨g,o+i,none⟩=some cur[o+i]:=by simp [World.cell?,hg,hi]
  have hfro:w.frozen? ⟨g,o+i,none⟩=false:=by
   obtain ⟨lo,hi'⟩:=fz
   simp only [World.frozen?,hg,Bool.and_eq_false_iff,decide_eq_false_iff_not]
   have:=hfz (o+i) (zN _)
   by_cases h1:lo<=o+i
   .exact .inr (this h1)
   .exact .inl h1
  have hst:(store ((⟨g,o,none⟩:Addr).add i) v).run P w=.ok () (w.setRow g (cur.setIfInBounds (o+i) v)):=by
   rw [qec,run_store P w _ v _ (h1 v (by simp)),hcell]
   simp [hfro,setCell_eq_setRow w g (o+i) cur t fz v hg]
  have ih:=qd8 P g o t fz rest (i+1) (cur.setIfInBounds (o+i) v) (w.setRow g (cur.setIfInBounds (o+i) v)) (setRow_heap w g cur _ t _ hg) (fun j hj=>hfz j (by omega)) (by simp at hl ⊢;omega) (fun x hx=>h1 x (by simp [hx]))
  simp only [storeCells,Sem.run_bind,hst,Result.andThen_ok,ih,setRow_setRow]
  congr 3
  have e:=list_seg_step cur.toList (o+i) v rest (by simp at hl ⊢;omega)
  simpa [Array.toList_setIfInBounds,Nat.add_assoc] using e
theorem qya {H:Heap} {G:qi} {w:World} (hs:Sim H G w) {nm g off lim size:Nat} {rp:Value} (hp:Rel G w (.ptr nm g off lim) rp) {cells:List V} {elem:TypeId} {gen floor frz:Nat} {exact:Bool} (ho:H.get nm=some (.row cells elem gen floor frz exact))
  (hf:floor<=g) (c1:off+size<=lim) (c2:lim<=cells.length):∃ a l,rp=.pointer (some a)/\Holds w a l/\kh G w ((cells.drop off).take size) l/\((cells.drop off).take size).length=size:=by
 simp only [Rel] at hp
 obtain ⟨b,sh,n,hg,h1,h2,rfl⟩:=hp
 have hob:=hs.obj nm _ (hs.lt _ _ _ _ _ hg).2 ho
 obtain ⟨q1,q0,q2⟩:=hob
 obtain ⟨r1,r2,r3,r4,r4',r5⟩:=q2 g b sh n hg
 obtain ⟨arr,fz,a1,a2,a3,a4⟩:=r5 hf
 refine ⟨_,_,rfl,q46 a1 (off-sh) size,?_,by simp;omega⟩
 have:=(a3.drop (off-sh)).take size
 rw [List.drop_drop,show sh+(off-sh)=off by omega,qfs _ _ _ _ (by omega),qfs _ _ _ _ (by omega)] at this
 exact this
theorem qgz {H:Heap} {G:qi} {w:World} (hs:Sim H G w) {p:V} {rp:Value} (hp:Rel G w p rp) {size:Nat} {cs:List V} (h:jk H size p=some cs) :
  ∃ a l,rp=.pointer (some a)/\Holds w a l/\qm G w cs l/\cs.length=size:=by
 cases p with
 | ptr nm g off lim=>
  simp only [Rel] at hp
  obtain ⟨b,sh,n,hg,h1,h2,rfl⟩:=hp
  simp only [jk] at h
  split at h
  .rename_i cells elem gen floor frz exact ho
   have hob:=hs.obj nm _ (hs.lt _ _ _ _ _ hg).2 ho
   obtain ⟨q1,q0,q2⟩:=hob
   obtain ⟨r1,r2,r3,r4,r4',r5⟩:=q2 g b sh n hg
   simp only [cond_eq_ite,zA,Nat.ble_eq] at h
   split at h
   .rename_i hc
    obtain ⟨rfl,hno⟩:=qkl h
    obtain ⟨arr,fz,a1,a2,a3,a4⟩:=r5 hc.1.1
    refine ⟨_,_,rfl,q46 a1 (off-sh) size,?_,by simp;omega⟩
    have:=(a3.drop (off-sh)).take size
    rw [List.drop_drop,show sh+(off-sh)=off by omega,qfs _ _ _ _ (by omega),qfs _ _ _ _ (by omega)] at this
    exact this.l hno
   .cases h
  .cases h
 | _=>simp [jk] at h
theorem qft {H H':Heap} {n:Nat} {o:O} (h:H.upd n o=some H'):H.ro<=n/\H' = {H with qa6:=H.qa6.set n o}:=by
 simp only [Heap.upd,cond_eq_ite,Nat.blt_eq] at h
 split at h
 .cases h
 .cases h;exact ⟨by omega,rfl⟩
theorem qtk {H:Heap} {n:Nat} {o:O} (nm:Nat):({H with qa6:=H.qa6.set n o}:Heap).get nm=if nm=n then some o else H.get nm:=by
 simp only [Heap.get,Tree.km]
theorem qdl {w:World} {g b:Nat} {c:Array Value} (h:b≠g):(w.setRow g c).heap[b]? = w.heap[b]?:=by
 unfold World.setRow
 simp only [Array.getElem?_modify]
 rw [zF (fun e=>h e.symm)]
theorem qc1 {cs vs:List V} {off:Nat} (h:off+vs.length<=cs.length):(setCells cs off vs).length=cs.length:=by
 simp [setCells];omega
theorem qyb (cs vs:List V) (off sh:Nat) (h1:sh<=off) (h2:off+vs.length<=cs.length) :
  (setCells cs off vs).drop sh=(cs.drop sh).take (off-sh)++vs++(cs.drop sh).drop (off-sh+vs.length):=by
 unfold setCells
 rw [List.append_assoc,List.drop_append_of_le_length (by simp;omega),List.drop_drop,show sh+(off-sh+vs.length)=off+vs.length by omega,List.append_assoc,List.drop_take]
theorem qx1 {α:Type} (l x:List α) (o n:Nat) (h1:o+x.length<=n) (h2:n<=l.length) :
  (l.take o++x++l.drop (o+x.length)).take n=(l.take n).take o++x++(l.take n).drop (o+x.length):=by
 rw [List.take_append,List.take_append,List.take_take,List.take_take]
 simp only [List.length_append,List.length_take]
 rw [Nat.min_eq_left (by omega:o<=l.length),Nat.min_comm n o,List.take_of_length_le (l:=x) (by omega),List.drop_take]
theorem Sim.store {H:Heap} {G:qi} {w:World} (hs:Sim H G w) {nm g b sh n off:Nat} {cells:List V} {elem:TypeId} {floor frz:Nat} {exact:Bool}
  (ho:H.get nm=some (.row cells elem g floor frz exact)) (hg:G nm g=some (b,sh,n)) {vs:List V} {l:List Value} (hv:qm G w vs l)
  (h1:sh<=off) (h2:off+vs.length<=cells.length) (hro:H.ro<=nm)
  {arr:Array Value} {fz:Nat×Nat} (a1:w.heap[b]? = some (.cells arr elem fz)) (arr':Array Value)
  (harr':arr'.toList=arr.toList.take (off-sh)++l++arr.toList.drop (off-sh+l.length)) (hsz2:arr'.size=arr.size) :
  Step H G w {H with qa6:=H.qa6.set nm (.row (setCells cells off vs) elem g g frz exact)} G (w.setRow b arr'):=by
 obtain ⟨q1,q0,q2⟩:=hs.obj nm _ (hs.lt _ _ _ _ _ hg).2 ho
 obtain ⟨r1,r2,r3,r4,r4',r5⟩:=q2 g b sh n hg
 obtain ⟨arr0,fz0,a1',a2,a3,a4,a5⟩:=r5 q1
 rw [a1] at a1'
 cases a1'
 have hn:=r4 rfl
 have hlen:=hv.length
 have hb:b<w.heap.size:=(hs.lt _ _ _ _ _ hg).1
 have hsz:(w.setRow b arr').heap.size=w.heap.size:=by unfold World.setRow;simp
 have hrow:=setRow_heap w b arr arr' elem fz a1
 refine hs.turn nm (.row (setCells cells off vs) elem g g frz exact) (fun m=>qtk m) (zN _) (fun _ h _=>h) rfl rfl hro (hs.lt _ _ _ _ _ hg).2 (.inr (by rw [ho];simp)) (fun _ _ _ h=>h) (fun _ _ _ h _=>h) (by rw [hsz];exact zN _)
  (fun g' b' sh' n' hg'=>⟨by rw [hsz];exact (hs.lt _ _ _ _ _ hg').1,.inr ⟨_,_,hg'⟩⟩) (fun _ _ _ _ _ _ _ h1 h2 _=>(hs.inj _ _ _ _ _ _ _ _ _ h1 h2).2) (fun b' hb' hne=>qdl (fun e=>hne g sh n (e ▸ hg))) ?_ ?_
 .intro b' x hx
  by_cases hbb:b'=b
  .subst hbb
   simp only [World.shape?,a1,hrow,hsz2] at hx ⊢
   exact hx
  .simp only [World.shape?,qdl hbb] at hx ⊢;exact hx
 .intro hext
  refine ⟨zN _,q0,fun g' b' sh' n' hg'=>?_⟩
  obtain ⟨s1,s2,s3,s4,s4',s5⟩:=q2 g' b' sh' n' hg'
  refine ⟨s1,s2,by rw [qc1 h2];exact s3,fun e=>by rw [qc1 h2];exact s4 e,s4',fun hfl=>?_⟩
  have hgg:g'=g:=Nat.le_antisymm s1 hfl
  subst hgg
  rw [hg] at hg';cases hg'
  refine ⟨arr',fz,hrow,by rw [hsz2];exact a2,?_,a4,fun hx=>by rw [hsz2,qc1 h2];exact a5 hx⟩
  rw [List.take_of_length_le (by rw [qc1 h2];omega),qyb _ _ _ _ h1 h2,harr',qx1 _ _ _ _ (by omega) (by simpa using a2),hlen]
  rw [List.take_of_length_le (by omega)] at a3
  exact kh.append (kh.append (kh.ext hext (a3.take _)) (qm.ext hext hv).c) (kh.ext hext (a3.drop _))
theorem qd3 {H H':Heap} {G:qi} {w:World} (hs:Sim H G w) {p:V} {rp:Value} (hp:Rel G w p rp) {vs:List V} {l:List Value} (hv:qm G w vs l)
  (h:j3 H vs p=some H') (P:Program) :
  ∃ a w',rp=.pointer (some a)/\(storeCells a l).run P w=.ok () w'/\Step H G w H' G w':=by
 cases p with
 | ptr nm g off lim=>
  simp only [Rel] at hp
  obtain ⟨b,sh,n,hg,h1,h2,rfl⟩:=hp
  simp only [j3] at h
  split at h
  .rename_i cells elem gen floor frz exact ho
   obtain ⟨q1,q0,q2⟩:=hs.obj nm _ (hs.lt _ _ _ _ _ hg).2 ho
   obtain ⟨r1,r2,r3,r4,r4',r5⟩:=q2 g b sh n hg
   simp only [cond_eq_ite,zA,Nat.ble_eq,Nat.beq_eq] at h
   split at h
   .rename_i hc
    obtain ⟨⟨⟨⟨c1,c2⟩,c3⟩,c4⟩,c5⟩:=hc
    subst c1
    obtain ⟨arr,fz,a1,a2,a3,a4,a5⟩:=r5 q1
    have hn:=r4 rfl
    obtain ⟨u1,rfl⟩:=qft h
    have hlen:=hv.length
    have hst:=qd8 P b (off-sh) elem fz l 0 arr w a1 (fun j hj _ f2=>a4 rfl j (by omega) f2) (by omega) (qm.j7 hv c5)
    simp only [Nat.add_zero] at hst
    exact ⟨_,_,rfl,hst,hs.store ho hg hv h1 (by omega) u1 a1 _ rfl (by simp;omega)⟩
   .cases h
  .cases h
 | _=>simp [j3] at h
end Go.E2
/- E2: new rows, loads, stores, appends against the model's. -/
namespace Go.E2
open Go
mutual
theorem qh2 (G:qi) (w:World):∀ (n:Nat) (v:Value) (x:V),qk5 n v=some x->Rel G w x v
 | 0,_,_,h=>by simp [qk5] at h
 | n+1,v,x,h=>by
  unfold qk5 at h
  split at h<;>try (cases h;done)
  all_goals try (cases h;simp [Rel];done)
  .simp only [zI,zM] at h
   obtain ⟨a,h1,c,h2,rfl⟩:=h
   simp only [Rel,qgo]
   exact ⟨_,_,_,rfl,rfl,qh1 G w n _ _ h1,qh1 G w n _ _ h2⟩
  .simp only [zM] at h
   obtain ⟨y,h1,rfl⟩:=h
   simp only [Rel]
   exact ⟨_,rfl,qh2 G w n _ _ h1⟩
  .simp only [zM] at h
   obtain ⟨y,h1,rfl⟩:=h
   simp only [Rel]
   exact ⟨_,rfl,qh1 G w n _ _ h1⟩
  .simp only [zM] at h
   obtain ⟨y,h1,rfl⟩:=h
   simp only [Rel]
   exact ⟨_,rfl,qh1 G w n _ _ h1⟩
theorem qh1 (G:qi) (w:World):∀ (n:Nat) (l:List Value) (x:List V),q3q n l=some x->qm G w x l
 | 0,_,_,h=>by simp [q3q] at h
 | n+1,l,x,h=>by
  unfold q3q at h
  split at h
  .cases h;exact qm.nil
  .simp only [zI,zM] at h
   obtain ⟨a,h1,c,h2,rfl⟩:=h
   exact qm.cons (qh2 G w n _ _ h1) (qh1 G w n _ _ h2)
end
theorem qct {G:qi} {w:World} {v:V} {x:Value} (h:Rel G w v x):qm G w v.cells x.cells.toList:=by
 cases v with
 | agg cs=>
  simp only [Rel] at h
  obtain ⟨a,rfl,h2⟩:=h
  simpa [V.cells,Value.cells] using h2
 | _=>
  have hx:x.cells = #[x]:=by
   have:=h.j7
   cases x with
   | agg a=>
    exfalso
    first
     | (simp only [V.j7,Value.oneCell',reduceCtorEq] at this;done)
     | (simp only [Rel] at h;obtain ⟨a,h1,h2⟩:=h;cases h1;done)
   | _=>rfl
  rw [hx]
  simp only [V.cells]
  exact qm.cons h qm.nil
theorem qj {P:Program} {t:Nat} {ti:TI} (h:typeOf P t=some ti) :
  P.underlying t=some ti.under/\ti.isAgg=zgv ti.under/\∃ i z,P.info? t=some i/\i.size=ti.size/\i.bytes=ti.bytes/\i.zero=some z/\qk5 1000 z=some ti.zero/\
   ti.zero.cells.length=ti.size/\z.cells.size=ti.size:=by
 unfold typeOf at h
 split at h
 .rename_i i u hi hu
  simp only [zI,cond_eq_ite,Nat.beq_eq] at h
  obtain ⟨z,⟨z',h1,h2⟩,h3⟩:=h
  split at h3
  .rename_i hc
   cases h3
   refine ⟨hu,rfl,i,z',hi,rfl,rfl,h1,h2,hc,?_⟩
   have:=(qct (qh2 (fun _ _=>none) default _ _ _ h2)).length
   simpa [hc] using this.symm
  .cases h3
 .cases h
section
variable {P:Program}
theorem zx {t:Nat} {ti:TI} (h:typeOf P t=some ti) (w:World):(sizeOf t).run P w=.ok ti.size w:=by
 obtain ⟨_,_,i,z,hi,hs,_⟩:=qj h
 simp [sizeOf,typeInfo,hi,hs]
theorem qa4 {t:Nat} {ti:TI} (h:typeOf P t=some ti) (w:World):∃ z,(zeroValue t).run P w=.ok z w/\(P.info? t).bind (·.zero)=some z/\∀ G w,Rel G w ti.zero z:=by
 obtain ⟨_,_,i,z,hi,_,_,hz,ha,_⟩:=qj h
 exact ⟨z,by simp [zeroValue,typeInfo,hi,hz],by simp [hi,hz],fun G w=>qh2 G w _ _ _ ha⟩
theorem qoh {t:Nat} {ti:TI} (h:typeOf P t=some ti) (w:World):(isAgg t).run P w=.ok ti.isAgg w:=by
 obtain ⟨hu,ha,_⟩:=qj h
 simp only [isAgg,Sem.run_bind,run_underlying hu,Result.andThen_ok,ha]
 cases ti.under<;>rfl
theorem Step.same {H:Heap} {G:qi} {w w':World} (h:Sim H G w) (e:w'.heap=w.heap) (eo:w'.os=w.os/\w'.output=w.output):Step H G w H G w':=by
 have hext:Ext H.ro G w G w':=⟨fun _ _ _ h=>h,fun b _ hf=>⟨by rw [e],hf⟩,by rw [e];exact zN _,fun b x hx=>by simpa only [World.shape?,e] using hx,fun _ _ _ _ _ _ _=>by rw [e],eo⟩
 refine ⟨hext,⟨fun nm g b sh n hg=>by rw [e];exact h.lt nm g b sh n hg,h.inj,fun nm o hl ho=>(h.obj nm o hl ho).ext hext (fun _ _ h=>h) (fun _ _ _ _ _=>by rw [e]),h.ro,h.qy,h.globs⟩,zN _,rfl,rfl,fun _ _=>rfl,fun _ _ _ h _=>h,fun _ _ h=>⟨h,fun _ _ _ _ _=>by rw [e],fun _ _ h=>h⟩⟩
theorem Rel.same {G:qi} {w w':World} (e:w'.heap=w.heap) {v:V} {x:Value} (h:Rel G w v x):Rel G w' v x:=
 Rel.up ⟨fun _ _ _ h=>h,fun b x hx=>by simpa only [World.shape?,e] using hx⟩ h
theorem qm.same {G:qi} {w w':World} (e:w'.heap=w.heap) {v:List V} {x:List Value} (h:qm G w v x):qm G w' v x:=
 qm.up ⟨fun _ _ _ h=>h,fun b x hx=>by simpa only [World.shape?,e] using hx⟩ h
theorem kh.same {G:qi} {w w':World} (e:w'.heap=w.heap) {v:List V} {x:List Value} (h:kh G w v x):kh G w' v x:=
 kh.up ⟨fun _ _ _ h=>h,fun b x hx=>by simpa only [World.shape?,e] using hx⟩ h
theorem Sim.newRow {H:Heap} {G:qi} {w:World} (hs:Sim H G w) {cells:List V} {l:List Value} (hc:qm G w cells l) (rest:List Value) (elem:TypeId) (exact:Bool) (hx:exact=true->rest=[]) :
  Step H G w (H.new (.row cells elem 0 0 0 exact)) (qfv G H.next 0 (w.heap.size,0,cells.length)) (push w (.cells (l++rest).toArray elem)):=by
 refine hs.new _ _ _ (fun hext=>?_)
 refine ⟨zN _,fun _=>rfl,fun g b sh n hg=>?_⟩
 simp only [qfv] at hg
 by_cases h:g=0
 .rw [zT ⟨trivial,h⟩] at hg
  cases hg
  subst h
  have hl:=hc.length
  refine ⟨zN _,Nat.zero_le _,zN _,fun _=>rfl,fun _=>rfl,fun _=>⟨(l++rest).toArray,(0,0),qbm _ _,by simp;omega,?_,fun _ i _ h2=>by simp at h2,fun e=>by simp [hx e,hl]⟩⟩
  have:(l++rest).toArray.toList.take (cells.length-0)=l:=by simp [hl]
  rw [this]
  simpa using (qm.ext hext hc).c
 .rw [zF (fun x=>h x.2),hs.fresh] at hg;simp at hg
theorem qww {G:qi} {nm b n:Nat} {w':World}:Rel (qfv G nm 0 (b,0,n)) w' (.ptr nm 0 0 n) (.pointer (some ⟨b,0,none⟩)):=by
 simp only [Rel]
 exact ⟨b,0,n,qc2 _ _ _ _,zN _,zN _,rfl⟩
theorem qm0 {w:World} {arr:Array Value} {e:TypeId}:(push w (.cells arr e)).shape? w.heap.size=some (e,arr.size):=by
 simp only [World.shape?,qbm]
theorem qig {H:Heap} {G:qi} {w:World} (hs:Sim H G w) {t:Nat} {ti:TI} (ht:typeOf P t=some ti) {p v:V} {rp:Value} (hp:Rel G w p rp) (h:qg3 H ti p=some v) :
  ∃ x a,rp=.pointer (some a)/\(loadVar t a).run P w=.ok x w/\Rel G w v x:=by
 simp only [qg3,zI] at h
 obtain ⟨cs,h1,h2⟩:=h
 obtain ⟨a,l,rfl,hh,hr,hl⟩:=qgz hs hp h1
 have hl':=hr.length
 simp only [loadVar,Sem.run_bind,qoh ht,Result.andThen_ok]
 cases hagg:ti.isAgg with
 | true=>
  simp only [hagg,zO,zS] at h2
  subst h2
  have hrun:=hh.run P
  rw [<-hl',hl] at hrun
  refine ⟨.agg l.toArray,a,rfl,by simp [zx ht,hrun],?_⟩
  simp only [Rel]
  exact ⟨_,rfl,by simpa using hr⟩
 | false=>
  simp only [hagg,zQ] at h2
  split at h2
  .rename_i u
   cases h2
   have h1':=hr.length
   match l,hr,hh,h1' with
   | [x],hr,hh,_=>
    rw [qm.q33] at hr
    have hc:=hh 0 x rfl
    simp only [Addr.add_zero'] at hc
    refine ⟨x,a,rfl,?_,hr.1⟩
    simp only [Bool.false_eq_true,if_false]
    rw [run_load,hc]
  .cases h2
theorem q6k {H H':Heap} {G:qi} {w:World} (hs:Sim H G w) {t:Nat} {ti:TI} (ht:typeOf P t=some ti) {p v:V} {rp x:Value} (hp:Rel G w p rp) (hv:Rel G w v x) (h:qjj H ti p v=some H') :
  ∃ a w',rp=.pointer (some a)/\(storeVar t a x).run P w=.ok () w'/\Step H G w H' G w':=by
 simp only [qjj,cond_eq_ite,Nat.beq_eq] at h
 split at h
 .rename_i hc
  have hcell:=qct hv
  obtain ⟨a,w',rfl,hst,hstep⟩:=qd3 hs hp hcell h P
  have hl:=hcell.length
  simp only [Array.length_toList] at hl
  refine ⟨a,w',rfl,?_,hstep⟩
  simp [storeVar,zx ht,<-hl,hc,hst]
 .cases h
end
end Go.E2
/- E2: append against the model's. -/
namespace Go.E2
open Go
section
variable {P:Program}
theorem q1c {H:Heap} {G:qi} {w:World} (hs:Sim H G w) {sz n:Nat} {x:V} {rx:Value} {cs:List V} (hx:Rel G w x rx) (h:qbu H sz x=some (n,cs)) :
  ∃ l,qm G w cs l/\cs.length=n * sz/\∀ w',w'.heap=w.heap->(Builtin.lenOf rx).run P w'=.ok n w'/\(Builtin.firstCells sz n rx).run P w'=.ok l.toArray w':=by
 cases x with
 | nils=>
  simp only [qbu,zS,zP] at h
  obtain ⟨rfl,rfl⟩:=h
  simp only [Rel] at hx
  subst hx
  exact ⟨[],qm.nil,by simp,fun w' _=>⟨by simp [Builtin.lenOf],by simp [Builtin.firstCells]⟩⟩
 | slice nm g off len sz' cap=>
  simp only [qbu,cond_eq_ite,Nat.beq_eq] at h
  split at h
  .rename_i hsz
   subst hsz
   simp only [zM,zP] at h
   obtain ⟨cs',h1,rfl,rfl⟩:=h
   simp only [Rel] at hx
   obtain ⟨b,sh,m,ro,c,e,mm,ad,e1,rfl,e0,e2,e3,e4,e5,e6,e7,e8⟩:=hx
   have hp:Rel G w (.ptr nm g off (off+len * sz)) (.pointer (some ⟨b,off-sh,none⟩)):=by
    simp only [Rel];exact ⟨b,sh,m,e1,e3,e4,rfl⟩
   obtain ⟨a,l,ha,hh,hr,hl⟩:=qgz hs hp h1
   cases ha
   have hl':=hr.length
   refine ⟨l,hr,hl,fun w' hw'=>⟨by simp [Builtin.lenOf],?_⟩⟩
   simp only [Builtin.firstCells]
   have e5:(ro+sh=off/\ad=⟨b,ro,none⟩)∨c=0:=by
    rcases e5 with e5 | e5
    .rcases e0 with e0 | e0
     .exact .inr e0
     .exact .inl ⟨e5,e0⟩
    .exact .inr e5
   rcases e5 with ⟨e5,rfl⟩ | e5
   .have:ro=off-sh:=by omega
    subst this
    have hrun:=(hh.of_heap hw').run P
    rw [<-hl',hl] at hrun
    exact hrun
   .have h0:len=0:=by omega
    subst h0
    simp only [Nat.zero_mul] at hl
    have:l=[]:=List.length_eq_zero_iff.1 (by omega)
    subst this
    simp [loadCells,loadCellsFrom]
  .cases h
 | str s=>
  simp only [qbu,cond_eq_ite,Nat.beq_eq] at h
  split at h
  .rename_i hc
   subst hc
   simp only [zS,zP] at h
   obtain ⟨rfl,rfl⟩:=h
   simp only [Rel] at hx
   subst hx
   refine ⟨s.map fun b=>.int .u8 b.toNat,?_,by simp,fun w' hw'=>⟨by simp [Builtin.lenOf,ByteArray.size],?_⟩⟩
   .clear hs
    induction s with
    | nil=>exact qm.nil
    | cons a s ih=>exact qm.cons (by simp [Rel]) ih
   .have e1:(ByteArray.extract ⟨s.toArray⟩ 0 s.length)=(⟨s.toArray⟩:ByteArray):=by
     have:=ByteArray.extract_zero_size (b:=⟨s.toArray⟩)
     simpa [ByteArray.size] using this
    simp [Builtin.firstCells,e1]
  .cases h
 | _=>simp [qbu] at h
theorem qiu {H:Heap} {G:qi} {w:World} (hs:Sim H G w) {sz n:Nat} {x:V} {rx:Value} {cs:List V} (hx:Rel G w x rx) (h:kp H sz x=some (n,cs)) :
  ∃ l,qm G w cs l/\cs.length=n * sz/\∀ w',w'.heap=w.heap->(Builtin.lenOf rx).run P w'=.ok n w'/\(Builtin.firstCells sz n rx).run P w'=.ok l.toArray w':=
 q1c hs (hx.qc0 sz) h
theorem qny {H:Heap} {sz nm g off len z n:Nat} {cap:Option Nat} {cs:List V} (h:kp H sz (.slice nm g off len z cap)=some (n,cs)):n=len:=by
 unfold kp at h
 rcases V.qdo (nm:=nm) (g:=g) (off:=off) (len:=len) (z:=z) (sz:=sz) (cap:=cap) with e | ⟨_,e⟩
 all_goals
  rw [e] at h
  simp only [qbu,cond_eq_ite,Nat.beq_eq] at h
  split at h
  .simp only [zM,zP] at h;obtain ⟨_,_,h,_⟩:=h;exact h.symm
  .cases h
theorem run_append_fits {w w':World} {t u ty e:TypeId} {du:TypeDesc} {i:TypeInfo} (ht:P.underlying t=some (.slice e)) (hu:P.underlying u=some du) (hdu:(∃ e',du=.slice e')∨du=.string)
  (hi:P.info? e=some i) {base:Option Addr} {sLen sCap n:Nat} {x:Value} {l:List Value} (hlen:(Builtin.lenOf x).run P w=.ok n w) (hf:(Builtin.firstCells i.size n x).run P w=.ok l.toArray w)
  (hroom:sLen+n<=sCap) (hst:∀ a,base=some a->(storeCells (a.add (sLen * i.size)) l).run P w=.ok () w') (hno:base=none->w'=w) :
  (Builtin.append_ #[t,u] ty #[.slice base sLen sCap,x]).run P w=.ok (.slice base (sLen+n) sCap) w':=by
 rcases hdu with ⟨e',rfl⟩ | rfl
 all_goals
  cases base with
  | none=>
   have:=hno rfl
   subst this
   simp [Builtin.append_,run_underlying ht,run_underlying hu,sizeOf,typeInfo,hi,hlen,hf,hroom]
  | some a=>
   simp [Builtin.append_,run_underlying ht,run_underlying hu,sizeOf,typeInfo,hi,hlen,hf,hroom,hst a rfl]
theorem qge {w:World} {t u ty e:TypeId} {du:TypeDesc} {i:TypeInfo} {z:Value} (ht:P.underlying t=some (.slice e)) (hu:P.underlying u=some du) (hdu:(∃ e',du=.slice e')∨du=.string)
  (hi:P.info? e=some i) (hz0:i.zero=some z) {base:Option Addr} {sLen sCap n:Nat} {x:Value} {l old:List Value}
  (hlen:∀ w',w'.heap=w.heap->(Builtin.lenOf x).run P w'=.ok n w'/\(Builtin.firstCells i.size n x).run P w'=.ok l.toArray w')
  (hold:∀ w',w'.heap=w.heap->(Builtin.firstCells i.size sLen (.slice base sLen sCap)).run P w'=.ok old.toArray w')
  (hg:sCap<sLen+n) (hb:(sLen+n) * i.bytes<=room) (hm:sLen+n<=room) :
  ∃ (w1:World) (C:Nat) (rest:List Value),w1.heap=w.heap/\(w1.os=w.os/\w1.output=w.output)/\sLen+n<=C/\rest.length=(C-(sLen+n)) * z.cells.size/\
  (Builtin.append_ #[t,u] ty #[.slice base sLen sCap,x]).run P w=.ok (.slice (some ⟨w.heap.size,0,none⟩) (sLen+n) C) (push w1 (.cells ((old++l)++rest).toArray e)):=by
 have hn:¬ (sLen+n<=sCap):=by omega
 have h63':¬ (9223372036854775807<((sLen:Int)+(n:Int))):=by unfold room at hm;omega
 have h48:=growslice_fits (bytes:=i.bytes) hg hb
 have h48':¬ (281474976710656<Builtin.nextslicecap (sLen+n) sCap * i.bytes):=by omega
 have h1:=hlen w rfl
 have h2:=(hlen w.drew rfl).2
 have h3:=hold w.drew rfl
 refine ⟨w.drew,grownCap w (sLen+n) sCap e,(Builtin.zeroCells z.cells (grownCap w (sLen+n) sCap e-(sLen+n))).toList,rfl,⟨rfl,rfl⟩,grownCap_ge w _ _ _,by simp [Builtin.zeroCells],?_⟩
 have ea:∀ (A:Array Value),((old++l)++A.toList).toArray=old.toArray++l.toArray++A:=by intro A;apply Array.ext';simp
 rw [ea]
 rcases hdu with ⟨e',rfl⟩ | rfl
 all_goals
  simp [Builtin.append_,run_underlying ht,run_underlying hu,sizeOf,typeInfo,zeroValue,hi,hz0,h1.1,hn,h63',h48',Question.forced,newRow,h2,h3,grownCap]
  show w.drew.alloc _=w.drew.alloc _
  congr 2
  apply Array.ext'
  simp
theorem Step.qwt {H:Heap} {G:qi} {w w1:World} (hs:Sim H G w) (e:w1.heap=w.heap) (eo:w1.os=w.os/\w1.output=w.output) {H':Heap} {G':qi} {w':World} (h:∀ (_:Sim H G w1),Step H G w1 H' G' w'):Step H G w H' G' w':=
 (Step.same hs e eo).trans (h (Step.same hs e eo).sim)
theorem qxl {H H':Heap} {vs:List V} {nm g off lim:Nat} (h:j3 H vs (.ptr nm g off lim)=some H') {cells:List V} {elem:TypeId} {gen floor frz:Nat} {exact:Bool}
  (ho:H.get nm=some (.row cells elem gen floor frz exact)):g=gen/\off+vs.length<=lim/\lim<=cells.length:=by
 simp only [j3,ho,cond_eq_ite,zA,Nat.ble_eq,Nat.beq_eq] at h
 split at h
 .rename_i hc
  exact ⟨hc.1.1.1.1,hc.1.1.1.2,hc.1.1.2⟩
 .cases h
theorem qls {z:Value} {size need C:Nat} {rest cells:List Value} (hz:z.cells.size=size) (hr:rest.length=(C-need) * z.cells.size) (hc:cells.length=need * size) (hC:need<=C) :
  0+C * size<=(cells++rest).toArray.size:=by
 simp only [List.size_toArray,List.length_append,hr,hc,hz,Nat.zero_add]
 rw [<-Nat.add_mul]
 exact zU _ (by omega)
section grow
variable {H:Heap} {G:qi} {w:World} {nm g b sh m:Nat}
theorem qzi (hs:Sim H G w) {cells:List V} {e:TypeId} {floor frz:Nat} {exact:Bool} (ho:H.get nm=some (.row cells e g floor frz exact)):G nm (g+1)=none:=by
 cases hq:G nm (g+1) with
 | none=>rfl
 | some x=>
  obtain ⟨x1,x2,x3⟩:=x
  obtain ⟨q1,q0,q2⟩:=hs.obj nm _ (hs.lt _ _ _ _ _ hq).2 ho
  have:=(q2 _ _ _ _ hq).1
  omega
theorem q3r (h:G nm (g+1)=none) (x:Nat×Nat×Nat) (nm' g':Nat) (y) (hy:G nm' g'=some y):qfv G nm (g+1) x nm' g'=some y:=by
 simp only [qfv]
 by_cases hq:nm'=nm/\g'=g+1
 .rw [hq.1,hq.2,h] at hy;cases hy
 .rw [zF hq];exact hy
theorem qys (x:Nat×Nat×Nat) (nm' g':Nat) (y) (hy:qfv G nm (g+1) x nm' g'=some y) (hne:nm'≠nm):G nm' g'=some y:=by
 simp only [qfv] at hy
 rw [zF (fun q=>hne q.1)] at hy
 exact hy
theorem qfy (x:Nat×Nat×Nat) (g':Nat) (y) (hy:qfv G nm (g+1) x nm g'=some y):(g'=g+1/\y=x)∨G nm g'=some y:=by
 simp only [qfv] at hy
 by_cases hq:g'=g+1
 .rw [zT ⟨trivial,hq⟩] at hy;cases hy;exact .inl ⟨hq,rfl⟩
 .rw [zF (fun q=>hq q.2)] at hy;exact .inr hy
theorem Sim.zo1 (hs:Sim H G w) {cells items:List V} {e:TypeId} {floor frz:Nat} {exact:Bool} (ho:H.get nm=some (.row cells e g floor frz exact)) (hg:G nm g=some (b,sh,m))
  {l:List Value} (hl:qm G w items l) {arr arr':Array Value} {fz:Nat×Nat} (a1:w.heap[b]? = some (.cells arr e fz))
  (harr':arr'.toList=arr.toList.take (m-sh)++l++arr.toList.drop (m-sh+l.length)) (hsz2:arr'.size=arr.size) (hfit:m-sh+l.length<=arr.size) (hro:H.ro<=nm) :
  Step H G w {H with qa6:=H.qa6.set nm (.row (cells++items) e (g+1) floor frz false)} (qfv G nm (g+1) (b,sh,m+items.length)) (w.setRow b arr'):=by
 obtain ⟨q1,q0,q2⟩:=hs.obj nm _ (hs.lt _ _ _ _ _ hg).2 ho
 obtain ⟨r1,r2,r3,r4,r4',r5⟩:=q2 g b sh m hg
 obtain ⟨arr0,fz0,a1',a2,a3,a4,a5⟩:=r5 q1
 rw [a1] at a1'
 cases a1'
 have hm:=r4 rfl
 have hll:=hl.length
 have hlt:=hs.lt _ _ _ _ _ hg
 have hrow:=setRow_heap w b arr arr' e fz a1
 have hszw:(w.setRow b arr').heap.size=w.heap.size:=by unfold World.setRow;simp
 have hfre:=qzi hs ho
 refine hs.turn nm _ (fun nm'=>qtk nm') (zN _) (fun _ h _=>h) rfl rfl hro hlt.2 (.inr (by rw [ho];simp)) (q3r hfre _) (qys _) (by rw [hszw];exact zN _) (fun g' b' sh' n' hg'=>?_) (fun g1 b1 s1 n1 g2 s2 n2 h1 h2 hb1=>?_)
  (fun b' hb' hne=>qdl (fun q=>hne g sh m (q ▸ hg))) (fun b' x hx=>?_) (fun hext=>?_)
 .rcases qfy _ _ _ hg' with ⟨rfl,hy⟩ | hy
  .cases hy;exact ⟨by rw [hszw];exact hlt.1,.inr ⟨_,_,hg⟩⟩
  .exact ⟨by rw [hszw];exact (hs.lt _ _ _ _ _ hy).1,.inr ⟨_,_,hy⟩⟩
 .rcases qfy _ _ _ h1 with ⟨rfl,hy⟩ | hy
  .cases hy;omega
  .have:=(hs.lt _ _ _ _ _ hy).1;omega
 .by_cases hbb:b'=b
  .subst hbb
   simp only [World.shape?,a1,hrow,hsz2] at hx ⊢
   exact hx
  .simp only [World.shape?,qdl hbb] at hx ⊢;exact hx
 .refine ⟨by omega,by simp,fun g' b' sh' n' hg'=>?_⟩
  rcases qfy _ _ _ hg' with ⟨rfl,hy⟩ | hy
  .cases hy
   refine ⟨zN _,by omega,by simp;omega,fun _=>by simp;omega,by simp,fun _=>⟨arr',fz,hrow,by omega,?_,fun _=>a4 rfl,by simp⟩⟩
   rw [List.take_of_length_le (by simp;omega),harr',List.drop_append_of_le_length (by omega)]
   have ea:(arr.toList.take (m-sh)++l++arr.toList.drop (m-sh+l.length)).take (m+items.length-sh)=arr.toList.take (m-sh)++l:=by
    rw [List.take_append_of_le_length (by simp;omega),List.take_of_length_le (by simp;omega)]
   rw [ea]
   rw [List.take_of_length_le (by omega)] at a3
   exact (kh.ext hext a3).append (qm.ext hext hl).c
  .obtain ⟨s1,s2,s3,s4,s4',s5⟩:=q2 g' b' sh' n' hy
   refine ⟨by omega,s2,by simp;omega,fun q=>by omega,by simp,fun hfl=>?_⟩
   obtain ⟨arr1,fz1,b1,b2,b3,b4,b5⟩:=s5 hfl
   rw [List.take_append_of_le_length s3]
   have hA:n'-sh<=m-sh:=Nat.sub_le_sub_right (by rw [hm];exact s3) sh
   have hne:g'≠g+1:=Nat.ne_of_lt (Nat.lt_succ_of_le s1)
   have hA2:n'-sh<=(arr.toList.take (m-sh)).length:=by rw [List.length_take,Array.length_toList];exact Nat.le_min.2 ⟨hA,zR hA a2⟩
   by_cases hbb:b'=b
   .subst hbb
    have hss:=(hs.inj _ _ _ _ _ _ _ _ _ hg hy).2
    subst hss
    rw [a1] at b1
    cases b1
    refine ⟨arr',fz,hrow,by rw [hsz2];exact b2,?_,fun q=>absurd q hne,by simp⟩
    have ea:arr'.toList.take (n'-sh)=arr.toList.take (n'-sh):=by
     rw [harr',List.append_assoc,List.take_append_of_le_length hA2,List.take_take,Nat.min_eq_left hA]
    rw [ea]
    exact kh.ext hext b3
   .exact ⟨arr1,fz1,(qdl hbb).trans b1,b2,kh.ext hext b3,fun q=>absurd q hne,by simp⟩
theorem Sim.zla (hs:Sim H G w) {cells items:List V} {e:TypeId} {floor frz off:Nat} {exact:Bool} (ho:H.get nm=some (.row cells e g floor frz exact)) (hg:nm<H.next)
  {l ol:List Value} (hl:qm G w items l) (hol:kh G w (cells.drop off) ol) (hoff:off<=cells.length) (rest:List Value) (hro:H.ro<=nm) :
  Step H G w {H with qa6:=H.qa6.set nm (.row (cells++items) e (g+1) floor frz false)} (qfv G nm (g+1) (w.heap.size,off,cells.length+items.length)) (push w (.cells ((ol++l)++rest).toArray e)):=by
 obtain ⟨q1,q0,q2⟩:=hs.obj nm _ hg ho
 have hll:=hl.length
 have holl:=hol.length
 simp only [List.length_drop] at holl
 have hfre:=qzi hs ho
 refine hs.turn nm _ (fun nm'=>qtk nm') (zN _) (fun _ h _=>h) rfl rfl hro hg (.inr (by rw [ho];simp)) (q3r hfre _) (qys _) (by rw [size_push];omega) (fun g' b' sh' n' hg'=>?_) (fun g1 b1 s1 n1 g2 s2 n2 h1 h2 hb1=>?_)
  (fun b' hb' _=>qkc hb') (fun b' x hx=>qw3 hx) (fun hext=>?_)
 .rcases qfy _ _ _ hg' with ⟨rfl,hy⟩ | hy
  .cases hy;exact ⟨by rw [size_push];omega,.inl (zN _)⟩
  .exact ⟨by rw [size_push];have:=(hs.lt _ _ _ _ _ hy).1;omega,.inr ⟨_,_,hy⟩⟩
 .rcases qfy _ _ _ h1 with ⟨rfl,hy⟩ | hy
  .rcases qfy _ _ _ h2 with ⟨rfl,hy2⟩ | hy2
   .cases hy;cases hy2;rfl
   .have:=(hs.lt _ _ _ _ _ hy2).1;omega
  .have:=(hs.lt _ _ _ _ _ hy).1;omega
 .refine ⟨by omega,by simp,fun g' b' sh' n' hg'=>?_⟩
  rcases qfy _ _ _ hg' with ⟨rfl,hy⟩ | hy
  .cases hy
   refine ⟨zN _,by omega,by simp,fun _=>by simp,by simp,fun _=>⟨_,(0,0),qbm _ _,by simp;omega,?_,fun _ i _ h2=>by simp at h2,by simp⟩⟩
   rw [List.take_of_length_le (by simp),List.drop_append_of_le_length hoff]
   have ea:(((ol++l)++rest).toArray.toList).take (cells.length+items.length-off)=ol++l:=by
    simp only []
    rw [List.take_append_of_le_length (by simp;omega),List.take_of_length_le (by simp;omega)]
   rw [ea]
   exact (kh.ext hext hol).append (qm.ext hext hl).c
  .obtain ⟨s1,s2,s3,s4,s4',s5⟩:=q2 g' b' sh' n' hy
   refine ⟨by omega,s2,by simp;omega,fun q=>by omega,by simp,fun hfl=>?_⟩
   obtain ⟨arr1,fz1,b1,b2,b3,b4,b5⟩:=s5 hfl
   rw [List.take_append_of_le_length s3]
   exact ⟨arr1,fz1,(qkc (hs.lt _ _ _ _ _ hy).1).trans b1,b2,kh.ext hext b3,fun q=>absurd q (Nat.ne_of_lt (Nat.lt_succ_of_le s1)),by simp⟩
end grow
theorem zco {H:Heap} {G:qi} {w:World} (hs:Sim H G w) {nm g off len sz gen floor frz:Nat} {cap:Option Nat} {rx:Value} {cells:List V} {e:TypeId} {exact:Bool} (hx:Rel G w (.slice nm g off len sz cap) rx)
  (ho:H.get nm=some (.row cells e gen floor frz exact)) (hf:floor<=g) (hc:off+len * sz=cells.length) :
  ∃ ol,kh G w (cells.drop off) ol/\(cells.drop off).length=len * sz/\∀ w',w'.heap=w.heap->(Builtin.firstCells sz len rx).run P w'=.ok ol.toArray w':=by
 simp only [Rel] at hx
 obtain ⟨b,sh,m,ro,c,e',mm,ad,e1,rfl,e0,e2,e3,e4,e5,e6,e7,e8⟩:=hx
 have hp:Rel G w (.ptr nm g off (off+len * sz)) (.pointer (some ⟨b,off-sh,none⟩)):=by
  simp only [Rel];exact ⟨b,sh,m,e1,e3,e4,rfl⟩
 obtain ⟨a,l,ha,hh,hr,hl⟩:=qya hs hp ho hf (zN _) (Nat.le_of_eq hc)
 cases ha
 have hl':=hr.length
 have ht:(cells.drop off).take (len * sz)=cells.drop off:=List.take_of_length_le (by simp;omega)
 rw [ht] at hr hl hl'
 refine ⟨l,hr,hl,fun w' hw'=>?_⟩
 simp only [Builtin.firstCells]
 have e5:(ro+sh=off/\ad=⟨b,ro,none⟩)∨c=0:=by
  rcases e5 with e5 | e5
  .rcases e0 with e0 | e0
   .exact .inr e0
   .exact .inl ⟨e5,e0⟩
  .exact .inr e5
 rcases e5 with ⟨e5,rfl⟩ | e5
 .have:ro=off-sh:=by omega
  subst this
  have hrun:=(hh.of_heap hw').run P
  rw [<-hl',hl] at hrun
  exact hrun
 .have h0:len=0:=by omega
  subst h0
  simp only [Nat.zero_mul] at hl
  have:l=[]:=List.length_eq_zero_iff.1 (by omega)
  subst this
  simp [loadCells,loadCellsFrom]
theorem qxt {H:Heap} {G:qi} {w:World} (hs:Sim H G w) {t u ty e:Nat} {du:TypeDesc} {i:TypeInfo} {z:Value} (ht:P.underlying t=some (.slice e)) (hu:P.underlying u=some du) (hdu:(∃ e',du=.slice e')∨du=.string)
  (hi:P.info? e=some i) (hz0:i.zero=some z) (hzc:z.cells.size=i.size) {nm g off len n b sh m ro c e' mm floor frz:Nat} {ad:Addr} {exact:Bool} {cells items:List V} {rx:Value} {l:List Value}
  (ho:H.get nm=some (.row cells e g floor frz exact)) (e1:G nm g=some (b,sh,m)) (hl:qm G w items l) (hone:items.all V.j7=true) (hll:items.length=n * i.size)
  (hrun:∀ w',w'.heap=w.heap->(Builtin.lenOf rx).run P w'=.ok n w'/\(Builtin.firstCells i.size n rx).run P w'=.ok l.toArray w')
  (hold:∃ ol,kh G w (cells.drop off) ol/\(cells.drop off).length=len * i.size/\∀ w',w'.heap=w.heap->(Builtin.firstCells i.size len (.slice (some ad) len c)).run P w'=.ok ol.toArray w')
  (e0:c=0∨ad=⟨b,ro,none⟩) (hn:n≠0) (c2:off+len * i.size=cells.length) (c3:frz<=cells.length) (e2:len<=c) (e3:sh<=off) (e5:ro+sh=off∨c=0) (e7:w.shape? b=some (e',mm)) (e8:ro+c * i.size<=mm)
  (hb1:(len+n) * i.bytes<=room) (hb2:len+n<=room) (u1:H.ro<=nm) :
  ∃ rv w' G',(Builtin.append_ #[t,u] ty #[.slice (some ad) len c,rx]).run P w=.ok rv w'/\
   Step H G w {H with qa6:=H.qa6.set nm (.row (cells++items) e (g+1) floor frz false)} G' w'/\Rel G' w' (.slice nm (g+1) off (len+n) i.size none) rv:=by
 have hob:=hs.obj nm _ (hs.lt _ _ _ _ _ e1).2 ho
 have hm:m=cells.length:=(hob.2.2 g b sh m e1).2.2.2.1 rfl
 have hsm:sh<=m:=(hob.2.2 g b sh m e1).2.1
 obtain ⟨arr,fz,a1,a2,_,a4,_⟩:=(hob.2.2 g b sh m e1).2.2.2.2.2 hob.1
 clear hob
 have hmul:(len+n) * i.size=len * i.size+n * i.size:=Nat.add_mul _ _ _
 have hlt:=hs.lt _ _ _ _ _ e1
 have hll':=hl.length
 have hshape:mm=arr.size:=by
  simp only [World.shape?,a1,zS,zP] at e7
  exact e7.2.symm
 by_cases hfit:len+n<=c
 .clear hb1 hb2
  obtain rfl:ad=⟨b,ro,none⟩:=by
   rcases e0 with e0 | e0
   .omega
   .exact e0
  have hro':ro=off-sh:=by rcases e5 with e5 | e5<;>omega
  have hcap:(len+n) * i.size<=c * i.size:=zU _ hfit
  have hpos:off-sh+len * i.size=m-sh:=by omega
  have hfits:m-sh+l.length<=arr.size:=by omega
  have hst:=qd8 P b (m-sh) e fz l 0 arr w a1 (fun j hj _ f2=>a4 rfl j (by omega) f2) (by omega) (qm.j7 hl hone)
  simp only [Nat.add_zero] at hst
  have hstep:=hs.zo1 ho e1 hl (arr':=(arr.toList.take (m-sh)++l++arr.toList.drop (m-sh+l.length)).toArray) a1 rfl (by simp;omega) hfits u1
  refine ⟨_,_,_,run_append_fits ht hu hdu hi (hrun w rfl).1 (hrun w rfl).2 hfit (fun a ha=>?_) (fun h=>by cases h),hstep,?_⟩
  .cases ha
   rw [qec,hro',hpos]
   exact hst
  .have e7':=hstep.ext.shp _ _ e7
   simp only [Rel]
   exact ⟨b,sh,m+items.length,ro,c,e',mm,_,qc2 _ _ _ _,rfl,.inr rfl,hfit,e3,by omega,e5,(fun k hk=>by cases hk),e7',e8⟩
 .obtain ⟨ol,o1,o2,o3⟩:=hold
  obtain ⟨w1,C,rest,hw1,hwo,hC,hrest,hr⟩:=qge (w:=w) (ty:=ty) ht hu hdu hi hz0 (base:=some ad) (sLen:=len) (sCap:=c) (x:=rx) (l:=l) (old:=ol) hrun o3 (by omega) hb1 hb2
  clear hb1 hb2
  have hstep:=Step.qwt hs hw1 hwo (fun hs1=>hs1.zla ho hlt.2 (qm.same hw1 hl) (kh.same hw1 o1) (by omega) rest u1)
  have hsz1:w1.heap.size=w.heap.size:=by rw [hw1]
  refine ⟨_,_,_,hr,hstep,?_⟩
  have hol:=o1.length
  simp only [Rel]
  exact ⟨w1.heap.size,off,cells.length+items.length,0,C,e,_,⟨w1.heap.size,0,none⟩,qc2 _ _ _ _,by rw [hsz1],.inr rfl,hC,zN _,by omega,.inl (by omega),(fun k hk=>by cases hk),qm0,qls hzc hrest (by simp;omega) hC⟩
theorem qxu {H H':Heap} {G:qi} {w:World} (hs:Sim H G w) {t u ty e:Nat} {du:TypeDesc} {ei:TI} (ht:P.underlying t=some (.slice e)) (hu:P.underlying u=some du) (hdu:(∃ e',du=.slice e')∨du=.string)
  (he:typeOf P e=some ei) {s x v:V} {rs rx:Value} (hrs:Rel G w s rs) (hrx:Rel G w x rx) (h:qbt H e ei.size ei.bytes s x=some (v,H')) :
  ∃ rv w' G',(Builtin.append_ #[t,u] ty #[rs,rx]).run P w=.ok rv w'/\Step H G w H' G' w'/\Rel G' w' v rv:=by
 obtain ⟨hue,_,i,z,hi,hsz,hby,hz0,_,_,hzc⟩:=qj he
 simp only [qbt,zI] at h
 obtain ⟨⟨n,items⟩,h1,h⟩:=h
 obtain ⟨l,hl,hll,hrun⟩:=qiu hs hrx h1
 have hll':=hl.length
 simp only at h
 rw [<-hsz] at hrun
 cases s with
 | nils=>
  simp only [Rel] at hrs
  subst hrs
  simp only [cond_eq_ite,Nat.beq_eq,zA,Nat.ble_eq] at h
  split at h
  .rename_i hn
   subst hn
   cases h
   exact ⟨_,w,G,run_append_fits ht hu hdu hi (hrun w rfl).1 (hrun w rfl).2 (zN _) (fun _ h=>by cases h) (fun _=>rfl),Step.refl hs,by simp [Rel]⟩
  .rename_i hn
   split at h
   .rename_i hc
    cases h
    obtain ⟨w1,C,rest,hw1,hwo,hC,hrest,hr⟩:=qge (w:=w) (ty:=ty) ht hu hdu hi hz0 (base:=none) (sLen:=0) (sCap:=0) (x:=rx) (l:=l) (old:=[]) hrun (fun w' _=>by simp [Builtin.firstCells]) (by omega) (by rw [Nat.zero_add,hby];exact hc.1) (by rw [Nat.zero_add];exact hc.2)
    simp only [Nat.zero_add,List.nil_append] at hr hC hrest
    have hstep:=Step.qwt hs hw1 hwo (fun hs1=>hs1.newRow (qm.same hw1 hl) rest e false (by simp))
    have hsz1:w1.heap.size=w.heap.size:=by rw [hw1]
    refine ⟨_,_,_,hr,hstep,?_⟩
    simp only [Rel]
    exact ⟨w1.heap.size,0,items.length,0,C,e,_,⟨w1.heap.size,0,none⟩,qc2 _ _ _ _,by rw [hsz1],.inr rfl,hC,zN _,by rw [Nat.zero_add,hll];exact zN _,.inl rfl,(fun k hk=>by cases hk),qm0,qls hzc hrest (by omega) hC⟩
   .cases h
 | slice nm g off len sz' cap=>
  have hrs0:=hrs
  simp only [Rel] at hrs
  obtain ⟨b,sh,m,ro,c,e',mm,ad,e1,rfl,e0,e2,e3,e4,e5,e6,e7,e8⟩:=hrs
  simp only [cond_eq_ite,Nat.beq_eq,Bool.not_eq_true',zA,Nat.ble_eq,Bool.and_eq_false_iff] at h
  split at h
  .cases h
  rename_i hz1
  have hz1:ei.size=sz':=by
   by_cases hq:ei.size=sz'
   .exact hq
   .exact absurd (by rw [<-Bool.not_eq_true,Nat.beq_eq];exact hq) hz1
  subst hz1
  split at h
  .rename_i hn
   subst hn
   cases h
   have hl0:l=[]:=List.length_eq_zero_iff.1 (by rw [<-hll',hll];simp)
   subst hl0
   exact ⟨_,w,G,run_append_fits ht hu hdu hi (hrun w rfl).1 (hrun w rfl).2 e2 (fun _ _=>by simp [storeCells]) (fun h=>by cases h),Step.refl hs,hrs0⟩
  rename_i hn
  split at h
  .cases h
  rename_i hb
  have hb:(len+n) * ei.bytes<=room/\len+n<=room:=by
   constructor<;>(apply Nat.le_of_not_lt;intro hlt;apply hb)
   .left;rw [<-Bool.not_eq_true,Nat.ble_eq];omega
   .right;rw [<-Bool.not_eq_true,Nat.ble_eq];omega
  split at h
  .cases h
  rename_i hone
  have hone:items.all V.j7=true:=by
   cases hq:items.all V.j7 with
   | true=>rfl
   | false=>exact absurd hq hone
  have hold:∀ cs,kp H ei.size (.slice nm g off len ei.size cap)=some (len,cs)->∃ ol,qm G w cs ol/\cs.length=len * ei.size/\∀ w',w'.heap=w.heap->(Builtin.firstCells i.size len (.slice (some ad) len c)).run P w'=.ok ol.toArray w':=by
   intro cs hcs
   obtain ⟨ol,o1,o2,o3⟩:=qiu (P:=P) hs hrs0 hcs
   exact ⟨ol,o1,o2,fun w' hw'=>by rw [hsz];exact (o3 w' hw').2⟩
  split at h
  .rename_i cells e'' gen floor frz exact ho
   obtain ⟨q1,q0,q2⟩:=hs.obj nm _ (hs.lt _ _ _ _ _ e1).2 ho
   obtain ⟨r1,r2,r3,r4,r4',r5⟩:=q2 g b sh m e1
   split at h
   .
    rename_i k
    obtain ⟨hk,hkn⟩:=e6 k rfl
    subst hk
    split at h
    .rename_i hfit
     simp only [zM,zP] at h
     obtain ⟨H1,h2,rfl,rfl⟩:=h
     have hcpos:c≠0:=by omega
     obtain rfl:ad=⟨b,ro,none⟩:=by
      rcases e0 with e0 | e0
      .exact absurd e0 hcpos
      .exact e0
     have hro':ro=off-sh:=by rcases e5 with e5 | e5<;>omega
     obtain ⟨p1,p2,p3⟩:=qxl h2 ho
     have hm:=r4 p1
     have hmul:(len+n) * ei.size=len * ei.size+n * ei.size:=Nat.add_mul _ _ _
     have hp:Rel G w (.ptr nm g (off+len * ei.size) (off+(len+n) * ei.size)) (.pointer (some ⟨b,off+len * ei.size-sh,none⟩)):=by
      simp only [Rel]
      exact ⟨b,sh,m,e1,by omega,by omega,rfl⟩
     obtain ⟨a,w',ha,hst,hstep⟩:=qd3 hs hp hl h2 P
     cases ha
     refine ⟨_,w',G,run_append_fits ht hu hdu hi (hrun w rfl).1 (hrun w rfl).2 hfit (fun a ha=>?_) (fun h=>by cases h),hstep,?_⟩
     .cases ha
      rw [qec,hsz,hro',show off-sh+len * ei.size=off+len * ei.size-sh by omega]
      exact hst
     .refine Rel.ext hstep.ext ?_
      simp only [Rel]
      exact ⟨b,sh,m,ro,c,e',mm,_,e1,rfl,.inr rfl,hfit,e3,by omega,e5,e6,e7,e8⟩
    .rename_i hfit
     simp only [zM,zP] at h
     obtain ⟨⟨len',old⟩,h2,rfl,rfl⟩:=h
     have hlen':len'=len:=by
      exact qny h2
     subst hlen'
     obtain ⟨ol,o1,o2,o3⟩:=hold old h2
     obtain ⟨w1,C,rest,hw1,hwo,hC,hrest,hr⟩:=qge (w:=w) (ty:=ty) ht hu hdu hi hz0 (base:=some ad) (sLen:=len') (sCap:=c) (x:=rx) (l:=l) (old:=ol) hrun o3 (by omega) (by rw [hby];exact hb.1) hb.2
     have hstep:=Step.qwt hs hw1 hwo (fun hs1=>hs1.newRow (qm.same hw1 (o1.append hl)) rest e false (by simp))
     have hsz1:w1.heap.size=w.heap.size:=by rw [hw1]
     refine ⟨_,_,_,hr,hstep,?_⟩
     have hol:=o1.length
     have hmul:(len'+n) * ei.size=len' * ei.size+n * ei.size:=Nat.add_mul _ _ _
     simp only [Rel]
     exact ⟨w1.heap.size,0,(old++items).length,0,C,e,_,⟨w1.heap.size,0,none⟩,qc2 _ _ _ _,by rw [hsz1],.inr rfl,hC,zN _,by simp;omega,.inl rfl,(fun k hk=>by cases hk),qm0,qls hzc hrest (by simp;omega) hC⟩
   .
    split at h
    .rename_i hc
     obtain ⟨⟨⟨⟨⟨c1,c2⟩,c3⟩,c4⟩,c5⟩,c6⟩:=hc
     subst c1
     subst c6
     have c5:ei.size≠0:=by
      intro h0
      rw [h0] at c5
      simp at c5
     simp only [zM,zP] at h
     obtain ⟨H1,h2,rfl,rfl⟩:=h
     obtain ⟨u1,rfl⟩:=qft h2
     have hraw:=zco (P:=P) hs hrs0 ho q1 c2
     rw [<-hsz] at *
     exact qxt hs ht hu hdu hi hz0 hzc ho e1 hl hone hll hrun hraw e0 hn c2 c3 e2 e3 e5 e7 e8 (by rw [hby];exact hb.1) hb.2 u1
    .cases h
  .cases h
 | _=>simp at h
theorem qdr {H H':Heap} {G:qi} {w:World} (hs:Sim H G w) {t u ty e:Nat} {du:TypeDesc} {ei:TI} (ht:P.underlying t=some (.slice e)) (hu:P.underlying u=some du) (hdu:(∃ e',du=.slice e')∨du=.string)
  (he:typeOf P e=some ei) {s x v:V} {rs rx:Value} (hrs:Rel G w s rs) (hrx:Rel G w x rx) (h:qcn H e ei.size ei.bytes s x=some (v,H')) :
  ∃ rv w' G',(Builtin.append_ #[t,u] ty #[rs,rx]).run P w=.ok rv w'/\Step H G w H' G' w'/\Rel G' w' v rv:=
 qxu hs ht hu hdu he (hrs.qc0 _) hrx h
end
end Go.E2
/- E2: single operations against the model's, first part. -/
namespace Go.E2
open Go
def qtz (G:qi) (w:World) (d:D) (rd:Deferred):Prop:=
 ∃ fn cap,rd.target=.fn fn cap/\qgo G d.fn fn/\qm G w d.captured cap.toList/\qm G w d.args rd.args.toList
def j8 (G:qi) (w:World):List Dfr->List Deferred->Prop
 | [],l=>l=[]
 | d::ds,l=>∃ x xs,l=x::xs/\j8 G w ds xs/\match d with
  | .mark nm=>∃ b sh n,G nm 0=some (b,sh,n)/\x = {target:=.collected b,args:=#[]}
  | .call d=>qtz G w d x
structure SimFr (G:qi) (w:World) (fr:Fr) (a:Act):Prop where
 tmps:qxm G w fr.tmps a.tmps
 n:a.tmps.size=fr.n
 dfr:j8 G w fr.defers a.defers
theorem qtz.up {G G':qi} {w w':World} (h:Up G w G' w') {d:D} {rd:Deferred} (e:qtz G w d rd):qtz G' w' d rd:=by
 obtain ⟨fn,cap,e1,e2,e3,e4⟩:=e
 exact ⟨fn,cap,e1,e2.ext h.sub,qm.up h e3,qm.up h e4⟩
theorem j8.up {G G':qi} {w w':World} (h:Up G w G' w'):∀ {ds:List Dfr} {l:List Deferred},j8 G w ds l->j8 G' w' ds l
 | [],_,e=>by simpa [j8] using e
 | .mark nm::ds,_,e=>by
  simp only [j8] at e ⊢
  obtain ⟨x,xs,e1,e2,b,sh,n,e3,e4⟩:=e
  exact ⟨x,xs,e1,j8.up h e2,b,sh,n,h.sub _ _ _ e3,e4⟩
 | .call d::ds,_,e=>by
  simp only [j8] at e ⊢
  obtain ⟨x,xs,e1,e2,e3⟩:=e
  exact ⟨x,xs,e1,j8.up h e2,e3.up h⟩
theorem j8.ext {r:Nat} {G G':qi} {w w':World} (h:Ext r G w G' w') {ds:List Dfr} {l:List Deferred} (e:j8 G w ds l):j8 G' w' ds l:=j8.up h.up e
theorem SimFr.ext {r:Nat} {G G':qi} {w w':World} (h:Ext r G w G' w') {fr:Fr} {a:Act} (e:SimFr G w fr a):SimFr G' w' fr a:=
 ⟨e.tmps.ext h,e.n,e.dfr.ext h⟩
theorem qhu {G:qi} {w:World}:Rel G w jb undef:=by
 simp only [jb,undef,Rel]
 exact ⟨#[],rfl,qm.nil⟩
theorem SimFr.put {G:qi} {w:World} {fr:Fr} {a:Act} (e:SimFr G w fr a) (dst:Option Tmp) {v:V} {x:Value} (hv:Rel G w v x):SimFr G w (fr.put dst v) (a.put dst x):=by
 cases dst with
 | none=>exact e
 | some d=>
  simp only [Fr.put,Act.put,cond_eq_ite,Nat.blt_eq]
  by_cases hd:d<fr.n
  .rw [zT hd]
   refine ⟨fun k u hu=>?_,by simp [e.n],e.dfr⟩
   simp only [Tree.km] at hu
   by_cases hk:k=d
   .subst hk
    have:(a.tmps.setIfInBounds k x).getD k undef=x:=by
     have hlt:k<a.tmps.size:=by rw [e.n];exact hd
     simp [Array.getElem?_setIfInBounds_self_of_lt hlt]
    rw [zT rfl] at hu
    cases hu
    rw [this]
    exact hv
   .rw [zF hk] at hu
    have:(a.tmps.setIfInBounds d x).getD k undef=a.tmps.getD k undef:=by
     simp [Array.getElem?_setIfInBounds_ne (Ne.symm hk)]
    rw [this]
    exact e.tmps k u hu
  .rw [zF hd]
   have:a.tmps.setIfInBounds d x=a.tmps:=Array.setIfInBounds_eq_of_size_le (by rw [e.n];exact Nat.le_of_not_lt hd)
   rw [this]
   exact ⟨e.tmps,e.n,e.dfr⟩
theorem qjw {G:qi} {w:World} {fr:Fr} {a:Act} (e:SimFr G w fr a) {t:Nat} {v:V} (h:fr.tmp t=some v):Rel G w v (a.tmps.getD t undef):=e.tmps t v h
theorem qp {H:Heap} {G:qi} {w:World} (hs:Sim H G w) {fr:Fr} {a:Act} (e:SimFr G w fr a) {x:Operand} {v:V} (h:opd fr H x=some v):Rel G w v (a.eval x):=by
 cases x with
 | tmp t=>exact qjw e h
 | const c=>exact qh2 G w _ _ _ h
 | global g=>
  simp only [opd,cond_eq_ite,Nat.blt_eq] at h
  split at h
  .rename_i hg
   split at h
   .rename_i cells el fl fz ex ho
    cases h
    obtain ⟨n,hn⟩:=hs.globs g _ hg ho
    have:=(hs.obj g _ (hs.lt _ _ _ _ _ hn).2 ho).2.2 0 g 0 n hn
    simp only [Rel,Act.eval]
    exact ⟨g,0,n,hn,zN _,Nat.le_of_eq (this.2.2.2.1 rfl).symm,rfl⟩
   .cases h
  .cases h
 | func f=>
  simp only [opd,zS] at h
  subst h
  simp only [Rel,Act.eval,qgo]
  exact ⟨_,_,_,rfl,rfl,qm.nil,qm.nil⟩
theorem qey {H:Heap} {G:qi} {w:World} (hs:Sim H G w) {fr:Fr} {a:Act} (e:SimFr G w fr a):∀ {l:List Operand} {vs:List V},qbj fr H l=some vs->qm G w vs (l.map a.eval)
 | [],vs,h=>by simp only [qbj,zS] at h;subst h;exact qm.nil
 | x::l,vs,h=>by
  simp only [qbj,zI,zM] at h
  obtain ⟨v,h1,us,h2,rfl⟩:=h
  exact qm.cons (qp hs e h1) (qey hs e h2)
def ze0 (G:qi) (w:World) (tgt:Tgt) (args:List V) (t:Target) (rargs:Array Value):Prop:=
 match tgt with
 | .func f=>∃ cap,t=.fn (.func f) cap/\qm G w args (rargs.toList++cap.toList)
 | .round l=>∃ cap b sh n,t=.fn (.yield b) cap/\G l 0=some (b,sh,n)/\qm G w args rargs.toList
def z7 (P:Program) (o:Oper) (a:Act) (H:Heap) (G:qi) (w:World) (H':Heap) (out:Out):Prop:=
 match out with
 | .val v=>∃ x w' G',(execOp a.eval o).run P w=.ok (.value x) w'/\Step H G w H' G' w'/\Rel G' w' v x
 | .skip=>∃ w' G',(execOp a.eval o).run P w=.ok .skip w'/\Step H G w H' G' w'
 | .call tgt args=>H'=H/\∃ t rargs,(execOp a.eval o).run P w=(invoke t rargs).run P w/\ze0 G w tgt args t rargs
 | .defer d=>H'=H/\∃ rd,(execOp a.eval o).run P w=.ok (.defer rd) w/\qtz G w d rd
 | .panic v=>H'=H/\∃ x,(execOp a.eval o).run P w=.halt (.panic x) w/\Rel G w v x
section
variable {P:Program} {o:Oper} {a:Act} {H:Heap} {G:qi} {w:World}
theorem z7.pure (hs:Sim H G w) {v:V} {x:Value} (h:(execOp a.eval o).run P w=.ok (.value x) w) (hv:Rel G w v x):z7 P o a H G w H (.val v):=
 ⟨x,w,G,h,Step.refl hs,hv⟩
end
end Go.E2
/- E2: single operations against the model's, second part: each operation. -/
namespace Go.E2
open Go
section
variable {P:Program} {o:Oper} {a:Act} {H:Heap} {G:qi} {w:World} {fr:Fr}
theorem zao (hs:Sim H G w) (e:SimFr G w fr a) {x:Operand} (ho:o.op=.move x∨o.op=.assign x) {v:V} (h:opd fr H x=some v):z7 P o a H G w H (.val v):=by
 refine z7.pure hs (x:=a.eval x) ?_ (qp hs e h)
 rcases ho with ho | ho<;>simp [execOp,ho]
theorem zl1 (hs:Sim H G w) (e:SimFr G w fr a) {c x y:Operand} (ho:o.op=.pick c x y) {b:Bool} {v:V} (hc:opd fr H c=some (.bool b)) (h:opd fr H (if b then x else y)=some v):z7 P o a H G w H (.val v):=by
 have h1:=qp hs e hc
 simp only [Rel] at h1
 have h2:=qp hs e h
 refine z7.pure hs (x:=a.eval (if b then x else y)) ?_ h2
 simp only [execOp,ho,h1,asBool]
 cases b<;>simp
theorem q5r (hs:Sim H G w) (e:SimFr G w fr a) {x:Operand} (ho:o.op=.nilCheck x) {v:V} (h:opd fr H x=some v)
  (hn:match v with | .nilp | .nili | .nilf | .func (.method _) _ _=>False | _=>True):z7 P o a H G w H (.val v):=by
 have h1:=qp hs e h
 refine z7.pure hs (x:=a.eval x) ?_ h1
 generalize hx:a.eval x=rx at h1
 simp only [execOp,ho,hx]
 cases v with
 | func fn f c=>
  simp only [Rel] at h1
  obtain ⟨fn',a',c',rfl,hf,_⟩:=h1
  cases fn with
  | method n=>exact hn.elim
  | yield l=>obtain ⟨b,sh,n,_,rfl⟩:=hf;simp
  | func g=>simp only [qgo] at hf;subst hf;simp
  | methodOf t n=>simp only [qgo] at hf;subst hf;simp
  | via t p f q=>simp only [qgo] at hf;subst hf;simp
 | ptr nm g off lim=>simp only [Rel] at h1;obtain ⟨b,sh,n,_,_,_,rfl⟩:=h1;simp
 | slice nm g off len sz cap=>simp only [Rel] at h1;obtain ⟨b,sh,n,ro,c,e,m,_,_,rfl,_⟩:=h1;simp
 | iface t y=>simp only [Rel] at h1;obtain ⟨y',rfl,_⟩:=h1;simp
 | agg cs=>simp only [Rel] at h1;obtain ⟨y',rfl,_⟩:=h1;simp
 | tuple cs=>simp only [Rel] at h1;obtain ⟨y',rfl,_⟩:=h1;simp
 | map nm=>simp only [Rel] at h1;obtain ⟨b,sh,n,_,rfl⟩:=h1;simp
 | nilp=>exact hn.elim
 | nili=>exact hn.elim
 | nilf=>exact hn.elim
 | _=>simp only [Rel] at h1;subst h1;simp
theorem qzy (hs:Sim H G w) {v:V} {x:Value} (hv:Rel G w v x) {t:TypeId}
  (hrun:(execOp a.eval o).run P w=.ok (.value (.pointer (some ⟨w.heap.size,0,none⟩))) (push w (.cells x.cells t))):z7 P o a H G w (qfm H v.cells t) (.val (.ptr H.next 0 0 v.cells.length)):=by
 have hstep:=hs.newRow (qct hv) [] t true (fun _=>rfl)
 simp only [zJ,Array.toArray_toList] at hstep
 exact ⟨_,_,_,hrun,hstep,qww⟩
theorem zhs (hs:Sim H G w) {t:TypeId} {ti:TI} (ho:o.op=.alloc t) (ht:typeOf P t=some ti):z7 P o a H G w (qfm H ti.zero.cells t) (.val (.ptr H.next 0 0 ti.zero.cells.length)):=by
 obtain ⟨z,hz,_,hr⟩:=qa4 ht w
 refine qzy hs (hr G w) ?_
 simp [execOp,ho,Instr.alloc,hz,newVar,Go.newRow]
 rfl
theorem zpf (hs:Sim H G w) (e:SimFr G w fr a) {t:TypeId} {x:Operand} (ho:o.op=.box t x) {v:V} (h:opd fr H x=some v):z7 P o a H G w (qfm H v.cells t) (.val (.ptr H.next 0 0 v.cells.length)):=by
 refine qzy hs (qp hs e h) ?_
 simp [execOp,ho,Instr.box,newVar,Go.newRow]
 rfl
theorem zlz (hs:Sim H G w) (e:SimFr G w fr a) {t:TypeId} {ti:TI} (ht:typeOf P t=some ti) {x:Operand} (ho:o.op=.load t x) {p v:V} (hp:opd fr H x=some p) (h:qg3 H ti p=some v):z7 P o a H G w H (.val v):=by
 obtain ⟨y,ad,h1,h2,h3⟩:=qig hs ht (qp hs e hp) h
 refine z7.pure hs (x:=y) ?_ h3
 simp [execOp,ho,Instr.loadAt,h1,Instr.sureAddr,h2]
theorem zhx (hs:Sim H G w) (e:SimFr G w fr a) {t:TypeId} {ti:TI} (ht:typeOf P t=some ti) {x y:Operand} (ho:o.op=.store t x y) {p v:V} (hp:opd fr H x=some p) (hv:opd fr H y=some v) {H':Heap} (h:qjj H ti p v=some H'):z7 P o a H G w H' .skip:=by
 obtain ⟨ad,w',h1,h2,h3⟩:=q6k hs ht (qp hs e hp) (qp hs e hv) h
 refine ⟨w',G,?_,h3⟩
 simp [execOp,ho,Instr.storeAt,h1,Instr.sureAddr,h2]
theorem qw0 {s:TypeId} {ti:TI} (ht:typeOf P s=some ti) {k:Nat} {f:Field} (hf:qfg ti k=some f):∃ fs,ti.under=.struct fs/\fs[k]? = some f/\P.underlying s=some (.struct fs):=by
 unfold qfg at hf
 split at hf
 .rename_i fs hu
  exact ⟨fs,hu,hf,hu ▸ (qj ht).1⟩
 .cases hf
theorem q2k (hs:Sim H G w) (e:SimFr G w fr a) {s:TypeId} {ti fi:TI} (ht:typeOf P s=some ti) {x:Operand} {k:Nat} {f:Field} (ho:o.op=.fieldAddr s x k) (hf:qfg ti k=some f) (hfi:typeOf P f.type=some fi)
  (hz:fi.size≠0) {p v:V} (hp:opd fr H x=some p) (h:(match p with | .ptr nm g off lim=>some (.ptr nm g (off+f.offset) lim) | _=>none)=some v) :
  z7 P o a H G w H (.val v):=by
 obtain ⟨fs,hu,hk,hus⟩:=qw0 ht hf
 have h1:=qp hs e hp
 have hrun:∀ b ro,a.eval x=.pointer (some ⟨b,ro,none⟩)->(execOp a.eval o).run P w=.ok (.value (.pointer (some ⟨b,ro+f.offset,none⟩))) w:=by
  intro b ro hx
  simp [execOp,ho,Instr.fieldAt,run_underlying hus,hk,hx,Instr.sureAddr,fieldPlace,zx hfi,hz,qec]
 cases p with
 | ptr nm g off lim=>
  cases h
  simp only [Rel] at h1
  obtain ⟨b,sh,n,h2,h3,h4,h5⟩:=h1
  refine z7.pure hs (hrun _ _ h5) ?_
  simp only [Rel]
  exact ⟨b,sh,n,h2,by omega,h4,by rw [show off+f.offset-sh=off-sh+f.offset by omega]⟩
 | _=>cases h
theorem q2l (hs:Sim H G w) (e:SimFr G w fr a) {t el:TypeId} {ti ei:TI} (ht:typeOf P t=some ti) (hu:ti.under=.slice el) (hel:typeOf P el=some ei) {x i:Operand} (ho:o.op=.indexAddr t x i) {p q v:V}
  (hp:opd fr H x=some p) (hq:opd fr H i=some q) (h:qet ei.size p q=some v):z7 P o a H G w H (.val v):=by
 have h1:=qp hs e hp
 have h2:=qp hs e hq
 have hut:P.underlying t=some (.slice el):=hu ▸ (qj ht).1
 have hrun:∀ b ro len c k (j:Int),a.eval x=.slice (some ⟨b,ro,none⟩) len c->a.eval i=.int k j->0<=j->j<len->(execOp a.eval o).run P w=.ok (.value (.pointer (some ⟨b,ro+j.toNat * ei.size,none⟩))) w:=by
  intro b ro len c k j hx hj h0 hl
  simp [execOp,ho,Instr.indexAt,run_underlying hut,hx,hj,asIntOf,zx hel,h0,hl,qec]
 cases p with
 | slice nm g off len sz cap=>
  cases q with
  | int k j=>
   simp only [qet] at h
   split at h
   .rename_i hc
    obtain ⟨c1,c2,c3⟩:=hc
    rw [Nat.beq_eq] at c1
    subst c1
    cases h
    simp only [Rel] at h1 h2
    obtain ⟨b,sh,n,ro,c,e',m,ad,r1,r2,r0,r3,r4,r5,r6,r7,r8,r9⟩:=h1
    have hj:j.toNat<len:=by omega
    obtain rfl:ad=⟨b,ro,none⟩:=by
     rcases r0 with r0 | r0
     .omega
     .exact r0
    refine z7.pure hs (hrun _ _ _ _ _ _ r2 h2 c2 c3) ?_
    have hm:j.toNat * ei.size<=len * ei.size:=zU _ (by omega)
    simp only [Rel]
    refine ⟨b,sh,n,r1,by omega,r5,?_⟩
    have:ro+sh=off:=by rcases r6 with r6 | r6<;>omega
    rw [show off+j.toNat * ei.size-sh=ro+j.toNat * ei.size by omega]
   .cases h
  | _=>cases h
 | _=>cases q<;>cases h
theorem qtc (hs:Sim H G w) (e:SimFr G w fr a) {t el:TypeId} {n:Nat} {ti ei:TI} (ht:typeOf P t=some ti) (hu:ti.under=.array n el) (hel:typeOf P el=some ei) {x i:Operand} (ho:o.op=.indexAddr t x i) {p v:V} {k:IntKind} {j:Int}
  (hp:opd fr H x=some p) (hq:opd fr H i=some (.int k j)) (hj0:0<=j) (hjn:j<n)
  (h:(match p with | .ptr nm g off lim=>some (.ptr nm g (off+j.toNat * ei.size) lim) | _=>none)=some v):z7 P o a H G w H (.val v):=by
 have h1:=qp hs e hp
 have h2:=qp hs e hq
 simp only [Rel] at h2
 have hut:P.underlying t=some (.array n el):=hu ▸ (qj ht).1
 have hrun:∀ b ro,a.eval x=.pointer (some ⟨b,ro,none⟩)->(execOp a.eval o).run P w=.ok (.value (.pointer (some ⟨b,ro+j.toNat * ei.size,none⟩))) w:=by
  intro b ro hx
  simp [execOp,ho,Instr.indexAt,run_underlying hut,hx,h2,asIntOf,Instr.sureAddr,zx hel,hj0,hjn,qec]
 cases p with
 | ptr nm g off lim=>
  cases h
  simp only [Rel] at h1
  obtain ⟨b,sh,m,h3,h4,h5,h6⟩:=h1
  refine z7.pure hs (hrun _ _ h6) ?_
  simp only [Rel]
  exact ⟨b,sh,m,h3,by omega,h5,by rw [show off+j.toNat * ei.size-sh=off-sh+j.toNat * ei.size by omega]⟩
 | _=>cases h
end
end Go.E2
/- E2: single operations against the model's, third part: operators, parts, slices. -/
namespace Go.E2
open Go
section
variable {P:Program} {o:Oper} {a:Act} {H:Heap} {G:qi} {w:World} {fr:Fr}
theorem qik {t:TypeId} {ti:TI} (ht:typeOf P t=some ti) {xs:List V} {rxs:Array Value} (hx:qm G w xs rxs.toList) {off:Nat} {v:V} (h:qi8 ti xs off=some v) :
  ∃ y,(∀ w',(part t rxs off).run P w'=.ok y w')/\Rel G w v y:=by
 simp only [qi8,cond_eq_ite] at h
 cases hagg:ti.isAgg with
 | true=>
  simp only [hagg,if_true,Nat.ble_eq] at h
  split at h
  .rename_i hle
   cases h
   refine ⟨.agg (rxs.extract off (off+ti.size)),fun w'=>by simp [part,qoh ht,hagg,zx ht],?_⟩
   simp only [Rel]
   refine ⟨_,rfl,?_⟩
   have:=(hx.drop off).take ti.size
   simpa [Array.toList_extract,List.extract_eq_take_drop] using this
  .cases h
 | false=>
  simp only [hagg,Bool.false_eq_true,if_false] at h
  obtain ⟨y,hy,hr⟩:=hx.get h
  refine ⟨y,fun w'=>?_,hr⟩
  simp only [part,Sem.run_bind,qoh ht,Result.andThen_ok,hagg,Bool.false_eq_true,if_false]
  have:rxs[off]? = some y:=by simpa using hy
  simp [this]
theorem zma {s:List UInt8} {x:Value}:Rel G w (.str s) x↔x=.string ⟨s.toArray⟩:=by simp [Rel]
theorem toList_mk (s:List UInt8):(⟨s.toArray⟩:ByteArray).toList=s:=by rw [ByteArray.toList_eq]
theorem zc1 {op:BinOp} {k:IntKind} {x y:Int} {v:V} (t:TypeId) (h:qf7 op k x y=some v):∃ z,(∀ w',(binOp op t (.int k x) (.int k y)).run P w'=.ok z w')/\Rel G w v z:=by
 cases op<;>simp only [qf7] at h<;>try (cases h;done)
 all_goals try
  (cases h
   exact ⟨_,fun w'=>by simp [binOp,Op.intArith,Op.intBits,Op.intCmp];rfl,by simp [Rel]⟩)
 all_goals
  split at h
  .cases h
  .rename_i hy
   cases h
   exact ⟨_,fun w'=>by simp [binOp,Op.intDiv,hy];rfl,by simp [Rel]⟩
theorem qs1 {op:BinOp} {k k':IntKind} {x y:Int} {v:V} (t:TypeId) (hop:op=.shl∨op=.shr) (h:qrq op k x y=some v):∃ z,(∀ w',(binOp op t (.int k x) (.int k' y)).run P w'=.ok z w')/\Rel G w v z:=by
 simp only [qrq] at h
 split at h
 .cases h
 .rename_i hy
  rcases hop with rfl | rfl
  .cases h
   exact ⟨_,fun w'=>by simp [binOp,Op.shift,hy];rfl,by simp [Rel]⟩
  .cases h
   exact ⟨_,fun w'=>by simp [binOp,Op.shift,hy];rfl,by simp [Rel]⟩
theorem qo1:∀ x y:List UInt8,Op.bytesLess x y=qa9 x y
 | _,[]=>by simp [Op.bytesLess,qa9]
 | [],_::_=>by simp [Op.bytesLess,qa9]
 | a::x,b::y=>by simp only [Op.bytesLess,qa9,qo1 x y]
theorem zd9 {op:BinOp} {x y:List UInt8} {v:V} (t:TypeId) (h:qjk op x y=some v):∃ z,(∀ w',(binOp op t (.string ⟨x.toArray⟩) (.string ⟨y.toArray⟩)).run P w'=.ok z w')/\Rel G w v z:=by
 cases op<;>simp only [qjk] at h<;>try (cases h;done)
 case add=>
  simp only [cond_eq_ite,Nat.ble_eq] at h
  split at h
  .rename_i hle
   cases h
   have hle':x.length+y.length<=140737488355328:=hle
   refine ⟨.string (⟨x.toArray⟩++⟨y.toArray⟩),fun w'=>?_,?_⟩
   .have:¬ (9223372036854775807<((x.length:Int)+(y.length:Int))):=by omega
    simp [binOp,Op.stringOp,ByteArray.size,this]
   .rw [zma]
    congr 1
  .cases h
 all_goals
  cases h
  exact ⟨_,fun w'=>by simp [binOp,Op.stringOp,qo1];rfl,by simp [Rel]⟩
theorem qws {n:Nat} {t:TypeId} {fs:Array Field} (h:qfo P n t=true) (hu:P.underlying t=some (.struct fs)) :
  P.stoodInHeld t=false/\P.eqGuardType P.depth t=false/\∀ f ∈ fs.toList,f.name≠ "_" := by
 cases n with
 | zero=>simp [qfo] at h
 | succ n=>
  simp only [qfo,hu,zA,Bool.not_eq_true'] at h
  refine ⟨h.1.1,h.1.2,fun f hf=>?_⟩
  have:=(Array.all_eq_true'.1 h.2) f (by simpa using hf)
  simp only [zA,bne_iff_ne] at this
  exact this.1
mutual
theorem qlj {E:Env} (hE:E.types=typeOf P) (hok:E.eqOk=qfo P 20):∀ (d D:Nat) (t:TypeId) (x y:V) (rx ry:Value) (b:Bool),d<=D->eqV E d t x y=some b->Rel G w x rx->Rel G w y ry->
  ∀ w',(Op.equalIn D t rx ry).run P w'=.ok b w'
 | 0,_,_,_,_,_,_,_,_,h,_,_=>by simp [eqV] at h
 | d+1,0,_,_,_,_,_,_,hd,_,_,_=>by omega
 | d+1,D+1,t,x,y,rx,ry,b,hd,h,hx,hy=>by
  intro w'
  simp only [eqV,hE] at h
  split at h
  .cases h
  rename_i ti ht
  have hu:=(qj ht).1
  split at h
  .
   rename_i k0 k a k' a' hti
   rw [hti] at hu
   split at h
   .rename_i hk
    subst hk
    cases h
    simp only [Rel] at hx hy
    subst hx;subst hy
    exact run_equalIn_int w' D t k k0 a a' hu
   .cases h
  .rename_i a a' hti
   rw [hti] at hu
   cases h
   simp only [Rel] at hx hy
   subst hx;subst hy
   rw [run_equalIn_string w' D t _ _ hu,toList_mk,toList_mk]
  .rename_i a a' hti
   rw [hti] at hu
   cases h
   simp only [Rel] at hx hy
   subst hx;subst hy
   exact run_equalIn_bool' w' D t _ _ hu
  .rename_i fs xs ys hti
   rw [hti] at hu
   simp only [hok,cond_eq_ite] at h
   split at h
   .rename_i hpl
    obtain ⟨p1,p2,p3⟩:=qws hpl hu
    simp only [Rel] at hx hy
    obtain ⟨ax,rfl,hx⟩:=hx
    obtain ⟨ay,rfl,hy⟩:=hy
    have hfo:P.fieldsOf t=fs:=by simp [Program.fieldsOf,hu]
    rw [run_equalIn_struct w' D t ax ay (by rw [hfo];exact hu) p1,hfo]
    exact qli hE hok d D fs.toList xs ys ax ay b (by omega) h hx hy p3 w'
   .cases h
  all_goals try (
   rename_i hti
   rw [hti] at hu
   cases h
   simp only [Rel] at hx hy
   first
    | (subst hx;subst hy;simp [Op.equalIn,run_underlying hu];done)
    | (subst hx;obtain ⟨_,_,_,_,_,_,_,_,_,rfl,_⟩:=hy;simp [Op.equalIn,run_underlying hu];done)
    | (subst hx;obtain ⟨_,_,_,_,_,_,_,_,rfl,_⟩:=hy;simp [Op.equalIn,run_underlying hu];done)
    | (subst hy;obtain ⟨_,_,_,_,_,_,_,_,_,rfl,_⟩:=hx;simp [Op.equalIn,run_underlying hu];done)
    | (subst hy;obtain ⟨_,_,_,_,_,_,_,_,rfl,_⟩:=hx;simp [Op.equalIn,run_underlying hu];done)
    | (subst hx;obtain ⟨_,_,_,_,_,_,rfl,_⟩:=hy;simp [Op.equalIn,run_underlying hu];done)
    | (subst hy;obtain ⟨_,_,_,_,_,_,rfl,_⟩:=hx;simp [Op.equalIn,run_underlying hu];done)
    | (subst hx;obtain ⟨_,_,_,rfl,_⟩:=hy;simp [Op.equalIn,run_underlying hu];done)
    | (subst hy;obtain ⟨_,_,_,rfl,_⟩:=hx;simp [Op.equalIn,run_underlying hu];done)
    | (subst hx;obtain ⟨_,_,_,_,rfl⟩:=hy;simp [Op.equalIn,run_underlying hu];done)
    | (subst hy;obtain ⟨_,_,_,_,rfl⟩:=hx;simp [Op.equalIn,run_underlying hu];done)
    | (subst hx;obtain ⟨_,_,_,_,_,_,rfl⟩:=hy;simp [Op.equalIn,run_underlying hu,samePointer];done)
    | (subst hy;obtain ⟨_,_,_,_,_,_,rfl⟩:=hx;simp [Op.equalIn,run_underlying hu,samePointer];done)
    | (subst hx;obtain ⟨_,rfl,_⟩:=hy;simp [Op.equalIn,run_underlying hu];done)
    | (subst hy;obtain ⟨_,rfl,_⟩:=hx;simp [Op.equalIn,run_underlying hu];done)
   done)
  .rename_i el nm g off lim nm' g' off' lim' hti
   rw [hti] at hu
   simp only [zI,cond_eq_ite,zA,Bool.not_eq_true',Nat.beq_eq] at h
   obtain ⟨ei,hei,h⟩:=h
   split at h
   .rename_i hc
    obtain ⟨c1,rfl,rfl⟩:=hc
    have c1:ei.size≠0:=by
     intro h0;rw [h0] at c1;cases c1
    cases h
    simp only [Rel] at hx hy
    obtain ⟨b1,sh1,n1,q1,q2,q3,rfl⟩:=hx
    obtain ⟨b2,sh2,n2,q4,q5,q6,rfl⟩:=hy
    rw [q1] at q4
    cases q4
    simp [Op.equalIn,run_underlying hu,zx hei,c1,sameAddr]
    rw [Bool.eq_iff_iff]
    simp only [beq_iff_eq,Nat.beq_eq]
    constructor
    .intro hh;simp only [Addr.mk.injEq,true_and,and_true] at hh;omega
    .intro hh;subst hh;rfl
   .cases h
  .cases h
theorem qli {E:Env} (hE:E.types=typeOf P) (hok:E.eqOk=qfo P 20):∀ (d D:Nat) (fs:List Field) (xs ys:List V) (rxs rys:Array Value) (b:Bool),d<=D->eqFields E d fs xs ys=some b->qm G w xs rxs.toList->qm G w ys rys.toList->
  (∀ f ∈ fs,f.name≠ "_")->∀ w',(Op.eqFields D rxs rys fs).run P w'=.ok b w'
 | 0,_,_,_,_,_,_,_,_,h,_,_,_=>by simp [eqFields] at h
 | d+1,D,fs,xs,ys,rxs,rys,b,hd,h,hx,hy,hn=>by
  intro w'
  cases fs with
  | nil=>
   simp only [eqFields,zS] at h
   subst h
   simp [Op.eqFields]
  | cons f fs=>
   simp only [eqFields,hE] at h
   split at h
   .cases h
   rename_i ti ht
   simp only [zI] at h
   obtain ⟨u,h1,v,h2,r,h3,h4⟩:=h
   obtain ⟨ru,q1,q2⟩:=qik ht hx h1
   obtain ⟨rv,q3,q4⟩:=qik ht hy h2
   have heq:=qlj hE hok d D f.type u v ru rv r (by omega) h3 q2 q4
   simp only [Op.eqFields,hn f (by simp),ne_eq,not_false_eq_true,if_true,Sem.run_bind,q1,q3,Result.andThen_ok,heq]
   cases r with
   | true=>
    simp only [zO] at h4
    simp only [Bool.not_true,Bool.false_eq_true,if_false]
    exact qli hE hok d D fs xs ys rxs rys b (by omega) h4 hx hy (fun f hf=>hn f (by simp [hf])) w'
   | false=>
    simp only [zQ,zS] at h4
    subst h4
    simp
end
end
end Go.E2
/- E2: single operations against the model's, fourth part. -/
namespace Go.E2
open Go
section
variable {P:Program} {o:Oper} {a:Act} {H:Heap} {G:qi} {w:World} {fr:Fr}
def ql6:Value->Bool
 | .int .. | .float .. | .complex .. | .string _=>false
 | _=>true
theorem q6a {t:TypeId} {x y:Value} (hx:ql6 x=true):binOp .eql t x y=(do pure (.bool (<-Op.equal t x y))):=by
 cases x<;>first
  | (simp [ql6] at hx;done)
  | (cases y<;>rfl)
theorem q6b {t:TypeId} {x y:Value} (hx:ql6 x=true):binOp .neq t x y=(do pure (.bool (!(<-Op.equal t x y)))):=by
 cases x<;>first
  | (simp [ql6] at hx;done)
  | (cases y<;>rfl)
theorem qz9 {x:V} {rx:Value} (hx:Rel G w x rx) (h1:∀ k n,x≠.int k n) (h2:∀ s,x≠.str s):ql6 rx=true:=by
 cases x with
 | int k n=>exact absurd rfl (h1 k n)
 | str s=>exact absurd rfl (h2 s)
 | ptr nm g off lim=>simp only [Rel] at hx;obtain ⟨b,sh,n,_,_,_,rfl⟩:=hx;rfl
 | slice nm g off len sz cap=>simp only [Rel] at hx;obtain ⟨b,sh,n,ro,c,e,m,_,_,rfl,_⟩:=hx;rfl
 | func f a b=>simp only [Rel] at hx;obtain ⟨_,_,_,rfl,_⟩:=hx;rfl
 | iface t y=>simp only [Rel] at hx;obtain ⟨y',rfl,_⟩:=hx;rfl
 | agg cs=>simp only [Rel] at hx;obtain ⟨y',rfl,_⟩:=hx;rfl
 | tuple cs=>simp only [Rel] at hx;obtain ⟨y',rfl,_⟩:=hx;rfl
 | map nm=>simp only [Rel] at hx;obtain ⟨b,sh,n,_,rfl⟩:=hx;rfl
 | _=>simp only [Rel] at hx;subst hx;rfl
theorem eq_left {E:Env} {d:Nat} {t:TypeId} {x y:V} {b:Bool} (h:eqV E d t x y=some b) :
  (∃ k n k' n',x=.int k n/\y=.int k' n')∨(∃ s s',x=.str s/\y=.str s')∨((∀ k n,x≠.int k n)/\(∀ s,x≠.str s)):=by
 cases d with
 | zero=>simp [eqV] at h
 | succ d=>
  unfold eqV at h
  split at h
  .cases h
  .split at h<;>first
    | (exfalso;cases h;done)
    | exact .inl ⟨_,_,_,_,rfl,rfl⟩
    | exact .inr (.inl ⟨_,_,rfl,rfl⟩)
    | exact .inr (.inr ⟨fun _ _=>by simp,fun _=>by simp⟩)
    | (cases h;done)
theorem q3u {E:Env} (hE:E.types=typeOf P) (hok:E.eqOk=qfo P 20) {op:BinOp} {t:TypeId} {x y v:V} {rx ry:Value} (hx:Rel G w x rx) (hy:Rel G w y ry) (h:qaz E op t x y=some v) :
  ∃ z,(∀ w',(binOp op t rx ry).run P w'=.ok z w')/\Rel G w v z:=by
 unfold qaz at h
 split at h
 .simp only [Rel] at hx hy
  subst hx;subst hy
  exact qs1 t (.inl rfl) h
 .simp only [Rel] at hx hy
  subst hx;subst hy
  exact qs1 t (.inr rfl) h
 .simp only [Rel] at hx hy
  subst hx;subst hy
  split at h
  .rename_i hk
   subst hk
   exact zc1 t h
  .cases h
 .simp only [Rel] at hx hy
  subst hx;subst hy
  exact zd9 t h
 .rename_i hn1 hn2
  simp only [zM] at h
  obtain ⟨b,h1,rfl⟩:=h
  rcases eq_left h1 with ⟨k,n,k',n',rfl,rfl⟩ | ⟨s,s',rfl,rfl⟩ | ⟨h2,h3⟩
  .exact (hn1 _ _ _ _ rfl rfl).elim
  .exact (hn2 _ _ rfl rfl).elim
  .rw [q6a (qz9 hx h2 h3)]
   have:=qlj hE hok 1000 Op.maxDepth t _ _ _ _ b (by simp [Op.maxDepth]) h1 hx hy
   exact ⟨.bool b,fun w'=>by simp [Op.equal,this],by simp [Rel]⟩
 .rename_i hn1 hn2
  simp only [zM] at h
  obtain ⟨b,h1,rfl⟩:=h
  rcases eq_left h1 with ⟨k,n,k',n',rfl,rfl⟩ | ⟨s,s',rfl,rfl⟩ | ⟨h2,h3⟩
  .exact (hn1 _ _ _ _ rfl rfl).elim
  .exact (hn2 _ _ rfl rfl).elim
  .rw [q6b (qz9 hx h2 h3)]
   have:=qlj hE hok 1000 Op.maxDepth t _ _ _ _ b (by simp [Op.maxDepth]) h1 hx hy
   exact ⟨.bool (!b),fun w'=>by simp [Op.equal,this],by simp [Rel]⟩
 .cases h
theorem zl2 (hs:Sim H G w) (e:SimFr G w fr a) {op:UnOp} {t:TypeId} {x:Operand} (ho:o.op=.unOp op t x) {p v:V} (hp:opd fr H x=some p) (h:q6o op p=some v):z7 P o a H G w H (.val v):=by
 have h1:=qp hs e hp
 unfold q6o at h
 split at h<;>try (cases h;done)
 all_goals
  cases h
  simp only [Rel] at h1
  refine z7.pure hs (by simp [execOp,ho,h1,Op.unary,Op.intArith,Op.intBits];rfl) (by simp [Rel])
theorem q8f (hs:Sim H G w) (e:SimFr G w fr a) {src dst:TypeId} {si di:TI} (hsi:typeOf P src=some si) (hdi:typeOf P dst=some di) {k0 k:IntKind} (hus:si.under=.int k0) (hud:di.under=.int k) {x:Operand} (ho:o.op=.convert src dst x)
  {k':IntKind} {n:Int} (hp:opd fr H x=some (.int k' n)):z7 P o a H G w H (.val (.int k (k.wrap n))):=by
 have h1:=qp hs e hp
 simp only [Rel] at h1
 have hu1:P.underlying src=some (.int k0):=hus ▸ (qj hsi).1
 have hu2:P.underlying dst=some (.int k):=hud ▸ (qj hdi).1
 refine z7.pure hs (x:=.int k (k.wrap n)) ?_ (by simp [Rel])
 simp [execOp,ho,h1,convert,run_underlying hu1,run_underlying hu2,Conv.intToInt]
theorem q8g (hs:Sim H G w) (e:SimFr G w fr a) {src dst:TypeId} {si di:TI} (hsi:typeOf P src=some si) (hdi:typeOf P dst=some di) (hus:si.under=.string) (hud:di.under=.string) {x:Operand} (ho:o.op=.convert src dst x)
  {s:List UInt8} (hp:opd fr H x=some (.str s)):z7 P o a H G w H (.val (.str s)):=by
 have h1:=qp hs e hp
 have h1':=h1
 simp only [Rel] at h1
 have hu1:P.underlying src=some .string:=hus ▸ (qj hsi).1
 have hu2:P.underlying dst=some .string:=hud ▸ (qj hdi).1
 refine z7.pure hs (x:=a.eval x) ?_ h1'
 rw [h1]
 simp [execOp,ho,h1,convert,run_underlying hu1,run_underlying hu2]
theorem qri (hs:Sim H G w) (e:SimFr G w fr a) {t:TypeId} {ti:TI} (ht:typeOf P t=some ti) (hni:∀ ms,ti.under≠.interface ms) {x:Operand} (ho:o.op=.makeInterface t x) {p:V} (hp:opd fr H x=some p):z7 P o a H G w H (.val (.iface t p)):=by
 have h1:=qp hs e hp
 refine z7.pure hs (x:=.iface t (a.eval x)) ?_ (by simp only [Rel];exact ⟨_,rfl,h1⟩)
 have hu:=(qj ht).1
 simp only [execOp,ho,Instr.makeInterface,Sem.run_bind,run_underlying hu,Result.andThen_ok]
 generalize hd:ti.under=d
 rw [hd] at hni
 cases d<;>first | (exact absurd rfl (hni _)) | simp
theorem q5q (hs:Sim H G w) (e:SimFr G w fr a) {f:FuncId} {first captured:Array Operand} (ho:o.op=.makeFunc (.func f) first captured) {p q:List V} (hp:qbj fr H first.toList=some p) (hq:qbj fr H captured.toList=some q) :
  z7 P o a H G w H (.val (.func (.func f) p q)):=by
 refine z7.pure hs (x:=.func (.func f) (first.map a.eval) (captured.map a.eval)) (by simp [execOp,ho,Instr.makeFunc]) ?_
 simp only [Rel]
 exact ⟨_,_,_,rfl,rfl,by simpa using qey hs e hp,by simpa using qey hs e hq⟩
theorem q8h (hs:Sim H G w) (e:SimFr G w fr a) {x:Operand} {i:Nat} (ho:o.op=.extract x i) {vs:List V} {v:V} (hp:opd fr H x=some (.tuple vs)) (h:vs[i]? = some v):z7 P o a H G w H (.val v):=by
 have h1:=qp hs e hp
 simp only [Rel] at h1
 obtain ⟨arr,h1,h2⟩:=h1
 obtain ⟨y,h3,h4⟩:=h2.get h
 refine z7.pure hs (x:=y) ?_ h4
 have:arr[i]? = some y:=by simpa using h3
 simp [execOp,ho,h1,Instr.extract,this]
theorem zhv (hs:Sim H G w) (e:SimFr G w fr a) {t:TypeId} {ti fi:TI} (ht:typeOf P t=some ti) {k:Nat} {f:Field} (hf:qfg ti k=some f) (hfi:typeOf P f.type=some fi) {x:Operand} (ho:o.op=.field t x k) {cs:List V} {v:V}
  (hp:opd fr H x=some (.agg cs)) (h:qi8 fi cs f.offset=some v):z7 P o a H G w H (.val v):=by
 have h1:=qp hs e hp
 simp only [Rel] at h1
 obtain ⟨arr,h1,h2⟩:=h1
 obtain ⟨fs,hu,hk,hus⟩:=qw0 ht hf
 obtain ⟨y,h3,h4⟩:=qik hfi h2 h
 refine z7.pure hs (x:=y) ?_ h4
 simp [execOp,ho,h1,Instr.field,run_underlying hus,hk,asAgg,h3]
theorem q5p (hs:Sim H G w) (e:SimFr G w fr a) {t:TypeId} {ti:TI} (ht:typeOf P t=some ti) (hu:ti.under=.string) {x i:Operand} (ho:o.op=.index t x i) {s:List UInt8} {k:IntKind} {j:Int} {b:UInt8}
  (hp:opd fr H x=some (.str s)) (hq:opd fr H i=some (.int k j)) (hj:0<=j) (h:s[j.toNat]? = some b):z7 P o a H G w H (.val (.int .u8 b.toNat)):=by
 have h1:=qp hs e hp
 have h2:=qp hs e hq
 simp only [Rel] at h1 h2
 have hus:P.underlying t=some .string:=hu ▸ (qj ht).1
 refine z7.pure hs (x:=.int .u8 b.toNat) ?_ (by simp [Rel])
 have hg:(ByteArray.mk s.toArray)[j.toNat]? = some b:=by
  have hlt:j.toNat<s.length:=by
   rw [List.getElem?_eq_some_iff] at h;exact h.1
  rw [List.getElem?_eq_getElem hlt] at h
  have hlt':j.toNat<(ByteArray.mk s.toArray).size:=by simpa [ByteArray.size] using hlt
  rw [getElem?_pos (ByteArray.mk s.toArray) j.toNat hlt']
  exact h
 simp [execOp,ho,h1,h2,Instr.index,asIntOf,run_underlying hus,hj,hg]
theorem q5o (hs:Sim H G w) (e:SimFr G w fr a) {t el:TypeId} {n:Nat} {ti ei:TI} (ht:typeOf P t=some ti) (hu:ti.under=.array n el) (hel:typeOf P el=some ei) {x i:Operand} (ho:o.op=.index t x i) {cs:List V} {k:IntKind} {j:Int} {v:V}
  (hp:opd fr H x=some (.agg cs)) (hq:opd fr H i=some (.int k j)) (hj:0<=j/\j<n) (h:qi8 ei cs (j.toNat * ei.size)=some v):z7 P o a H G w H (.val v):=by
 have h1:=qp hs e hp
 have h2:=qp hs e hq
 simp only [Rel] at h1 h2
 obtain ⟨arr,h1,h1'⟩:=h1
 have hus:P.underlying t=some (.array n el):=hu ▸ (qj ht).1
 obtain ⟨y,h3,h4⟩:=qik hel h1' h
 refine z7.pure hs (x:=y) ?_ h4
 simp [execOp,ho,h1,h2,Instr.index,asIntOf,run_underlying hus,hj,zx hel,h3]
theorem zlx (hs:Sim H G w) (e:SimFr G w fr a) {c:Go.Call} {f:Operand} (ho:o.op=.call c) (hc:c.callee=.value f) {args:List V} {fv:V} {tgt:Tgt} {vs:List V} (hargs:qbj fr H c.args.toList=some args) (hf:opd fr H f=some fv)
  (h:qds fv args=some (.call tgt vs)):z7 P o a H G w H (.call tgt vs):=by
 have h1:=qey hs e hargs
 have h2:=qp hs e hf
 have hargs':(c.args.map a.eval).toList=c.args.toList.map a.eval:=by simp
 cases fv with
 | func fn first captured=>
  simp only [Rel] at h2
  obtain ⟨fn',ra,rc,h3,h4,h5,h6⟩:=h2
  cases fn with
  | func g=>
   simp only [qds,zS,Out.call.injEq] at h
   obtain ⟨rfl,rfl⟩:=h
   simp only [qgo] at h4
   subst h4
   refine ⟨rfl,.fn (.func g) rc,ra++c.args.map a.eval,?_,rc,rfl,?_⟩
   .simp [execOp,ho,resolve,hc,h3,Deferred.ofValue]
   .rw [Array.toList_append,hargs']
    exact (h5.append h1).append h6
  | yield l=>
   simp only [qds,zS,Out.call.injEq] at h
   obtain ⟨rfl,rfl⟩:=h
   obtain ⟨b,sh,n,h7,rfl⟩:=h4
   refine ⟨rfl,.fn (.yield b) rc,ra++c.args.map a.eval,?_,rc,b,sh,n,rfl,h7,?_⟩
   .simp [execOp,ho,resolve,hc,h3,Deferred.ofValue]
   .rw [Array.toList_append,hargs']
    exact h5.append h1
  | _=>simp [qds] at h
 | _=>simp [qds] at h
theorem zht {E:Env} (hE:E.types=typeOf P) (hok:E.eqOk=qfo P 20) (hs:Sim H G w) (e:SimFr G w fr a) {op:BinOp} {t t':TypeId} {x y:Operand} (ho:o.op=.binOp op t x y t') {p q v:V} (hp:opd fr H x=some p) (hq:opd fr H y=some q)
  (hg:∀ w',(eqGuard op t x y (a.eval x) (a.eval y)).run P w'=.ok () w') (h:qaz E op t p q=some v):z7 P o a H G w H (.val v):=by
 obtain ⟨z,h1,h2⟩:=q3u hE hok (qp hs e hp) (qp hs e hq) h
 refine z7.pure hs (x:=z) ?_ h2
 simp [execOp,ho,hg,h1]
theorem qb3 (hs:Sim H G w) (e:SimFr G w fr a) {c:Go.Call} {b:Builtin} (ho:o.op=.call c) (hc:c.callee=.builtin b) {args:List V} (hargs:qbj fr H c.args.toList=some args) :
  qm G w args (c.args.map a.eval).toList/\∃ cs,(execOp a.eval o).run P w=(builtin b c.argTypes o.type cs (c.args.map a.eval)).run P w:=by
 refine ⟨by simpa using qey hs e hargs,(c.args.map fun | .const _=>true | _=>false),?_⟩
 simp only [execOp,ho,resolve,hc,Sem.run_bind,Sem.run_pure,Result.andThen_ok,invoke]
 rfl
end
end Go.E2
/- E2: single operations against the model's, fifth part: builtins, slices, builds. -/
namespace Go.E2
open Go
section
variable {P:Program} {o:Oper} {a:Act} {H:Heap} {G:qi} {w:World} {fr:Fr}
theorem qak {lo hi:Nat} {x:Option V} {rx:Option Value} (hx:match x,rx with | none,none=>True | some v,some r=>Rel G w v r | _,_=>False) {d n:Nat} (h:jw lo hi x d=some n) :
  (x=none/\rx=none/\n=d)∨∃ k i,x=some (.int k i)/\rx=some (.int k i)/\(lo:Int)<=i/\i<=hi/\n=i.toNat:=by
 cases x with
 | none=>
  cases rx with
  | none=>simp only [jw,zS] at h;exact .inl ⟨rfl,rfl,h.symm⟩
  | some r=>exact hx.elim
 | some v=>
  cases rx with
  | none=>exact hx.elim
  | some r=>
   cases v with
   | int k i=>
    simp only [Rel] at hx
    subst hx
    simp only [jw] at h
    split at h
    .rename_i hc
     cases h
     exact .inr ⟨k,i,rfl,rfl,hc.1,hc.2,rfl⟩
    .cases h
   | _=>simp [jw] at h
theorem run_sliceBound {k:IntKind} {i:Int} {y:Nat} {c:BoundsCode} (h0:0<=i) (h1:i<=y):∀ w',(Instr.sliceBound (.int k i) y c).run P w'=.ok i.toNat w':=by
 intro w'
 simp [Instr.sliceBound,asIntOf,h0,h1]
def zjr (G:qi) (w:World) (x:Option V) (rx:Option Value):Prop:=
 match x,rx with
 | none,none=>True
 | some v,some r=>Rel G w v r
 | _,_=>False
theorem qew (hs:Sim H G w) (e:SimFr G w fr a) {x:Option Operand} {v:Option V} (h:qje fr H x=some v):zjr G w v (x.map a.eval):=by
 cases x with
 | none=>simp only [qje,zS] at h;subst h;trivial
 | some x=>
  simp only [qje,zM] at h
  obtain ⟨u,h1,rfl⟩:=h
  exact qp hs e h1
theorem qd2 {isSlice:Bool} {len cap c:Nat} {lo hi:Option V} {rlo rhi:Option Value} (h1:zjr G w lo rlo) (h2:zjr G w hi rhi) {l h:Nat} (hh:jw 0 c hi len=some h) (hl:jw 0 h lo 0=some l) (hc:c<=cap) (hlen:len<=c) :
  l<=h/\h<=c/\∀ w',(Instr.sliceBounds isSlice len cap rlo rhi none).run P w'=.ok (l,h,cap) w':=by
 have e2:=qak h2 hh
 have e1:=qak h1 hl
 rcases e2 with ⟨rfl,rfl,rfl⟩ | ⟨k,i,rfl,rfl,i0,i1,rfl⟩
 .rcases e1 with ⟨rfl,rfl,rfl⟩ | ⟨k',j,rfl,rfl,j0,j1,rfl⟩
  .exact ⟨Nat.zero_le _,hlen,fun w'=>by simp [Instr.sliceBounds]⟩
  .have j0':0<=j:=by simpa using j0
   exact ⟨by omega,hlen,fun w'=>by simp [Instr.sliceBounds,run_sliceBound j0' j1]⟩
 .have i0':0<=i:=by simpa using i0
  have i2:i<=cap:=by omega
  rcases e1 with ⟨rfl,rfl,rfl⟩ | ⟨k',j,rfl,rfl,j0,j1,rfl⟩
  .exact ⟨Nat.zero_le _,by omega,fun w'=>by simp [Instr.sliceBounds,run_sliceBound i0' i2]⟩
  .have j0':0<=j:=by simpa using j0
   have j1':j<=i.toNat:=j1
   exact ⟨by omega,by omega,fun w'=>by simp [Instr.sliceBounds,run_sliceBound i0' i2,run_sliceBound j0' j1']⟩
theorem extract_mk (s:List UInt8) (l h:Nat):(ByteArray.mk s.toArray).extract l h=⟨((s.take h).drop l).toArray⟩:=by
 apply ByteArray.ext
 simp [ByteArray.data_extract]
 rw [List.drop_take]
theorem q5u (hs:Sim H G w) (e:SimFr G w fr a) {t:TypeId} {ti:TI} (ht:typeOf P t=some ti) (hu:ti.under=.string) {x:Operand} {lo hi:Option Operand} (ho:o.op=.slice t x lo hi none) {s:List UInt8} {vlo vhi:Option V} {v:V}
  (hp:opd fr H x=some (.str s)) (h1:qje fr H lo=some vlo) (h2:qje fr H hi=some vhi) (h:qd9 1 (.str s) vlo vhi none=some v):z7 P o a H G w H (.val v):=by
 have hx:=qp hs e hp
 simp only [Rel] at hx
 have hus:P.underlying t=some .string:=hu ▸ (qj ht).1
 simp only [qd9,V.qc0,qgn,zI,zM] at h
 obtain ⟨hh,h3,l,h4,rfl⟩:=h
 obtain ⟨b1,b2,b3⟩:=qd2 (P:=P) (isSlice:=false) (cap:=s.length) (qew hs e h1) (qew hs e h2) h3 h4 (zN _) (zN _)
 refine z7.pure hs (x:=.string ⟨((s.take hh).drop l).toArray⟩) ?_ (by simp [Rel])
 have hsz:(ByteArray.mk s.toArray).size=s.length:=by simp [ByteArray.size]
 simp [execOp,ho,hx,Instr.sliceAt,run_underlying hus,Instr.slice,hsz,b3,extract_mk]
theorem q8i (hs:Sim H G w) (e:SimFr G w fr a) {t el:TypeId} {ti ei:TI} (ht:typeOf P t=some ti) (hu:ti.under=.slice el) (hel:typeOf P el=some ei) {x:Operand} {lo hi:Option Operand} (ho:o.op=.slice t x lo hi none) {p:V} {vlo vhi:Option V} {v:V}
  (hp:opd fr H x=some p) (h1:qje fr H lo=some vlo) (h2:qje fr H hi=some vhi) (hns:∀ s,p≠.str s) (h:qd9 ei.size p vlo vhi none=some v):z7 P o a H G w H (.val v):=by
 have hx:=qp hs e hp
 have hus:P.underlying t=some (.slice el):=hu ▸ (qj ht).1
 have r1:=qew hs e h1
 have r2:=qew hs e h2
 replace hx:=hx.qc0 ei.size
 unfold qd9 at h
 have hns:∀ s,p.qc0 ei.size≠.str s:=fun s hq=>hns s (V.zin hq)
 generalize p.qc0 ei.size=p at hx h hns
 cases p with
 | str s=>exact absurd rfl (hns s)
 | nils=>
  simp only [Rel] at hx
  have e0:∀ (y:Option V),jw 0 0 (none:Option V) 0=some 0:=fun _=>rfl
  simp only [qgn,jw,zB,zI,zM] at h
  obtain ⟨hh,h3,l,h4,rfl⟩:=h
  obtain ⟨b1,b2,b3⟩:=qd2 (P:=P) (isSlice:=true) (len:=0) (cap:=0) (c:=0) r1 r2 h3 h4 (zN _) (zN _)
  have hh0:hh=0:=by omega
  have hl0:l=0:=by omega
  subst hh0;subst hl0
  refine z7.pure hs (x:=.slice none 0 0) ?_ (by simp [Rel])
  simp [execOp,ho,hx,Instr.sliceAt,run_underlying hus,Instr.slice,b3,zx hel]
 | slice nm g off len sz cap=>
  have hrel:=hx
  simp only [Rel] at hx
  obtain ⟨b,sh,n,ro,c,e',m,ad,q1,q2,q0,q3,q4,q5,q6,q7,q8,q9⟩:=hx
  simp only [qgn,cond_eq_ite,Bool.not_eq_true'] at h
  split at h
  .cases h
  rename_i hz
  have hz:ei.size=sz:=by
   by_cases hq:ei.size=sz
   .exact hq
   .exact absurd (by rw [<-Bool.not_eq_true,Nat.beq_eq];exact hq) hz
  subst hz
  simp only [zI,zM] at h
  obtain ⟨hh,h3,l,h4,rfl⟩:=h
  have hcap:cap.getD len<=c:=by
   cases cap with
   | none=>exact q3
   | some k=>rw [(q7 k rfl).1];exact zN _
  have hlen:len<=cap.getD len:=by
   cases cap with
   | none=>exact zN _
   | some k=>rw [Option.getD_some,<-(q7 k rfl).1];exact q3
  obtain ⟨b1,b2,b3⟩:=qd2 (P:=P) (isSlice:=true) (cap:=c) r1 r2 h3 h4 hcap hlen
  have hs1:l * ei.size<=hh * ei.size:=zU _ b1
  have hs2:hh * ei.size<=c * ei.size:=zU _ (by omega)
  have hs3:(hh-l) * ei.size=hh * ei.size-l * ei.size:=Nat.sub_mul _ _ _
  have hs4:(c-l) * ei.size=c * ei.size-l * ei.size:=Nat.sub_mul _ _ _
  have hext:off+hh * ei.size<=n:=by
   cases cap with
   | none=>
    have:hh * ei.size<=len * ei.size:=zU _ (by simpa using b2)
    omega
   | some k=>
    have:hh * ei.size<=k * ei.size:=zU _ (by simpa using b2)
    have:=(q7 k rfl).2
    omega
  have hcaps:∀ k,cap.map (· - l)=some k->c-l=k/\off+l * ei.size+k * ei.size<=n:=by
   intro k hk
   simp only [zM] at hk
   obtain ⟨k0,h5,rfl⟩:=hk
   obtain ⟨h6,h7⟩:=q7 k0 h5
   subst h6
   refine ⟨rfl,?_⟩
   omega
  refine z7.pure hs (x:=.slice (if c=l then some ad else some (ad.add (l * ei.size))) (hh-l) (c-l)) ?_ ?_
  .simp only [execOp,ho,Option.map_none,Sem.run_bind,q2,Instr.sliceAt,run_underlying hus,Result.andThen_ok,Instr.slice,b3,zx hel,Sem.run_pure,zH]
  .by_cases hcl:c=l
   .rw [zT hcl]
    simp only [Rel]
    exact ⟨b,sh,n,ro,c-l,e',m,ad,q1,rfl,.inl (by omega),by omega,by omega,by omega,.inr (by omega),hcaps,q8,by omega⟩
   .rw [zF hcl]
    simp only [Rel]
    exact ⟨b,sh,n,ro+l * ei.size,c-l,e',m,_,q1,rfl,.inr (by rcases q0 with q0 | q0;omega;rw [q0,qec]),by omega,by omega,by omega,.inl (by omega),hcaps,q8,by omega⟩
 | _=>simp [qgn] at h
theorem qrn {isSlice:Bool} {len cap c:Nat} {lo:Option V} {vhi vmx:V} {rlo:Option Value} {rhi rmx:Value} (h1:zjr G w lo rlo) (h2:Rel G w vhi rhi) (h3:Rel G w vmx rmx) {l h m:Nat} (hm:jw 0 c (some vmx) c=some m) (hh:jw 0 m (some vhi) len=some h) (hl:jw 0 h lo 0=some l) (hc:c<=cap) :
  l<=h/\h<=m/\m<=c/\∀ w',(Instr.sliceBounds isSlice len cap rlo (some rhi) (some rmx)).run P w'=.ok (l,h,m) w':=by
 have e3:=qak (x:=some vmx) (rx:=some rmx) h3 hm
 have e2:=qak (x:=some vhi) (rx:=some rhi) h2 hh
 have e1:=qak h1 hl
 rcases e3 with ⟨h0,_,_⟩ | ⟨k3,i3,_,hr3,i30,i31,rfl⟩
 .cases h0
 rcases e2 with ⟨h0,_,_⟩ | ⟨k2,i2,_,hr2,i20,i21,rfl⟩
 .cases h0
 cases hr3
 cases hr2
 have a3:0<=i3:=by simpa using i30
 have a2:0<=i2:=by simpa using i20
 have b3:i3<=cap:=by omega
 have b2:i2<=i3.toNat:=i21
 rcases e1 with ⟨rfl,rfl,rfl⟩ | ⟨k1,i1,rfl,rfl,i10,i11,rfl⟩
 .exact ⟨Nat.zero_le _,by omega,by omega,fun w'=>by simp [Instr.sliceBounds,run_sliceBound a3 b3,run_sliceBound a2 b2]⟩
 .have a1:0<=i1:=by simpa using i10
  have b1:i1<=i2.toNat:=i11
  exact ⟨by omega,by omega,by omega,fun w'=>by simp [Instr.sliceBounds,run_sliceBound a3 b3,run_sliceBound a2 b2,run_sliceBound a1 b1]⟩
theorem q5t (hs:Sim H G w) (e:SimFr G w fr a) {t el:TypeId} {ti ei:TI} (ht:typeOf P t=some ti) (hu:ti.under=.slice el) (hel:typeOf P el=some ei) {x hi mx:Operand} {lo:Option Operand} (ho:o.op=.slice t x lo (some hi) (some mx)) {nm g off len sz:Nat} {cap:Option Nat} {vlo:Option V} {vhi vmx v:V}
  (hp:opd fr H x=some (.slice nm g off len sz cap)) (h1:qje fr H lo=some vlo) (h2:opd fr H hi=some vhi) (h3:opd fr H mx=some vmx) (h:qd9 ei.size (.slice nm g off len sz cap) vlo (some vhi) (some vmx)=some v):z7 P o a H G w H (.val v):=by
 have hx:=qp hs e hp
 have hus:P.underlying t=some (.slice el):=hu ▸ (qj ht).1
 have r1:=qew hs e h1
 have r2:=qp hs e h2
 have r3:=qp hs e h3
 replace hx:=hx.qc0 ei.size
 unfold qd9 at h
 obtain ⟨z',hz'⟩:∃ z',V.qc0 ei.size (.slice nm g off len sz cap)=.slice nm g off len z' cap:=by
  rcases V.qdo (nm:=nm) (g:=g) (off:=off) (len:=len) (z:=sz) (sz:=ei.size) (cap:=cap) with q | ⟨_,q⟩
  .exact ⟨_,q⟩
  .exact ⟨_,q⟩
 rw [hz'] at hx h
 clear hz' hp
 clear sz
 rename Nat=>sz
 simp only [Rel] at hx
 obtain ⟨b,sh,n,ro,c,e',m',ad,q1,q2,q0,q3,q4,q5,q6,q7,q8,q9⟩:=hx
 simp only [qgn,cond_eq_ite,Bool.not_eq_true'] at h
 split at h
 .cases h
 rename_i hz
 have hz:ei.size=sz:=by
  by_cases hq:ei.size=sz
  .exact hq
  .exact absurd (by rw [<-Bool.not_eq_true,Nat.beq_eq];exact hq) hz
 subst hz
 simp only [zI,zM] at h
 obtain ⟨m,h5,hh,h6,l,h7,rfl⟩:=h
 have hcap:cap.getD len<=c:=by
  cases cap with
  | none=>exact q3
  | some k=>rw [(q7 k rfl).1];exact zN _
 obtain ⟨b1,b2,b3,b4⟩:=qrn (P:=P) (isSlice:=true) (cap:=c) r1 r2 r3 h5 h6 h7 hcap
 have hs1:l * ei.size<=m * ei.size:=zU _ (by omega)
 have hs2:m * ei.size<=c * ei.size:=zU _ (by omega)
 have hs3:(hh-l) * ei.size<=(m-l) * ei.size:=zU _ (by omega)
 have hs4:(m-l) * ei.size=m * ei.size-l * ei.size:=Nat.sub_mul _ _ _
 have hext:off+m * ei.size<=n:=by
  cases cap with
  | none=>
   have:m * ei.size<=len * ei.size:=zU _ (by simpa using b3)
   omega
  | some k=>
   have:m * ei.size<=k * ei.size:=zU _ (by simpa using b3)
   have:=(q7 k rfl).2
   omega
 have hcaps:∀ k,some (m-l)=some k->m-l=k/\off+l * ei.size+k * ei.size<=n:=by
  intro k hk
  cases hk
  exact ⟨rfl,by omega⟩
 refine z7.pure hs (x:=.slice (if m=l then some ad else some (ad.add (l * ei.size))) (hh-l) (m-l)) ?_ ?_
 .simp only [execOp,ho,zH,Sem.run_bind,q2,Instr.sliceAt,run_underlying hus,Result.andThen_ok,Instr.slice,b4,zx hel,Sem.run_pure]
 .by_cases hcl:m=l
  .rw [zT hcl]
   simp only [Rel]
   exact ⟨b,sh,n,ro,m-l,e',m',ad,q1,rfl,.inl (by omega),by omega,by omega,by omega,.inr (by omega),hcaps,q8,by omega⟩
  .rw [zF hcl]
   simp only [Rel]
   exact ⟨b,sh,n,ro+l * ei.size,m-l,e',m',_,q1,rfl,.inr (by rcases q0 with q0 | q0;omega;rw [q0,qec]),by omega,by omega,by omega,.inl (by omega),hcaps,q8,by omega⟩
end
end Go.E2
/- E2: single operations against the model's, sixth part: builds and builtins. -/
namespace Go.E2
open Go
section
variable {P:Program} {o:Oper} {a:Act} {H:Heap} {G:qi} {w:World} {fr:Fr}
theorem qzf (off:Nat):∀ (l:List Value) (k:Nat) (cs:Array Value),off+k+l.length<=cs.size->
  ((l.zipIdx k).foldl (fun (cs:Array Value) (x:Value×Nat)=>cs.setIfInBounds (off+x.2) x.1) cs).toList=cs.toList.take (off+k)++l++cs.toList.drop (off+k+l.length)
 | [],k,cs,_=>by simp
 | v::l,k,cs,h=>by
  simp only [List.zipIdx_cons,List.foldl_cons]
  rw [qzf off l (k+1) (cs.setIfInBounds (off+k) v) (by simp at h ⊢;omega)]
  have e:=list_seg_step cs.toList (off+k) v l (by simp at h ⊢;omega)
  simpa [Array.toList_setIfInBounds,Nat.add_assoc] using e
theorem q2z {cs vs:List V} {l x:List Value} {off:Nat} (h:qm G w cs l) (hv:qm G w vs x):qm G w (setCells cs off vs) (l.take off++x++l.drop (off+x.length)):=by
 unfold setCells
 rw [hv.length]
 exact ((h.take _).append hv).append (h.drop _)
theorem qj8 (place:Nat->Option (Nat×Nat)):∀ (parts:List (Nat×V)) (rparts:List (Nat×Value)) (cells cs:List V) (rcells:Array Value),qm G w cells rcells.toList->
  parts.map (·.1)=rparts.map (·.1)->qm G w (parts.map (·.2)) (rparts.map (·.2))->qfw place cells parts=some cs->∃ rcs,Instr.fill place rcells rparts=some rcs/\qm G w cs rcs.toList
 | [],rparts,cells,cs,rcells,hc,h1,h2,h=>by
  cases rparts with
  | nil=>simp only [qfw,zS] at h;subst h;exact ⟨rcells,rfl,hc⟩
  | cons x r=>simp at h1
 | (i,v)::parts,rparts,cells,cs,rcells,hc,h1,h2,h=>by
  cases rparts with
  | nil=>simp at h1
  | cons x r=>
   obtain ⟨j,y⟩:=x
   simp only [List.map_cons,List.cons.injEq] at h1
   obtain ⟨rfl,h1⟩:=h1
   simp only [List.map_cons] at h2
   rw [qm.q33] at h2
   simp only [qfw] at h
   split at h
   .cases h
   .rename_i off size hp
    simp only [cond_eq_ite,zA,Nat.beq_eq,Nat.ble_eq] at h
    split at h
    .rename_i hcnd
     have hv:=qct h2.1
     have hl:=hv.length
     have hcl:=hc.length
     simp only [Array.length_toList] at hl hcl
     have hr:(y.cells.zipIdx.foldl (fun (cs:Array Value) (x:Value×Nat)=>cs.setIfInBounds (off+x.2) x.1) rcells).toList=rcells.toList.take off++y.cells.toList++rcells.toList.drop (off+y.cells.toList.length):=by
      have:=qzf off y.cells.toList 0 rcells (by simp;omega)
      simp only [Nat.add_zero] at this
      rw [<-this,<-Array.foldl_toList,Array.toList_zipIdx]
     obtain ⟨rcs,e1,e2⟩:=qj8 place parts r (setCells cells off v.cells) cs _ (by rw [hr];exact q2z hc hv) h1 h2.2 h
     refine ⟨rcs,?_,e2⟩
     have c1:y.cells.size=size:=by omega
     have c2:¬ (off+y.cells.size > rcells.size):=by omega
     simp only [Instr.fill,hp]
     rw [zF (by simp only [c1,ne_eq,not_true_eq_false,decide_false,Bool.false_or,decide_eq_true_eq];omega)]
     exact e1
    .cases h
theorem qrk (hs:Sim H G w) (e:SimFr G w fr a) {parts:Array (Nat×Operand)} {vs:List V} (h:qbj fr H (parts.toList.map (·.2))=some vs) :
  (((parts.toList.map (·.1)).zip vs).map (·.1)=((parts.map fun (x:Nat×Operand)=>(x.1,a.eval x.2)).toList).map (·.1))/\
  qm G w (((parts.toList.map (·.1)).zip vs).map (·.2)) (((parts.map fun (x:Nat×Operand)=>(x.1,a.eval x.2)).toList).map (·.2)):=by
 have h1:=qey hs e h
 have hl:=h1.length
 simp only [List.length_map,Array.length_toList] at hl
 constructor
 .rw [List.map_fst_zip (by simp;omega)]
  simp
 .rw [List.map_snd_zip (by simp;omega)]
  simpa [List.map_map,Function.comp_def] using h1
def placeOf (f:Field):Sem (Nat×Nat):=do pure (f.offset,<-sizeOf f.type)
theorem qsl (w':World):∀ (l:List Field),(∀ f ∈ l,∃ ti,typeOf P f.type=some ti)->
  ∃ pl:List (Nat×Nat),(l.mapM placeOf).run P w'=.ok pl w'/\∀ i:Nat,pl[i]? = (l[i]?).bind fun f=>(typeOf P f.type).map fun fi=>(f.offset,fi.size)
 | [],_=>⟨[],by simp,fun i=>by simp⟩
 | f::l,h=>by
  obtain ⟨pl,h1,h2⟩:=qsl w' l (fun g hg=>h g (by simp [hg]))
  obtain ⟨ti,ht⟩:=h f (by simp)
  have h0:(placeOf f).run P w'=.ok (f.offset,ti.size) w':=by simp [placeOf,zx ht]
  refine ⟨(f.offset,ti.size)::pl,?_,fun i=>?_⟩
  .simp [List.mapM_cons,h0,h1]
  .cases i with
   | zero=>simp [ht]
   | succ i=>simpa using h2 i
theorem qwp (hs:Sim H G w) (e:SimFr G w fr a) {t:TypeId} {ti:TI} (ht:typeOf P t=some ti) {fs:Array Field} (hu:ti.under=.struct fs) {parts:Array (Nat×Operand)} (ho:o.op=.build t parts) {vs cs:List V}
  (hv:qbj fr H (parts.toList.map (·.2))=some vs) (hall:∀ f ∈ fs.toList,∃ fi,typeOf P f.type=some fi)
  (h:qfw (fun (i:Nat)=>(fs[i]?).bind fun (f:Field)=>(typeOf P f.type).map fun fi=>(f.offset,fi.size)) ti.zero.cells ((parts.toList.map (·.1)).zip vs)=some cs):z7 P o a H G w H (.val (.agg cs)):=by
 obtain ⟨z,hz,_,hr⟩:=qa4 ht w
 have hus:P.underlying t=some (.struct fs):=hu ▸ (qj ht).1
 obtain ⟨p1,p2⟩:=qrk hs e hv
 obtain ⟨pl,m1,m2⟩:=qsl (P:=P) w fs.toList hall
 obtain ⟨rcs,f1,f2⟩:=qj8 _ _ _ _ _ z.cells (qct (hr G w)) p1 p2 h
 refine z7.pure hs (x:=.agg rcs) ?_ (by simp only [Rel];exact ⟨rcs,rfl,f2⟩)
 have hm:(fs.mapM placeOf).run P w=.ok pl.toArray w:=by
  rw [Array.mapM_eq_mapM_toList]
  simp only [Sem.run_map,m1,Result.andThen_ok]
 have hp:(fun (i:Nat)=>pl.toArray[i]?)=(fun (i:Nat)=>(fs[i]?).bind fun (f:Field)=>(typeOf P f.type).map fun fi=>(f.offset,fi.size)):=by
  funext i
  rw [List.getElem?_toArray,m2 i,Array.getElem?_toList]
 have hb:(fs.mapM (m:=Sem) fun (f:Field)=>do pure (f.offset,<-sizeOf f.type))=fs.mapM placeOf:=rfl
 simp only [execOp,ho,Sem.run_bind,Instr.build,hz,Result.andThen_ok,run_underlying hus,hb,hm,hp,f1,Sem.run_pure]
theorem qx4 (hs:Sim H G w) (e:SimFr G w fr a) {t el:TypeId} {n:Nat} {ti ei:TI} (ht:typeOf P t=some ti) (hu:ti.under=.array n el) (hel:typeOf P el=some ei) {parts:Array (Nat×Operand)} (ho:o.op=.build t parts) {vs cs:List V}
  (hv:qbj fr H (parts.toList.map (·.2))=some vs) (h:qfw (fun i=>some (i * ei.size,ei.size)) ti.zero.cells ((parts.toList.map (·.1)).zip vs)=some cs):z7 P o a H G w H (.val (.agg cs)):=by
 obtain ⟨z,hz,_,hr⟩:=qa4 ht w
 have hus:P.underlying t=some (.array n el):=hu ▸ (qj ht).1
 obtain ⟨p1,p2⟩:=qrk hs e hv
 obtain ⟨rcs,f1,f2⟩:=qj8 _ _ _ _ _ z.cells (qct (hr G w)) p1 p2 h
 refine z7.pure hs (x:=.agg rcs) ?_ (by simp only [Rel];exact ⟨rcs,rfl,f2⟩)
 simp only [execOp,ho,Sem.run_bind,Instr.build,hz,Result.andThen_ok,run_underlying hus,zx hel,f1,Sem.run_pure]
theorem zdy (rz:Array Value) (n:Nat):((Array.range (n * rz.size)).map (fun i=>rz[i % rz.size]!)).toList=(List.replicate n rz.toList).flatten:=by
 rw [Array.toList_map,Array.toList_range]
 induction n with
 | zero=>simp
 | succ n ih=>
  rw [Nat.succ_mul,List.range_add,List.map_append,ih,List.replicate_succ',List.flatten_concat,List.map_map]
  congr 1
  apply List.ext_getElem
  .simp
  .intro i h1 h2
   have hi:i<rz.size:=by simpa using h2
   simp [Nat.mod_eq_of_lt hi,hi]
theorem qor {z:List V} {rz:Array Value} (h:qm G w z rz.toList) (n:Nat):qm G w (List.replicate n z).flatten ((Array.range (n * rz.size)).map (fun i=>rz[i % rz.size]!)).toList:=by
 rw [zdy]
 induction n with
 | zero=>exact qm.nil
 | succ n ih=>simpa [List.replicate_succ] using h.append ih
theorem qkq {e:TypeId} {cells:Array Value}:(Go.newRow e cells).run P w=.ok ⟨w.heap.size,0,none⟩ (push w (.cells cells e)):=by
 simp [Go.newRow]
 rfl
theorem qp7 {nm b n sz c:Nat} {w0:World} {arr:Array Value} {e:TypeId} {len:Nat} (hb:b=w0.heap.size) (hlen:len<=c) (hn:c * sz=n) (ha:arr.size=n) :
  Rel (qfv G nm 0 (b,0,n)) (push w0 (.cells arr e)) (.slice nm 0 0 len sz (some c)) (.slice (some ⟨b,0,none⟩) len c):=by
 subst hb
 have:len * sz<=c * sz:=zU _ hlen
 simp only [Rel]
 exact ⟨w0.heap.size,0,n,0,c,e,arr.size,_,qc2 _ _ _ _,rfl,.inr rfl,hlen,zN _,by omega,.inl rfl,(fun k hk=>by cases hk;exact ⟨rfl,by omega⟩),qm0,by omega⟩
theorem qsd {α:Type} (n:Nat) (l:List α):(List.replicate n l).flatten.length=n * l.length:=by
 simp
theorem qpg (place:Nat->Option (Nat×Nat)):∀ (parts:List (Nat×V)) (cells cs:List V),qfw place cells parts=some cs->cs.length=cells.length
 | [],cells,cs,h=>by simp only [qfw,zS] at h;rw [h]
 | (i,v)::parts,cells,cs,h=>by
  simp only [qfw] at h
  split at h
  .cases h
  .rename_i off size hp
   simp only [cond_eq_ite,zA,Nat.beq_eq,Nat.ble_eq] at h
   split at h
   .rename_i hc
    rw [qpg place parts _ cs h,qc1 (by omega)]
   .cases h
theorem qx5 (hs:Sim H G w) (e:SimFr G w fr a) {t el:TypeId} {len:Nat} {ti ei:TI} (ht:typeOf P t=some ti) (hu:ti.under=.slice el) (hel:typeOf P el=some ei) {parts:Array (Nat×Operand)} (ho:o.op=.buildSlice t len parts) {vs cs:List V}
  (hv:qbj fr H (parts.toList.map (·.2))=some vs) (hb:len * ei.size<=16777216) (h:qfw (fun i=>some (i * ei.size,ei.size)) (List.replicate len ei.zero.cells).flatten ((parts.toList.map (·.1)).zip vs)=some cs) :
  z7 P o a H G w (qfm H cs el) (.val (.slice H.next 0 0 len ei.size (some len))):=by
 obtain ⟨z,hz,hzi,hr⟩:=qa4 hel w
 have hzs:z.cells.size=ei.size:=by
  obtain ⟨_,_,i,z',hi,_,_,hz',_,_,hh⟩:=qj hel
  rw [hi] at hzi
  simp only [zB,hz',zS] at hzi
  rw [<-hzi];exact hh
 have hus:P.underlying t=some (.slice el):=hu ▸ (qj ht).1
 obtain ⟨p1,p2⟩:=qrk hs e hv
 have hz0:=qor (qct (hr G w)) len
 rw [hzs] at hz0
 obtain ⟨rcs,f1,f2⟩:=qj8 _ _ _ _ _ _ hz0 p1 p2 h
 have hstep:=hs.newRow f2 [] el true (fun _=>rfl)
 simp only [zJ,Array.toArray_toList] at hstep
 have hlen:cs.length=len * ei.size:=by
  rw [qpg _ _ _ _ h,qsd,(qj hel).2.2.choose_spec.choose_spec.2.2.2.2.2.1]
 refine ⟨.slice (some ⟨w.heap.size,0,none⟩) len len,_,_,?_,hstep,?_⟩
 .have hnb:¬ (len * ei.size > 2 ^ 24):=by omega
  by_cases h0:len * ei.size=0
  .have f1':Instr.fill (fun i=>some (i * ei.size,ei.size)) #[] (Array.map (fun (x:Nat×Operand)=>(x.1,a.eval x.2)) parts).toList=some rcs:=by
    rw [h0,Array.range_zero'] at f1
    simpa using f1
   simp only [Array.toList_map] at f1'
   simp [execOp,ho,Instr.buildSlice,run_underlying hus,zx hel,h0,f1',qkq,Array.range_zero']
  .simp only [execOp,ho,Sem.run_bind,Instr.buildSlice,run_underlying hus,Result.andThen_ok,zx hel,hnb,if_false,h0,hz,Sem.run_pure,hzs,f1,qkq]
 .have:=f2.length
  exact qp7 rfl (zN _) hlen.symm (by simpa [hlen] using this.symm)
end
end Go.E2
/- E2: single operations against the model's, seventh part. -/
namespace Go.E2
open Go
section
variable {P:Program} {o:Oper} {a:Act} {H:Heap} {G:qi} {w:World} {fr:Fr}
theorem zel {el:TypeId} {ei:TI} (hel:typeOf P el=some ei) {z:Value} (hzi:(P.info? el).bind (·.zero)=some z):z.cells.size=ei.size:=by
 obtain ⟨_,_,i,z',hi,_,_,hz',_,_,hh⟩:=qj hel
 rw [hi] at hzi
 simp only [zB,hz',zS] at hzi
 rw [<-hzi];exact hh
theorem q2m (hs:Sim H G w) (e:SimFr G w fr a) {t el:TypeId} {ti ei:TI} (ht:typeOf P t=some ti) (hu:ti.under=.slice el) (hel:typeOf P el=some ei) {x y:Operand} (ho:o.op=.makeSlice t x y) {l c:Int}
  (hx:opd fr H x=some (.int .i64 l)) (hy:opd fr H y=some (.int .i64 c)) (h0:0<=l) (h1:l<=c) (h2:c * (ei.bytes:Int)<=281474976710656) (h3:c<=281474976710656) :
  z7 P o a H G w (qfm H (List.replicate c.toNat ei.zero.cells).flatten el) (.val (.slice H.next 0 0 l.toNat ei.size (some c.toNat))):=by
 obtain ⟨z,hz,hzi,hr⟩:=qa4 hel w
 have hzs:=zel hel hzi
 have hus:P.underlying t=some (.slice el):=hu ▸ (qj ht).1
 have r1:=qp hs e hx
 have r2:=qp hs e hy
 simp only [Rel] at r1 r2
 have hz0:=qor (qct (hr G w)) c.toNat
 rw [hzs] at hz0
 have hstep:=hs.newRow hz0 [] el true (fun _=>rfl)
 simp only [zJ,Array.toArray_toList] at hstep
 have hzl:ei.zero.cells.length=ei.size:=(qj hel).2.2.choose_spec.choose_spec.2.2.2.2.2.1
 have hlen:(List.replicate c.toNat ei.zero.cells).flatten.length=c.toNat * ei.size:=by rw [qsd,hzl]
 obtain ⟨_,_,i,z',hi,_,hby,_⟩:=qj hel
 have hw1:IntKind.i64.wrap l=l:=IntWalk.i64_in _ (by omega)
 have hw2:IntKind.i64.wrap c=c:=IntWalk.i64_in _ (by omega)
 have hlb:(i.bytes:Int) * l<=281474976710656:=by
  have:(i.bytes:Int) * l<=(i.bytes:Int) * c:=Int.mul_le_mul_of_nonneg_left h1 (by omega)
  rw [hby] at this ⊢
  rw [Int.mul_comm] at h2
  omega
 have hcb:(i.bytes:Int) * c<=281474976710656:=by rw [hby,Int.mul_comm];exact h2
 refine ⟨.slice (some ⟨w.heap.size,0,none⟩) l.toNat c.toNat,_,_,?_,hstep,?_⟩
 .have n1:¬ (c<0):=by omega
  have n2:¬ (281474976710656<(i.bytes:Int) * c):=by omega
  have n3:¬ (l<0):=by omega
  have n4:¬ (c<l):=by omega
  by_cases hk:c.toNat * ei.size=0
  .simp [execOp,ho,Instr.makeSlice,run_underlying hus,r1,r2,asInt,asIntOf,typeInfo,hi,hw1,hw2,n1,n2,n3,n4,zx hel,hk,qkq,Array.range_zero']
  .simp [execOp,ho,Instr.makeSlice,run_underlying hus,r1,r2,asInt,asIntOf,typeInfo,hi,hw1,hw2,n1,n2,n3,n4,zx hel,hk,qkq,hz,hzs]
 .exact qp7 rfl (by omega) hlen.symm (by rw [hlen];simp)
theorem qto {c:Go.Call} {x:V} (hr:qm G w [x] (c.args.map a.eval).toList):∃ rx,c.args.map a.eval = #[rx]/\Rel G w x rx:=by
 simp only [qm] at hr
 obtain ⟨rx,xs,h1,h2,rfl⟩:=hr
 exact ⟨rx,by apply Array.ext';simpa using h1,h2⟩
theorem qqf {c:Go.Call} {x y:V} (hr:qm G w [x,y] (c.args.map a.eval).toList):∃ rx ry,c.args.map a.eval = #[rx,ry]/\Rel G w x rx/\Rel G w y ry:=by
 simp only [qm] at hr
 obtain ⟨rx,xs,h1,h2,ry,ys,rfl,h3,rfl⟩:=hr
 exact ⟨rx,ry,by apply Array.ext';simpa using h1,h2,h3⟩
theorem qxe {α:Type} {x:Array α} {l:List α} (h:x.toList=l):x=l.toArray:=by apply Array.ext';simpa using h
theorem qrh (hs:Sim H G w) (e:SimFr G w fr a) {c:Go.Call} (ho:o.op=.call c) (hc:c.callee=.builtin .len) {x:V} {t:TypeId} {n:Nat} (hargs:qbj fr H c.args.toList=some [x]) (hat:c.argTypes.toList=[t])
  (hrun:∀ rx,Rel G w x rx->∀ ty,(Builtin.len_ #[t] ty #[rx]).run P w=.ok (goInt n) w):z7 P o a H G w H (.val (qcc n)):=by
 obtain ⟨hr,cs,hb⟩:=qb3 hs e ho hc hargs (P:=P)
 obtain ⟨rx,h1,h2⟩:=qto hr
 rw [h1,qxe hat] at hb
 refine z7.pure hs (x:=goInt n) ?_ (by simp [qcc,goInt,Rel])
 rw [hb]
 simp only [builtin,Sem.run_bind,hrun rx h2,Result.andThen_ok,Sem.run_pure]
theorem qzw (hs:Sim H G w) (e:SimFr G w fr a) {c:Go.Call} (ho:o.op=.call c) (hc:c.callee=.builtin .append) {s x v:V} {H':Heap} {t u el:TypeId} {ti ui ei:TI} (hargs:qbj fr H c.args.toList=some [s,x]) (hat:c.argTypes.toList=[t,u])
  (ht:typeOf P t=some ti) (hu:typeOf P u=some ui) (hti:ti.under=.slice el) (hui:(∃ e',ui.under=.slice e')∨ui.under=.string) (hel:typeOf P el=some ei) (h:qcn H el ei.size ei.bytes s x=some (v,H')):z7 P o a H G w H' (.val v):=by
 obtain ⟨hr,cs,hb⟩:=qb3 hs e ho hc hargs (P:=P)
 obtain ⟨rx,ry,h1,h2,h3⟩:=qqf hr
 rw [h1,qxe hat] at hb
 obtain ⟨rv,w',G',e1,e2,e3⟩:=qdr (ty:=o.type) hs (hti ▸ (qj ht).1) (qj hu).1 hui hel h2 h3 h
 refine ⟨rv,w',G',?_,e2,e3⟩
 rw [hb]
 simp only [builtin,Sem.run_bind,e1,Result.andThen_ok,Sem.run_pure]
theorem qj1 {G:qi} {w:World}:∀ {cs:List V} {l:List UInt8} {rl:List Value},qm G w cs rl->qb9 cs=some l->rl=l.map fun b=>Value.int .u8 b.toNat
 | [],l,rl,hr,h=>by
  simp only [qm] at hr
  simp only [qb9,zS] at h
  subst h;subst hr;rfl
 | v::cs,l,rl,hr,h=>by
  simp only [qm] at hr
  obtain ⟨x,xs,rfl,h1,h2⟩:=hr
  unfold qb9 at h
  split at h
  .rename_i heq;cases heq
  .rename_i n vs heq
   cases heq
   split at h
   .rename_i hb
    simp only [zM] at h
    obtain ⟨l',h3,rfl⟩:=h
    simp only [Rel] at h1
    subst h1
    rw [qj1 h2 h3]
    simp only [List.map_cons,List.cons.injEq,Value.int.injEq,true_and,and_true]
    rw [UInt8.toNat_ofNat']
    omega
   .cases h
  .cases h
theorem qib {w:World} {b b':Nat} {n:Nat} (h:b'≠b):(w.freeze ⟨b,0,none⟩ n).heap[b']? = w.heap[b']?:=by
 unfold World.freeze
 split
 .rfl
 .simp only [Array.getElem?_modify]
  rw [zF (fun e=>h e.symm)]
theorem zdi {l:List UInt8} {n:Int} (h:l.length=n.toNat) (h0:0<n):l≠[]:=by
 intro hq
 subst hq
 simp at h
 omega
theorem zlc {l:List UInt8} {n:Int} (h:l.length=n.toNat) (h0:0<n):n=(l.length:Int):=by omega
theorem zdb {l:List UInt8} {n:Int} (h:l.length=n.toNat) (h1:n<=140737488355328):l.length<=9223372036854775807:=by omega
theorem toNat_ne {n:Int} (h0:0<n):n.toNat≠0:=by omega
theorem zg4 {n m k:Nat} {a b:Nat} (h1:a=n) (h2:n<=m) (h3:m-0<=k) (h4:b=a):b<=k:=by omega
theorem Sim.freeze (hs:Sim H G w) {nm g b n:Nat} {cells:List V} {elem:TypeId} {floor frz:Nat} {exact:Bool}
  (ho:H.get nm=some (.row cells elem g floor frz exact)) (hg:G nm g=some (b,0,n)) (hro:H.ro<=nm) {arr:Array Value} {fz:Nat×Nat} (a1:w.heap[b]? = some (.cells arr elem fz)) {m:Nat} (hm:m≠0) :
  Step H G w {H with qa6:=H.qa6.set nm (.row cells elem g floor (max frz m) exact)} G (w.freeze ⟨b,0,none⟩ m):=by
 obtain ⟨q1,q0,q2⟩:=hs.obj nm _ (hs.lt _ _ _ _ _ hg).2 ho
 have hsz:(w.freeze ⟨b,0,none⟩ m).heap.size=w.heap.size:=by unfold World.freeze;split<;>simp
 have hb:∃ fz',(w.freeze ⟨b,0,none⟩ m).heap[b]? = some (.cells arr elem fz')/\∀ i,m<=i->i<fz'.2->i<fz.2:=by
  unfold World.freeze
  rw [zF hm]
  obtain ⟨lo,hi⟩:=fz
  refine ⟨if (lo == hi)=true then (0,0+m) else (min lo 0,max hi (0+m)),by simp only [Array.getElem?_modify,if_true,a1,zH],fun i h1 h2=>?_⟩
  split at h2
  .simp only at h2;omega
  .simp only at h2 ⊢;omega
 obtain ⟨fz',hb1,hb2⟩:=hb
 refine hs.turn nm _ (fun m=>qtk m) (zN _) (fun _ h _=>h) rfl rfl hro (hs.lt _ _ _ _ _ hg).2 (.inr (by rw [ho];simp)) (fun _ _ _ h=>h) (fun _ _ _ h _=>h) (by rw [hsz];exact zN _)
  (fun g' b' sh' n' hg'=>⟨by rw [hsz];exact (hs.lt _ _ _ _ _ hg').1,.inr ⟨_,_,hg'⟩⟩) (fun _ _ _ _ _ _ _ h1 h2 _=>(hs.inj _ _ _ _ _ _ _ _ _ h1 h2).2) (fun b' hb' hne=>qib (fun e=>hne g 0 n (e ▸ hg))) ?_ ?_ (by unfold World.freeze;split<;>exact ⟨rfl,rfl⟩)
 .intro b' x hx
  by_cases hbb:b'=b
  .subst hbb
   simp only [World.shape?,a1,hb1] at hx ⊢
   exact hx
  .simp only [World.shape?,qib hbb] at hx ⊢;exact hx
 .intro hext
  refine ⟨q1,q0,fun g' b' sh' n' hg'=>?_⟩
  obtain ⟨s1,s2,s3,s4,s4',s5⟩:=q2 g' b' sh' n' hg'
  refine ⟨s1,s2,s3,s4,s4',fun hfl=>?_⟩
  obtain ⟨arr1,fz1,t1,t2,t3,t4,t5⟩:=s5 hfl
  by_cases hbb:b'=b
  .subst hbb
   have hsh:(0:Nat)=sh':=(hs.inj _ _ _ _ _ _ _ _ _ hg hg').2
   subst hsh
   rw [a1] at t1
   cases t1
   exact ⟨arr,fz',hb1,t2,kh.ext hext t3,fun hgg i h1 h2=>t4 hgg i (by omega) (hb2 i (by omega) h2),t5⟩
  .exact ⟨arr1,fz1,(qib hbb).trans t1,t2,kh.ext hext t3,fun hgg i h1 h2=>t4 hgg i (by omega) h2,t5⟩
theorem qtd (hs:Sim H G w) (e:SimFr G w fr a) {c:Go.Call} (ho:o.op=.call c) (hc:c.callee=.builtin .unsafeString) {nm g lim:Nat} {n:Int} {pt it elem:TypeId} {ti ei:TI} {cells:List V} {floor frz:Nat} {exact:Bool}
  (hargs:qbj fr H c.args.toList=some [.ptr nm g 0 lim,.int .i64 n]) (hat:c.argTypes.toList=[pt,it]) (ht:typeOf P pt=some ti) (hti:ti.under=.pointer elem) (hel:typeOf P elem=some ei) (hsz:ei.size=1)
  (hob:H.get nm=some (.row cells elem g floor frz exact)) (hn0:0<n) (hn1:n<=140737488355328) {cs:List V} (hcs:jk H n.toNat (.ptr nm g 0 lim)=some cs) {l:List UInt8} (hl:qb9 cs=some l) {H':Heap} (hu:H.upd nm (.row cells elem g floor (max frz n.toNat) exact)=some H') :
  z7 P o a H G w H' (.val (.str l)):=by
 obtain ⟨hr,cs',hb⟩:=qb3 hs e ho hc hargs (P:=P)
 obtain ⟨rx,ry,h1,h2,h3⟩:=qqf hr
 rw [h1,qxe hat] at hb
 obtain ⟨ad,rl,hp,hh,hrl,hlen⟩:=qgz hs h2 hcs
 simp only [Rel] at h2 h3
 obtain ⟨b,sh,m,hg,q1,q2,hv⟩:=h2
 subst h3
 have hsh:sh=0:=by omega
 subst hsh
 rw [hv] at hp
 cases hp
 obtain ⟨u1,rfl⟩:=qft hu
 obtain ⟨p1,p0,p2⟩:=hs.obj nm _ (hs.lt _ _ _ _ _ hg).2 hob
 obtain ⟨_,_,_,_,_,p5⟩:=p2 g b 0 m hg
 obtain ⟨arr,fz,a1,a2,_,_,_⟩:=p5 p1
 have hrl':=qj1 hrl hl
 have hll:l.length=n.toNat:=by
  have:=hrl.length
  rw [hrl',List.length_map] at this
  omega
 have hshp:w.shape? b=some (elem,arr.size):=by simp only [World.shape?,a1]
 have hcc:P.cellsOf elem=1:=by
  obtain ⟨_,_,i,z,hi,hs',_⟩:=qj hel
  simp [Program.cellsOf,hi,hs',hsz]
 have hlm:n.toNat<=m:=by
  clear p5 p2 a1 hcc
  simp only [jk,hob,cond_eq_ite,zA,Nat.ble_eq] at hcs
  split at hcs
  .rename_i hq
   exact zR (Nat.zero_add n.toNat ▸ hq.1.2) q2
  .cases hcs
 have hle:l.length<=arr.size:=zg4 rfl hlm a2 hll
 have hne:l≠[]:=zdi hll hn0
 have hnl:(n:Int)=(l.length:Int):=zlc hll hn0
 have hrun:=Lib.run_unsafeString_row (P:=P) w pt it o.type elem (hti ▸ (qj ht).1) hcc b arr.size hshp l hne hle (zdb hll hn1) (fun j x hj=>by
  have:=hh j (.int .u8 x.toNat) (by rw [hrl'];simp [hj])
  exact this)
 refine ⟨.string ⟨l.toArray⟩,_,G,?_,hs.freeze hob hg u1 a1 (m:=n.toNat) (toNat_ne hn0),by simp only [Rel]⟩
 rw [hb,hv,hnl]
 simp only [builtin,Sem.run_bind,hrun,Result.andThen_ok,Sem.run_pure,Nat.sub_zero]
 rfl
theorem qoc (hs:Sim H G w) (e:SimFr G w fr a) {c:Go.Call} (ho:o.op=.call c) (hc:c.callee=.builtin .unsafeString) {pt it:TypeId}
  (hargs:qbj fr H c.args.toList=some [.nilp,.int .i64 0]) (hat:c.argTypes.toList=[pt,it]):z7 P o a H G w H (.val (.str [])):=by
 obtain ⟨hr,cs',hb⟩:=qb3 hs e ho hc hargs (P:=P)
 obtain ⟨rx,ry,h1,h2,h3⟩:=qqf hr
 rw [h1,qxe hat] at hb
 simp only [Rel] at h2 h3
 subst h2;subst h3
 refine z7.pure hs (x:=.string .empty) ?_ (by simp only [Rel];rfl)
 rw [hb]
 simp only [builtin,Sem.run_bind,Lib.run_unsafeString_none,Result.andThen_ok,Sem.run_pure]
theorem q2j (hs:Sim H G w) (e:SimFr G w fr a) {src dst el:TypeId} {si di ei:TI} (hsi:typeOf P src=some si) (hdi:typeOf P dst=some di) (hel:typeOf P el=some ei) (hus:si.under=.slice el) (hue:ei.under=.int .u8)
  (hud:di.under=.string) {x:Operand} (ho:o.op=.convert src dst x) {p:V} (hp:opd fr H x=some p) (hps:∀ s,p≠.str s) {r:Nat×List V} (hr:kp H 1 p=some r) {l:List UInt8} (hl:qb9 r.2=some l):z7 P o a H G w H (.val (.str l)):=by
 have hrel:=qp hs e hp
 have hu1:P.underlying src=some (.slice el):=hus ▸ (qj hsi).1
 have hu2:P.underlying dst=some .string:=hud ▸ (qj hdi).1
 have hu3:P.underlying el=some (.int .u8):=hue ▸ (qj hel).1
 obtain ⟨n,cs⟩:=r
 have hex:execOp a.eval o=(do let v <-convert src dst (a.eval x);pure (.value v)):=by simp only [execOp,ho]
 generalize a.eval x=rx at hrel hex
 obtain ⟨rl,h1,h2,h3⟩:=qiu hs hrel hr
 have h4:=(h3 w rfl).2
 have hrl:=qj1 h1 hl
 cases p with
 | str s=>exact (hps s rfl).elim
 | nils=>
  simp only [Rel] at hrel
  simp only [kp,V.qc0,qbu,zS,zP] at hr
  obtain ⟨rfl,rfl⟩:=hr
  simp only [qb9,zS] at hl
  subst hl
  refine z7.pure hs (x:=.string .empty) ?_ (by simp only [Rel];rfl)
  simp only [hex,Sem.run_bind,hrel,run_convert_bytes_nil w src el hu1 hu3 0 0 dst hu2,Result.andThen_ok,Sem.run_pure]
 | slice nm g off len sz cap=>
  have hrel':=hrel
  simp only [Rel] at hrel'
  obtain ⟨b,sh,m,ro,c,e',k,ad,e1,e2,_⟩:=hrel'
  subst e2
  have hlen:n=len:=qny hr
  subst hlen
  have hlc:(loadCells ad n).run P w=.ok ((l.map fun x=>(x.toNat:Int)).map (Value.int .u8)).toArray w:=by
   simp only [Builtin.firstCells,Nat.mul_one] at h4
   rw [h4,hrl]
   simp [List.map_map]
  have hstr:(⟨ByteArray.empty.data++((l.map fun x=>(x.toNat:Int)).map fun n=>UInt8.ofNat n.toNat).toArray⟩:ByteArray)=⟨l.toArray⟩:=by
   apply ByteArray.ext
   have hm:(l.map fun x=>(x.toNat:Int)).map (fun n=>UInt8.ofNat n.toNat)=l:=by
    rw [List.map_map]
    conv=>rhs;rw [<-List.map_id l]
    refine List.map_congr_left fun x _=>?_
    simp
   rw [hm]
   show #[]++l.toArray=l.toArray
   simp
  refine z7.pure hs (x:=.string ⟨l.toArray⟩) ?_ (by simp only [Rel])
  simp only [hex,Sem.run_bind,run_convert_bytes_string w src dst el _ _ _ hu1 hu3 hu2,run_bytesToString w _ _ _ _ hlc,Result.andThen_ok,Sem.run_pure,foldl_push_bytes,hstr]
 | _=>simp [kp,V.qc0,qbu] at hr
end
end Go.E2
/- E2: single operations on maps against the model's. -/
namespace Go.E2
open Go
section
variable {P:Program} {o:Oper} {a:Act} {H:Heap} {G:qi} {w:World} {fr:Fr}
theorem qqr (x y:List UInt8):((⟨x.toArray⟩:ByteArray) == ⟨y.toArray⟩)=(x == y):=by
 have h0:((⟨x.toArray⟩:ByteArray) == ⟨y.toArray⟩)=(x.toArray == y.toArray):=rfl
 rw [h0,Bool.eq_iff_iff,beq_iff_eq,beq_iff_eq]
 exact ⟨fun h=>by simpa using congrArg Array.toList h,fun h=>by rw [h]⟩
theorem qnn {kd:TypeDesc} {x y:V} {rx ry:Value} (hx:Rel G w x rx) (hy:Rel G w y ry) {b:Bool} (h:qiq kd x y=some b):Instr.sameNow kd rx ry=some b/\(b=true->ry=rx/\Instr.sameBits 10000 ry rx=true):=by
 unfold qiq at h
 split at h
 .rename_i k i k' j
  simp only [Rel] at hx hy
  subst hx;subst hy
  split at h
  .rename_i hk
   subst hk
   cases h
   refine ⟨by simp [Instr.sameNow],fun hb=>?_⟩
   simp only [beq_iff_eq] at hb
   subst hb
   exact ⟨rfl,by simp [Instr.sameBits]⟩
  .cases h
 .rename_i s t
  simp only [Rel] at hx hy
  subst hx;subst hy
  cases h
  refine ⟨by simp only [Instr.sameNow,qqr],fun hb=>?_⟩
  simp only [beq_iff_eq] at hb
  subst hb
  exact ⟨rfl,by simp [Instr.sameBits,qqr]⟩
 .rename_i s t
  simp only [Rel] at hx hy
  subst hx;subst hy
  cases h
  refine ⟨by simp [Instr.sameNow],fun hb=>?_⟩
  simp only [beq_iff_eq] at hb
  subst hb
  exact ⟨rfl,by simp [Instr.sameBits]⟩
 .cases h
theorem qe3 {kd:TypeDesc} {k:V} {rk:Value} (hk:Rel G w k rk):∀ (es:List (V×V×Nat)) (l:List MapEntry) (i:Nat) (r:Option (Nat×V)),qan G w es l->qlm kd k es i=some r->
  (r=none/\Instr.findNow kd rk l i=some none)∨∃ j v x e,r=some (j,v)/\Instr.findNow kd rk l i=some (some (j,x))/\Rel G w v x/\i<=j/\l[j-i]? = some e/\Instr.sameBits 10000 e.key rk=true
 | [],l,i,r,hm,h=>by
  simp only [qan] at hm
  subst hm
  simp only [qlm,zS] at h
  subst h
  exact .inl ⟨rfl,rfl⟩
 | (k',v,b)::es,l,i,r,hm,h=>by
  simp only [qan] at hm
  obtain ⟨e,l',rfl,h1,h2,_,h3⟩:=hm
  simp only [qlm] at h
  split at h
  .rename_i hs
   cases h
   obtain ⟨q1,q2⟩:=qnn hk h1 hs
   refine .inr ⟨i,v,e.val,e,rfl,by simp only [Instr.findNow,q1],h2,zN _,by simp,(q2 rfl).1 ▸ (q2 rfl).2⟩
  .rename_i hs
   obtain ⟨q1,_⟩:=qnn hk h1 hs
   rcases qe3 hk es l' (i+1) r h3 h with ⟨r1,r2⟩ | ⟨j,v',x,e',r1,r2,r3,r4,r5,r6⟩
   .exact .inl ⟨r1,by simp only [Instr.findNow,q1];exact r2⟩
   .refine .inr ⟨j,v',x,e',r1,by simp only [Instr.findNow,q1];exact r2,r3,by omega,?_,r6⟩
    rw [show j-i=(j-(i+1))+1 by omega,List.getElem?_cons_succ]
    exact r5
  .cases h
theorem run_checkKey {kt:TypeId} {kd:TypeDesc} (hu:P.underlying kt=some kd) (hp:plainKey kd=true) (e:Bool) (n:Nat) (v:Value):(Instr.checkKey e (n+1) kt v).run P w=.ok () w:=by
 cases kd<;>simp [plainKey] at hp<;>simp [Instr.checkKey,run_underlying hu]
theorem run_findKey {kt:TypeId} {kd:TypeDesc} (hu:P.underlying kt=some kd) {rk:Value} {l:List MapEntry} {r:Option (Nat×Value)} (h:Instr.findNow kd rk l 0=some r):(Instr.findKey kt rk l).run P w=.ok r w:=by
 simp [Instr.findKey,run_underlying hu,h]
theorem qfh:∀ {xs ys:List V} {l l':List Value} (n:Nat),qgr xs ys=true->qm G w xs l->qm G w ys l'->l'.length=l.length/\((l'.zip l).all fun (x,y)=>Instr.sameBits n x y)=true
 | [],[],l,l',n,_,h1,h2=>by
  simp only [qm] at h1 h2
  subst h1;subst h2
  exact ⟨rfl,rfl⟩
 | .int k a::xs,.int k' b::ys,l,l',n,h,h1,h2=>by
  simp only [qgr,zA,decide_eq_true_eq,beq_iff_eq] at h
  obtain ⟨⟨rfl,rfl⟩,h⟩:=h
  simp only [qm,Rel] at h1 h2
  obtain ⟨x,xs',rfl,rfl,h1⟩:=h1
  obtain ⟨y,ys',rfl,rfl,h2⟩:=h2
  obtain ⟨q1,q2⟩:=qfh n h h1 h2
  exact ⟨by simp [q1],by simp only [List.zip_cons_cons,List.all_cons,q2,Bool.and_true];simp [Instr.sameBits]⟩
 | .bool a::xs,.bool b::ys,l,l',n,h,h1,h2=>by
  simp only [qgr,zA,beq_iff_eq] at h
  obtain ⟨rfl,h⟩:=h
  simp only [qm,Rel] at h1 h2
  obtain ⟨x,xs',rfl,rfl,h1⟩:=h1
  obtain ⟨y,ys',rfl,rfl,h2⟩:=h2
  obtain ⟨q1,q2⟩:=qfh n h h1 h2
  exact ⟨by simp [q1],by simp only [List.zip_cons_cons,List.all_cons,q2,Bool.and_true];simp [Instr.sameBits]⟩
 | .str a::xs,.str b::ys,l,l',n,h,h1,h2=>by
  simp only [qgr,zA,beq_iff_eq] at h
  obtain ⟨rfl,h⟩:=h
  simp only [qm,Rel] at h1 h2
  obtain ⟨x,xs',rfl,rfl,h1⟩:=h1
  obtain ⟨y,ys',rfl,rfl,h2⟩:=h2
  obtain ⟨q1,q2⟩:=qfh n h h1 h2
  exact ⟨by simp [q1],by simp only [List.zip_cons_cons,List.all_cons,q2,Bool.and_true];simp [Instr.sameBits,qqr]⟩
theorem qkw {n:Nat} {e:Bool} {cs:List V} {rcs:Array Value} (hcs:qm G w cs rcs.toList) (w':World):∀ (fs:List Field),(fs.all fun f=>match typeOf P f.type with
 | some fi=>plainKey fi.under&&(qi8 fi cs f.offset).isSome
 | none=>false)=true->(forIn fs PUnit.unit (fun f _=>if f.name≠ "_" then (do
   let v <-part f.type rcs f.offset
   Instr.checkKey e (n+1) f.type v
   pure (ForInStep.yield PUnit.unit)) else pure (ForInStep.yield PUnit.unit)):Sem PUnit).run P w'=.ok PUnit.unit w'
 | [],_=>by simp
 | f::fs,h=>by
  simp only [List.all_cons,zA] at h
  obtain ⟨h0,h1⟩:=h
  have ih:=qkw (n:=n) (e:=e) hcs w' fs h1
  split at h0
  .rename_i fi hfi
   simp only [zA,Option.isSome_iff_exists] at h0
   obtain ⟨hp,v,hv⟩:=h0
   obtain ⟨y,q1,_⟩:=qik hfi hcs hv
   have q2:=run_checkKey (w:=w') (qj hfi).1 hp e n y
   simp only [List.forIn_cons,Sem.run_bind]
   by_cases hn:f.name = "_"
   .simp only [hn,ne_eq,not_true_eq_false,if_false,Sem.run_pure,Result.andThen_ok]
    exact ih
   .simp only [hn,ne_eq,not_false_eq_true,if_true,Sem.run_bind,q1,q2,Sem.run_pure,Result.andThen_ok]
    exact ih
  .cases h0
theorem qsc {sp:Nat->Option (List V->Heap->Option (CR×Heap))} {kt:TypeId} {ks:List V} {rks:Array Value} (hk:qm G w ks rks.toList):∀ (es:List (V×V×Nat)) (l:List MapEntry) (i:Nat) (r:Option (Nat×V)),qan G w es l->q4r (qo P sp) kt ks es i=some r->
  (r=none/\(Instr.findAsking kt (.agg rks) l i).run P w=.ok none w)∨∃ j v x e,r=some (j,v)/\(Instr.findAsking kt (.agg rks) l i).run P w=.ok (some (j,x)) w/\Rel G w v x/\i<=j/\l[j-i]? = some e/\Instr.sameBits 10000 e.key (.agg rks)=true
 | [],l,i,r,hm,h=>by
  simp only [qan] at hm
  subst hm
  simp only [q4r,zS] at h
  subst h
  exact .inl ⟨rfl,by simp [Instr.findAsking]⟩
 | (k',v,b)::es,l,i,r,hm,h=>by
  simp only [qan] at hm
  obtain ⟨e,l',rfl,h1,h2,_,h3⟩:=hm
  have hka:Rel G w (.agg ks) (.agg rks):=by simp only [Rel];exact ⟨_,rfl,hk⟩
  simp only [q4r] at h
  split at h
  .rename_i hs
   have q1:(Op.equal kt (.agg rks) e.key).run P w=.ok true w:=qlj (E:=qo P sp) rfl rfl 1000 Op.maxDepth kt _ _ _ _ true (by simp [Op.maxDepth]) hs hka h1 w
   split at h
   .rename_i ys
    rw [cond_eq_ite] at h
    split at h
    .rename_i hfs
     cases h
     simp only [Rel] at h1
     obtain ⟨ry,hry,h1⟩:=h1
     obtain ⟨f1,f2⟩:=qfh 9999 hfs hk h1
     refine .inr ⟨i,v,e.val,e,rfl,by simp only [Instr.findAsking,Sem.run_bind,q1,Result.andThen_ok,if_true,Sem.run_pure],h2,zN _,by simp,?_⟩
     rw [hry]
     simp only [Array.length_toList] at f1
     simp only [Instr.sameBits,f1,f2,beq_self_eq_true,Bool.and_self]
    .cases h
   .cases h
  .rename_i hs
   have q1:(Op.equal kt (.agg rks) e.key).run P w=.ok false w:=qlj (E:=qo P sp) rfl rfl 1000 Op.maxDepth kt _ _ _ _ false (by simp [Op.maxDepth]) hs hka h1 w
   rcases qsc hk es l' (i+1) r h3 h with ⟨r1,r2⟩ | ⟨j,v',x,e',r1,r2,r3,r4,r5,r6⟩
   .exact .inl ⟨r1,by simp only [Instr.findAsking,Sem.run_bind,q1,Result.andThen_ok,Bool.false_eq_true,if_false];exact r2⟩
   .refine .inr ⟨j,v',x,e',r1,by simp only [Instr.findAsking,Sem.run_bind,q1,Result.andThen_ok,Bool.false_eq_true,if_false];exact r2,r3,by omega,?_,r6⟩
    rw [show j-i=(j-(i+1))+1 by omega,List.getElem?_cons_succ]
    exact r5
  .cases h
theorem qvv {sp:Nat->Option (List V->Heap->Option (CR×Heap))} {kt:TypeId} {kd:TypeDesc} (hu:P.underlying kt=some kd) {k:V} {rk:Value} (hk:Rel G w k rk) {es:List (V×V×Nat)} {l:List MapEntry} {r:Option (Nat×V)} (hm:qan G w es l) (h:qh7 (qo P sp) kt kd k es=some r) :
  (∀ e,(Instr.checkKey e 10000 kt rk).run P w=.ok () w)/\((r=none/\(Instr.findKey kt rk l).run P w=.ok none w)∨∃ j v x e,r=some (j,v)/\(Instr.findKey kt rk l).run P w=.ok (some (j,x)) w/\Rel G w v x/\l[j]? = some e/\Instr.sameBits 10000 e.key rk=true):=by
 unfold qh7 at h
 rw [cond_eq_ite] at h
 split at h
 .rename_i hp
  refine ⟨fun e=>run_checkKey hu hp e 9999 rk,?_⟩
  rcases qe3 hk es l 0 r hm h with ⟨r1,r2⟩ | ⟨j,v',x,e',r1,r2,r3,r4,r5,r6⟩
  .exact .inl ⟨r1,run_findKey hu r2⟩
  .exact .inr ⟨j,v',x,e',r1,run_findKey hu r2,r3,by simpa using r5,r6⟩
 .split at h
  .rename_i fs cs _
   rw [cond_eq_ite] at h
   split at h
   .rename_i hkf
    simp only [Rel] at hk
    obtain ⟨rcs,rfl,hk⟩:=hk
    refine ⟨fun e=>?_,?_⟩
    .rw [show (10000:Nat)=9998+1+1 from rfl,Instr.checkKey]
     simp only [Sem.run_bind,run_underlying hu,Result.andThen_ok]
     rw [<-Array.forIn_toList]
     have:=qkw (P:=P) (n:=9998) (e:=e) hk w fs.toList hkf
     rw [this]
     rfl
    .have hfk:∀ x,(Instr.findAsking kt (.agg rcs) l 0).run P w=.ok x w->(Instr.findKey kt (.agg rcs) l).run P w=.ok x w:=by
      intro x hx
      cases l with
      | nil=>
       have h0:x=none:=by
        simp [Instr.findAsking] at hx
        exact hx.symm
       subst h0
       simp [Instr.findKey,run_underlying hu,Instr.findNow]
      | cons e l=>
       simp only [Instr.findKey,Sem.run_bind,run_underlying hu,Result.andThen_ok,Instr.findNow,Instr.sameNow]
       exact hx
     rcases qsc hk es l 0 r hm h with ⟨r1,r2⟩ | ⟨j,v',x,e',r1,r2,r3,r4,r5,r6⟩
     .exact .inl ⟨r1,hfk _ r2⟩
     .exact .inr ⟨j,v',x,e',r1,hfk _ r2,r3,by simpa using r5,r6⟩
   .cases h
  .cases h
theorem qwq (hs:Sim H G w) (e:SimFr G w fr a) {t kt et:TypeId} {ti:TI} (ht:typeOf P t=some ti) (hti:ti.under=.map kt et) {r:Option Operand} (ho:o.op=.makeMap t r) (hr:∀ x,r=some x->∃ k n,opd fr H x=some (.int k n)) :
  z7 P o a H G w (H.new (.map [] 0)) (.val (.map H.next)):=by
 have hus:P.underlying t=some (.map kt et):=hti ▸ (qj ht).1
 have hstep:=hs.new (.map [] 0) (.map #[] 0) 0 (fun _ g b sh n hg=>by
  simp only [qfv] at hg
  by_cases h0:g=0
  .rw [zT ⟨trivial,h0⟩] at hg
   cases hg
   exact ⟨h0,#[],qbm _ _,by simp [qan]⟩
  .rw [zF (fun x=>h0 x.2),hs.fresh] at hg;cases hg)
 refine ⟨.map (some w.heap.size),_,_,?_,hstep,?_⟩
 .cases r with
  | none=>simp [execOp,ho,Instr.makeMap];rfl
  | some x=>
   obtain ⟨k,n,hx⟩:=hr x rfl
   have h1:=qp hs e hx
   simp only [Rel] at h1
   simp [execOp,ho,Instr.makeMap,h1,run_underlying hus,asInt,asIntOf];rfl
 .simp only [Rel]
  exact ⟨w.heap.size,0,0,qc2 _ _ _ _,rfl⟩
theorem zdn {sp:Nat->Option (List V->Heap->Option (CR×Heap))} (hs:Sim H G w) (e:SimFr G w fr a) {t kt et:TypeId} {ti ki ei:TI} (ht:typeOf P t=some ti) (hti:ti.under=.map kt et) (hk:typeOf P kt=some ki) (he:typeOf P et=some ei) {x y:Operand} {ok:Bool} (ho:o.op=.lookup t x y ok) {m k:V}
  {r:Option (Nat×V)} (h:(match m with
    | .nilm=>qh7 (qo P sp) kt ki.under k []
    | .map nm=>match H.get nm with
     | some (.map es _)=>qh7 (qo P sp) kt ki.under k es
     | _=>none
    | _=>none:Option (Option (Nat×V)))=some r) (hx:opd fr H x=some m) (hy:opd fr H y=some k):z7 P o a H G w H (match r with
     | some (_,x)=>.val (if ok then .tuple [x,.bool true] else x)
     | none=>.val (if ok then .tuple [ei.zero,.bool false] else ei.zero)):=by
 have hus:P.underlying t=some (.map kt et):=hti ▸ (qj ht).1
 have huk:=(qj hk).1
 have rm:=qp hs e hx
 have rk:=qp hs e hy
 obtain ⟨z,hz,_,hzr⟩:=qa4 he w
 obtain ⟨rmv,hrm⟩:∃ rmv,rmv=a.eval x:=⟨_,rfl⟩
 obtain ⟨rkv,hrk⟩:∃ rkv,rkv=a.eval y:=⟨_,rfl⟩
 rw [<-hrm] at rm
 rw [<-hrk] at rk
 have hex:execOp a.eval o=(do let v <-Instr.lookup t rmv rkv ok;pure (.value v)):=by simp only [execOp,ho,hrm,hrk]
 have main:∀ (es:List (V×V×Nat)) (res:Array MapEntry),qan G w es res.toList->qh7 (qo P sp) kt ki.under k es=some r->
   (∀ r',(Instr.findKey kt rkv res.toList).run P w=.ok r' w->(∀ e,(Instr.checkKey e 10000 kt rkv).run P w=.ok () w)->(Instr.lookup t rmv rkv ok).run P w=.ok (match r' with
      | some (_,v)=>if ok then .tuple #[v,.bool true] else v
      | none=>if ok then .tuple #[z,.bool false] else z) w)->
   z7 P o a H G w H (match r with
     | some (_,x)=>.val (if ok then .tuple [x,.bool true] else x)
     | none=>.val (if ok then .tuple [ei.zero,.bool false] else ei.zero)):=by
  intro es res hm hf hrun
  obtain ⟨hp,hf⟩:=qvv huk rk hm hf
  rcases hf with ⟨rfl,r2⟩ | ⟨j,v,x',e',rfl,r2,r3,_⟩
  .have h1:=hrun _ r2 hp
   refine z7.pure hs (x:=if ok then .tuple #[z,.bool false] else z) (by rw [hex];simp only [Sem.run_bind,h1,Result.andThen_ok,Sem.run_pure]) ?_
   cases ok with
   | true=>
    simp only [if_true,Rel]
    exact ⟨_,rfl,qm.cons (hzr G w) (qm.cons (by simp only [Rel]) qm.nil)⟩
   | false=>exact hzr G w
  .have h1:=hrun _ r2 hp
   refine z7.pure hs (x:=if ok then .tuple #[x',.bool true] else x') (by rw [hex];simp only [Sem.run_bind,h1,Result.andThen_ok,Sem.run_pure]) ?_
   cases ok with
   | true=>
    simp only [if_true,Rel]
    exact ⟨_,rfl,qm.cons r3 (qm.cons (by simp only [Rel]) qm.nil)⟩
   | false=>exact r3
 cases m with
 | nilm=>
  simp only [Rel] at rm
  refine main [] #[] (by simp [qan]) h (fun r' hr' hp=>?_)
  subst rm
  have hck:=hp true
  have hr'':(Instr.findKey kt rkv []).run P w=.ok r' w:=hr'
  simp only [Instr.lookup,Sem.run_bind,run_underlying hus,Result.andThen_ok,Sem.run_pure,hck,hr'',List.isEmpty_toArray,List.isEmpty_nil]
  cases r' with
  | none=>simp [hz];try (cases ok<;>rfl)
  | some q=>obtain ⟨q1,q2⟩:=q;simp;try (cases ok<;>rfl)
 | map nm=>
  simp only at h
  split at h
  .rename_i es ck hom
   simp only [Rel] at rm
   obtain ⟨b,sh,n,hg,rfl⟩:=rm
   obtain ⟨_,res,hb,hrm'⟩:=hs.obj nm _ (hs.lt _ _ _ _ _ hg).2 hom 0 b sh n hg
   refine main es res hrm' h (fun r' hr' hp=>?_)
   have hck:=hp res.isEmpty
   have hgo:(getObj b).run P w=.ok (.map res ck) w:=by simp [getObj,Sem.run,hb]
   simp only [Instr.lookup,Sem.run_bind,run_underlying hus,Result.andThen_ok,Sem.run_pure,hgo,hck,hr']
   cases r' with
   | none=>simp [hz];try (cases ok<;>rfl)
   | some q=>obtain ⟨q1,q2⟩:=q;simp;try (cases ok<;>rfl)
  .cases h
 | _=>cases h
theorem qan.append {es es':List (V×V×Nat)}:∀ {l l':List MapEntry},qan G w es l->qan G w es' l'->qan G w (es++es') (l++l'):=by
 induction es with
 | nil=>intro l l' h h';simp only [qan] at h;subst h;exact h'
 | cons e es ih=>
  intro l l' h h'
  obtain ⟨k,v,b⟩:=e
  simp only [qan] at h
  obtain ⟨x,xs,rfl,h1,h2,h3,h4⟩:=h
  simp only [List.cons_append,qan]
  exact ⟨x,xs++l',rfl,h1,h2,h3,ih h4 h'⟩
theorem qan.modify {k x:V} {rk rx:Value} (hk:Rel G w k rk) (hx:Rel G w x rx):∀ {es:List (V×V×Nat)} {l:List MapEntry} (i:Nat),qan G w es l->qan G w (es.modify i fun e=>(k,x,e.2.2)) (l.modify i fun e=>{e with key:=rk,val:=rx})
 | [],l,i,h=>by simp only [qan] at h;subst h;cases i<;>simp [qan]
 | (k',v,b)::es,l,0,h=>by
  simp only [qan] at h
  obtain ⟨y,ys,rfl,h1,h2,h3,h4⟩:=h
  simp only [List.modify_zero_cons,qan]
  exact ⟨_,ys,rfl,hk,hx,h3,h4⟩
 | (k',v,b)::es,l,i+1,h=>by
  simp only [qan] at h
  obtain ⟨y,ys,rfl,h1,h2,h3,h4⟩:=h
  simp only [List.modify_succ_cons,qan]
  exact ⟨y,_,rfl,h1,h2,h3,qan.modify hk hx i h4⟩
theorem qhm {sp:Nat->Option (List V->Heap->Option (CR×Heap))} (hs:Sim H G w) (e:SimFr G w fr a) {t kt et:TypeId} {ti ki:TI} (ht:typeOf P t=some ti) (hti:ti.under=.map kt et) (hk:typeOf P kt=some ki) {x y z:Operand} (ho:o.op=.mapUpdate t x y z∨o.op=.insert t x y z) {nm:Nat} {k v:V}
  (hx:opd fr H x=some (.map nm)) (hy:opd fr H y=some k) (hz:opd fr H z=some v) {es:List (V×V×Nat)} {ck:Nat} (hom:H.get nm=some (.map es ck)) {r:Option (Nat×V)} (h:qh7 (qo P sp) kt ki.under k es=some r) {H':Heap}
  (hu:(match r with
    | some (i,_)=>H.upd nm (.map (es.modify i fun e=>(k,v,e.2.2)) ck)
    | none=>H.upd nm (.map (es++[(k,v,ck)]) (ck+1)))=some H'):z7 P o a H G w H' .skip:=by
 have hus:P.underlying t=some (.map kt et):=hti ▸ (qj ht).1
 have huk:=(qj hk).1
 have rm:=qp hs e hx
 have rk:=qp hs e hy
 have rv:=qp hs e hz
 obtain ⟨rkv,hrk⟩:∃ rkv,rkv=a.eval y:=⟨_,rfl⟩
 obtain ⟨rvv,hrv⟩:∃ rvv,rvv=a.eval z:=⟨_,rfl⟩
 rw [<-hrk] at rk
 rw [<-hrv] at rv
 simp only [Rel] at rm
 obtain ⟨b,sh,n,hg,hrm⟩:=rm
 have hex:execOp a.eval o=(do Instr.mapUpdate t (.map (some b)) rkv rvv;pure .skip):=by
  rcases ho with ho | ho<;>simp only [execOp,ho,hrm,hrk,hrv]
 have hobj:=hs.obj nm _ (hs.lt _ _ _ _ _ hg).2 hom
 obtain ⟨_,res,hb,hrel⟩:=hobj 0 b sh n hg
 obtain ⟨hp,hf⟩:=qvv huk rk hrel h
 have hck:=hp false
 have hgo:(getObj b).run P w=.ok (.map res ck) w:=by simp [getObj,Sem.run,hb]
 have hset:∀ ob,(setObj b ob).run P w=.ok () (qjv w b ob):=fun ob=>by simp [setObj,Sem.run,hb,qjv]
 have hnc:w.shape? b=none:=by simp only [World.shape?,hb]
 have fin:∀ (es':List (V×V×Nat)) (res':Array MapEntry) (ck':Nat),qan G w es' res'.toList->H.upd nm (.map es' ck')=some H'->(Instr.mapUpdate t (.map (some b)) rkv rvv).run P w=.ok () (qjv w b (.map res' ck'))->z7 P o a H G w H' .skip:=by
  intro es' res' ck' hr' hu' hrun
  obtain ⟨u1,rfl⟩:=qft hu'
  refine ⟨qjv w b (.map res' ck'),G,by rw [hex];simp only [Sem.run_bind,hrun,Result.andThen_ok,Sem.run_pure],hs.setObj _ hom hg u1 _ hb hnc (fun hext g' b' sh' m' hg'=>?_)⟩
  obtain ⟨f0,res2,f1,_⟩:=hobj g' b' sh' m' hg'
  subst f0
  rw [hg] at hg'
  cases hg'
  exact ⟨rfl,res',qic hb,hr'.ext hext⟩
 rcases hf with ⟨rfl,r2⟩ | ⟨j,v',x',e',rfl,r2,r3,r5,r6⟩
 .refine fin _ (res.push {key:=rkv,val:=rvv,born:=ck}) _ ?_ hu ?_
  .rw [Array.toList_push]
   exact hrel.append (by simp only [qan];exact ⟨_,[],rfl,rk,rv,rfl,rfl⟩)
  .simp only [Instr.mapUpdate,Sem.run_bind,run_underlying hus,Result.andThen_ok,hgo,hck,r2,hset]
 .refine fin _ (res.modify j fun e=>{e with key:=rkv,val:=rvv}) _ ?_ hu ?_
  .rw [Array.toList_modify]
   exact qan.modify rk rv j hrel
  .have hkey:((res[j]?).map (·.key)).getD rkv=e'.key:=by
    rw [Array.getElem?_toList] at r5
    rw [r5];rfl
   have hst:(Instr.keyThatStays e'.key rkv).run P w=.ok rkv w:=by
    simp only [Instr.keyThatStays,r6,if_true,Sem.run_pure]
   simp only [Instr.mapUpdate,Sem.run_bind,run_underlying hus,Result.andThen_ok,hgo,hck,r2,hkey,hst,hset]
theorem zhw (hs:Sim H G w) (e:SimFr G w fr a) {t:TypeId} {ti:TI} (ht:typeOf P t=some ti) (hti:ti.under=.string) {x:Operand} (ho:o.op=.range t x) {s:List UInt8} (hx:opd fr H x=some (.str s)) :
  z7 P o a H G w (H.new (.siter s 0)) (.val (.ptr H.next 0 0 0)):=by
 have hus:P.underlying t=some .string:=hti ▸ (qj ht).1
 have hstep:=hs.new (.siter s 0) (.stringIter ⟨s.toArray⟩ 0) 0 (fun _ g b sh n hg=>by
  simp only [qfv] at hg
  by_cases h0:g=0
  .rw [zT ⟨trivial,h0⟩] at hg
   cases hg
   exact ⟨h0,qbm _ _⟩
  .rw [zF (fun x=>h0 x.2),hs.fresh] at hg;cases hg)
 have h1:=qp hs e hx
 simp only [Rel] at h1
 refine ⟨.pointer (some ⟨w.heap.size,0,none⟩),_,_,?_,hstep,qww⟩
 simp [execOp,ho,Instr.range,h1,run_underlying hus]
 rfl
theorem zl0 (hs:Sim H G w) (e:SimFr G w fr a) {x:Operand} (ho:o.op=.next x true) {nm g lim:Nat} (hx:opd fr H x=some (.ptr nm g 0 lim)) {s:List UInt8} {pos:Nat} (hom:H.get nm=some (.siter s pos)) {out:Out} {H':Heap} (h:q5f H nm s pos=some (out,H')) :
  z7 P o a H G w H' out:=by
 have rm:=qp hs e hx
 simp only [Rel] at rm
 obtain ⟨b,sh,n,hg,h0,_,hrm⟩:=rm
 have hobj:=hs.obj nm _ (hs.lt _ _ _ _ _ hg).2 hom
 obtain ⟨rfl,hb⟩:=hobj g b sh n hg
 have hsh:0-sh=0:=by omega
 rw [hsh] at hrm
 have hgo:(getObj b).run P w=.ok (.stringIter ⟨s.toArray⟩ pos) w:=by simp [getObj,Sem.run,hb]
 have hset:∀ ob,(setObj b ob).run P w=.ok () (qjv w b ob):=fun ob=>by simp [setObj,Sem.run,hb,qjv]
 have hnc:w.shape? b=none:=by simp only [World.shape?,hb]
 have hsz:(⟨s.toArray⟩:ByteArray).size=s.length:=rfl
 have hex:execOp a.eval o=(do let v <-Instr.next (.pointer (some ⟨b,0,none⟩)) true o.type;pure (.value v)):=by simp only [execOp,ho,hrm]
 unfold q5f at h
 rw [cond_eq_ite] at h
 split at h
 .rename_i hlt
  have hlt':pos<s.length:=by simpa using hlt
  obtain ⟨⟨c,wd⟩,hd⟩:∃ d,d=Utf8.decode ⟨s.toArray⟩ pos:=⟨_,rfl⟩
  rw [<-hd] at h
  simp only [zM,zP] at h
  obtain ⟨H1,hu,rfl,rfl⟩:=h
  obtain ⟨u1,rfl⟩:=qft hu
  refine ⟨.tuple #[.bool true,goInt pos,.int .i32 c],qjv w b (.stringIter ⟨s.toArray⟩ (pos+wd)),G,?_,hs.setObj _ hom hg u1 _ hb hnc (fun hext g' b' sh' m' hg'=>?_),?_⟩
  .rw [hex]
   simp only [Instr.next,Sem.run_bind,hgo,Result.andThen_ok,hsz,hlt',if_true,<-hd,hset,Sem.run_pure]
  .obtain ⟨f0,f1⟩:=hobj g' b' sh' m' hg'
   subst f0
   rw [hg] at hg'
   cases hg'
   exact ⟨rfl,qic hb⟩
  .simp only [Rel]
   exact ⟨_,rfl,by simp [qm,Rel,qcc,goInt]⟩
 .rename_i hlt
  have hlt':¬ pos<s.length:=by simpa using hlt
  cases h
  refine z7.pure hs (x:=.tuple #[.bool false]) ?_ (by simp only [Rel];exact ⟨_,rfl,by simp [qm,Rel]⟩)
  rw [hex]
  simp only [Instr.next,Sem.run_bind,hgo,Result.andThen_ok,hsz,hlt',if_false,Sem.run_pure]
theorem q5s (hs:Sim H G w) (e:SimFr G w fr a) {t el:TypeId} {len:Nat} {ti ei:TI} (ht:typeOf P t=some ti) (hu:ti.under=.array len el) (hel:typeOf P el=some ei) {x:Operand} {lo hi:Option Operand} (ho:o.op=.slice t x lo hi none) {nm g off lim:Nat} {vlo vhi:Option V} {v:V}
  (hp:opd fr H x=some (.ptr nm g off lim)) (h1:qje fr H lo=some vlo) (h2:qje fr H hi=some vhi) {cells:List V} {elem:TypeId} {gen floor frz:Nat} {exact:Bool} (hob:H.get nm=some (.row cells elem gen floor frz exact)) (hfl:floor<=g) (hlim:off+len * ei.size<=lim)
  (h:qd9 ei.size (.slice nm g off len ei.size (some len)) vlo vhi none=some v):z7 P o a H G w H (.val v):=by
 have hx:=qp hs e hp
 have hus:P.underlying t=some (.array len el):=hu ▸ (qj ht).1
 have r1:=qew hs e h1
 have r2:=qew hs e h2
 simp only [Rel] at hx
 obtain ⟨b,sh,n,q1,q4,q5,q2⟩:=hx
 obtain ⟨_,_,q⟩:=hs.obj nm _ (hs.lt _ _ _ _ _ q1).2 hob
 obtain ⟨_,k2,_,_,_,k5⟩:=q g b sh n q1
 obtain ⟨arr,fz,a1,a2,_⟩:=k5 hfl
 have q8:w.shape? b=some (elem,arr.size):=by simp only [World.shape?,a1]
 have hbeq:Nat.beq ei.size ei.size=true:=by rw [Nat.beq_eq]
 rw [qd9,V.qju] at h
 simp only [qgn,hbeq,Bool.not_true,zQ,Option.getD_some,zH,zI,zM] at h
 obtain ⟨hh,h3,l,h4,rfl⟩:=h
 obtain ⟨b1,b2,b3⟩:=qd2 (P:=P) (isSlice:=false) (cap:=len) r1 r2 h3 h4 (zN _) (zN _)
 have hs1:l * ei.size<=hh * ei.size:=zU _ b1
 have hs2:hh * ei.size<=len * ei.size:=zU _ b2
 have hs3:(hh-l) * ei.size=hh * ei.size-l * ei.size:=Nat.sub_mul _ _ _
 have hs4:(len-l) * ei.size=len * ei.size-l * ei.size:=Nat.sub_mul _ _ _
 have hcaps:∀ k,some (len-l)=some k->len-l=k/\off+l * ei.size+k * ei.size<=n:=by
  intro k hk
  cases hk
  exact ⟨rfl,by omega⟩
 refine z7.pure hs (x:=.slice (some (if len=l then ⟨b,off-sh,none⟩ else ⟨b,off-sh+l * ei.size,none⟩)) (hh-l) (len-l)) ?_ ?_
 .simp only [execOp,ho,Option.map_none,Sem.run_bind,q2,Instr.sliceAt,run_underlying hus,Result.andThen_ok,Instr.sureAddr,b3,zx hel,Sem.run_pure,qec]
 .by_cases hcl:len=l
  .rw [zT hcl]
   simp only [Rel]
   exact ⟨b,sh,n,off-sh,len-l,elem,arr.size,_,q1,rfl,.inr rfl,by omega,by omega,by omega,.inr (by omega),hcaps,q8,by omega⟩
  .rw [zF hcl]
   simp only [Rel]
   exact ⟨b,sh,n,off-sh+l * ei.size,len-l,elem,arr.size,_,q1,rfl,.inr rfl,by omega,by omega,by omega,.inl (by omega),hcaps,q8,by omega⟩
theorem Rel.shorter {nm g off len sz:Nat} {cap:Option Nat} {ad:Addr} {c m:Nat} (h:Rel G w (.slice nm g off len sz cap) (.slice (some ad) len c)) (hm:m<=len):Rel G w (.slice nm g off m sz cap) (.slice (some ad) m c):=by
 simp only [Rel] at h ⊢
 obtain ⟨b,sh,n,ro,c',e,k,ad',q1,q2,q0,q3,q4,q5,q6,q7,q8,q9⟩:=h
 cases q2
 have:m * sz<=len * sz:=zU _ hm
 exact ⟨b,sh,n,ro,c,e,k,ad,q1,rfl,q0,by omega,q4,by omega,q6,q7,q8,q9⟩
theorem zly (hs:Sim H G w) (e:SimFr G w fr a) {c:Go.Call} (ho:o.op=.call c) (hc:c.callee=.builtin .copy) {t u el:TypeId} {ti ei:TI} {nm g off len nm' g' off' len':Nat} {cap cap':Option Nat}
  (hargs:qbj fr H c.args.toList=some [.slice nm g off len ei.size cap,.slice nm' g' off' len' ei.size cap']) (hat:c.argTypes.toList=[t,u]) (ht:typeOf P t=some ti) (hti:ti.under=.slice el) (hel:typeOf P el=some ei) {r:Nat×List V}
  (hr:kp H ei.size (.slice nm' g' off' (min len' len) ei.size cap')=some r) {H':Heap} (hw:(if min len' len=0 then some H else j3 H r.2 (.ptr nm g off (off+len * ei.size)))=some H') :
  z7 P o a H G w H' (.val (qcc (min len' len))):=by
 obtain ⟨hra,cs',hb⟩:=qb3 hs e ho hc hargs (P:=P)
 obtain ⟨rx,ry,h1,h2,h3⟩:=qqf hra
 rw [h1,qxe hat] at hb
 have hus:P.underlying t=some (.slice el):=hti ▸ (qj ht).1
 have h2':=h2
 have h3':=h3
 simp only [Rel] at h2' h3'
 obtain ⟨b,sh,n,ro,cc,e1,k,ad,q1,rfl,q0,q3,q4,q5,q6,q7,q8,q9⟩:=h2'
 obtain ⟨b',sh',n',ro',cc',e1',k',ad',q1',rfl,q0',q3',q4',q5',q6',q7',q8',q9'⟩:=h3'
 obtain ⟨rl,m1,m2,m3⟩:=qiu hs (h3.shorter (Nat.min_le_left len' len)) hr
 obtain ⟨m4,m5⟩:=m3 w rfl
 have hn:r.1=min len' len:=by
  simp only [Builtin.lenOf] at m4
  have:=congrArg (fun x=>match x with | Result.ok n _=>n | _=>0) m4
  simpa using this.symm
 rw [hn] at m5
 have hmin:Nat.min len' len=min len' len:=rfl
 have hfc:(Builtin.firstCells ei.size (min len' len) (.slice (some ad') len' cc')).run P w=.ok rl.toArray w:=m5
 have hrest:(Builtin.copy_ #[t,u] o.type #[.slice (some ad) len cc,.slice (some ad') len' cc']).run P w=((storeCells ad rl).run P w).andThen fun _ w'=>.ok (goInt ((min len' len:Nat):Int)) w':=by
  simp [Builtin.copy_,run_underlying hus,Builtin.lenOf,zx hel,hmin,hfc]
 by_cases h0:min len' len=0
 .rw [zT h0] at hw
  cases hw
  have hrl:rl=[]:=by
   have:=m1.length
   rw [m2,hn,h0,Nat.zero_mul] at this
   exact List.length_eq_zero_iff.1 this.symm
  subst hrl
  refine z7.pure hs (x:=goInt ((min len' len:Nat):Int)) ?_ (by simp only [qcc,Rel];rfl)
  rw [hb]
  simp only [builtin,Sem.run_bind,hrest,storeCells,Sem.run_pure,Result.andThen_ok]
 .rw [zF h0] at hw
  obtain rfl:ad=⟨b,ro,none⟩:=by
   rcases q0 with q0 | q0
   .omega
   .exact q0
  have hp:Rel G w (.ptr nm g off (off+len * ei.size)) (.pointer (some ⟨b,ro,none⟩)):=by
   simp only [Rel]
   have:ro=off-sh:=by omega
   exact ⟨b,sh,n,q1,q4,q5,by rw [this]⟩
  obtain ⟨ad,w',e2,e3,e4⟩:=qd3 hs hp m1 hw P
  cases e2
  refine ⟨goInt ((min len' len:Nat):Int),w',G,?_,e4,by simp only [qcc,Rel];rfl⟩
  rw [hb]
  simp only [builtin,Sem.run_bind,hrest,e3,Sem.run_pure,Result.andThen_ok]
theorem qzx (hs:Sim H G w) (e:SimFr G w fr a) {c:Go.Call} (ho:o.op=.call c) (hc:c.callee=.builtin .clear) {x:V} (hargs:qbj fr H c.args.toList=some [x]) {t el:TypeId} {ti:TI} (hat:c.argTypes.toList=[t]) (ht:typeOf P t=some ti) (hti:ti.under=.slice el)
  (hx:x=.nils∨∃ nm g off sz cap,x=.slice nm g off 0 sz cap):z7 P o a H G w H (.val (.tuple [])):=by
 obtain ⟨hra,cs',hb⟩:=qb3 hs e ho hc hargs (P:=P)
 obtain ⟨rx,h1,h2⟩:=qto hra
 rw [h1,qxe hat] at hb
 have hus:P.underlying t=some (.slice el):=hti ▸ (qj ht).1
 refine z7.pure hs (x:=.tuple #[]) ?_ (by simp only [Rel];exact ⟨_,rfl,qm.nil⟩)
 rw [hb]
 rcases hx with rfl | ⟨nm,g,off,sz,cap,rfl⟩
 .simp only [Rel] at h2
  subst h2
  simp [builtin,Builtin.clear_,run_underlying hus]
 .simp only [Rel] at h2
  obtain ⟨b,sh,n,ro,cc,e1,k,ad,q1,rfl,_⟩:=h2
  simp [builtin,Builtin.clear_,run_underlying hus]
theorem zhu (hs:Sim H G w) (e:SimFr G w fr a) {c:Go.Call} (ho:o.op=.call c) (hc:c.callee=.builtin .clear) {nm g off len:Nat} {cap:Option Nat} {t el:TypeId} {ti ei:TI} (hargs:qbj fr H c.args.toList=some [.slice nm g off len ei.size cap]) (hat:c.argTypes.toList=[t]) (ht:typeOf P t=some ti) (hti:ti.under=.slice el)
  (hel:typeOf P el=some ei) (h0:¬ len=0) {H':Heap} (hw:j3 H (List.replicate len ei.zero.cells).flatten (.ptr nm g off (off+len * ei.size))=some H'):z7 P o a H G w H' (.val (.tuple [])):=by
 obtain ⟨hra,cs',hb⟩:=qb3 hs e ho hc hargs (P:=P)
 obtain ⟨rx,h1,h2⟩:=qto hra
 rw [h1,qxe hat] at hb
 have hus:P.underlying t=some (.slice el):=hti ▸ (qj ht).1
 obtain ⟨z,hz,_,hzr⟩:=qa4 hel w
 have hz0:=qor (qct (hzr G w)) len
 simp only [Rel] at h2
 obtain ⟨b,sh,n,ro,cc,e1,k,ad,q1,rfl,q0,q3,q4,q5,q6,q7,q8,q9⟩:=h2
 have hsz:0<=len * ei.size:=Nat.zero_le _
 obtain ⟨m,rfl⟩:∃ m,len=m+1:=⟨len-1,by omega⟩
 obtain rfl:ad=⟨b,ro,none⟩:=by
  rcases q0 with q0 | q0
  .omega
  .exact q0
 have hp:Rel G w (.ptr nm g off (off+(m+1) * ei.size)) (.pointer (some ⟨b,ro,none⟩)):=by
  simp only [Rel]
  have:ro=off-sh:=by omega
  exact ⟨b,sh,n,q1,q4,q5,by rw [this]⟩
 obtain ⟨ad,w',e2,e3,e4⟩:=qd3 hs hp hz0 hw P
 cases e2
 refine ⟨.tuple #[],w',G,?_,e4,by simp only [Rel];exact ⟨_,rfl,qm.nil⟩⟩
 rw [hb]
 have e3':(storeCells ⟨b,ro,none⟩ (Builtin.zeroCells z.cells (m+1)).toList).run P w=.ok () w':=e3
 simp [builtin,Builtin.clear_,run_underlying hus,hz,e3']
theorem qx6 (hs:Sim H G w) (e:SimFr G w fr a) {t xt:TypeId} {ti:TI} (ht:typeOf P t=some ti) (hni:∀ ms,ti.under≠.interface ms) {x:Operand} {ok:Bool} (ho:o.op=.typeAssert x xt t ok) {p v:V} (hp:opd fr H x=some p) (h:qmj t ti.zero ok p=some v) :
  z7 P o a H G w H (.val v):=by
 have hx:=qp hs e hp
 have hus:=(qj ht).1
 obtain ⟨z,hz,_,hzr⟩:=qa4 ht w
 obtain ⟨rx,hrx⟩:∃ rx,rx=a.eval x:=⟨_,rfl⟩
 rw [<-hrx] at hx
 have hex:execOp a.eval o=(do let v <-Instr.typeAssert rx xt t ok;pure (.value v)):=by simp only [execOp,ho,hrx]
 have htup:∀ {q:V} {rq:Value} {b:Bool},Rel G w q rq->Rel G w (.tuple [q,.bool b]) (.tuple #[rq,.bool b]):=by
  intro q rq b hq
  simp only [Rel]
  exact ⟨_,rfl,qm.cons hq (qm.cons (by simp only [Rel]) qm.nil)⟩
 have fin:∀ {r:Value},(Instr.typeAssert rx xt t ok).run P w=.ok r w->Rel G w v r->z7 P o a H G w H (.val v):=by
  intro r hr hv
  exact z7.pure hs (by rw [hex];simp only [Sem.run_bind,hr,Result.andThen_ok,Sem.run_pure]) hv
 cases p with
 | nili=>
  simp only [Rel] at hx
  cases ok with
  | false=>simp [qmj] at h
  | true=>
   simp only [qmj,zO,zS] at h
   subst h
   refine fin (r:=.tuple #[z,.bool false]) ?_ (htup (hzr G w))
   subst hx
   cases hu:ti.under with
   | interface ms=>exact absurd hu (hni ms)
   | _=>rw [hu] at hus;simp [Instr.typeAssert,run_underlying hus,hz]
 | iface u y=>
  simp only [Rel] at hx
  obtain ⟨ry,rfl,hy⟩:=hx
  simp only [qmj,cond_eq_ite,Nat.beq_eq] at h
  by_cases hut:u=t
  .rw [zT hut] at h
   cases h
   refine fin (r:=if ok then .tuple #[ry,.bool true] else ry) ?_ ?_
   .cases hu:ti.under with
    | interface ms=>exact absurd hu (hni ms)
    | _=>rw [hu] at hus;simp [Instr.typeAssert,run_underlying hus,hut]
   .cases ok with
    | true=>exact htup hy
    | false=>exact hy
  .rw [zF hut] at h
   cases ok with
   | false=>simp at h
   | true=>
    simp only [if_true,zS] at h
    subst h
    refine fin (r:=.tuple #[z,.bool false]) ?_ (htup (hzr G w))
    cases hu:ti.under with
    | interface ms=>exact absurd hu (hni ms)
    | _=>rw [hu] at hus;simp [Instr.typeAssert,run_underlying hus,hut,hz]
 | _=>simp [qmj] at h
end
end Go.E2
