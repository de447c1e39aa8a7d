/- A VERIFIED EVALUATOR, texts E3a, E3b, E3c, E3d, E3e, E3f, E3g, E3h, E3i, E3j, E3k in one. -/
import Derived.Test.YtpbliaccnbgapaaGreatDoorM1
import Derived.Test.YtpbliaccnbgapaaGreatDoorM3
/- THE MACHINE E3: weakest preconditions of the program's code over values without memory (lists in place of slices, variables by number). Definitions alone, over an algebra of what is known
   ('Alg'): at the plain one the answer is a proposition, at one of texts it is that proposition's text. Nothing is proved here. -/
namespace Go.E3
open Go Go.E2
inductive P (I B S Pr:Type) (L:Nat->Type) where
 | int (k:IntKind) (lit:Option Int) (n:I)
 | lit (b:Bool)
 | sb (id:Nat) (neg:Bool) (b:B) (pt pf:Pr)
 | str (s:S)
 | list (c:Nat) (l:L c) (own:Option (Nat×Nat))
 | nils
 | mlist (id c:Nat) (n:I)
 | mptr (id c:Nat) (i n:I) (off:Nat)
 | cell (id off lim:Nat)
 | eptr (cells:List (P I B S Pr L)) (off:Nat)
 | nilp
 | func (f:Nat) (first captured:List (P I B S Pr L))
 | nilf
 | yield (id:Nat)
 | iface (t:TypeId) (v:P I B S Pr L)
 | nili
 | agg (cells:List (P I B S Pr L))
 | tuple (l:List (P I B S Pr L))
 | map (id:Nat)
 | plist (es n:Nat) (cells:List (P I B S Pr L))
inductive LMode where
 | ready
 | busy
 | done (ex:Option Nat)
structure LRec (I B S Pr:Type) (L:Nat->Type) where
 tmps:Tree (P I B S Pr L)
 n:Nat
 params:List Tmp
 assign:Code
 body:Code
 fn:Nat
 pos:Nat
 mode:LMode
inductive Leaf where
 | int (k:IntKind)
 | str
 | bool
def qqb:Leaf->Leaf->Bool
 | .int k,.int k'=>decide (k=k')
 | .str,.str=>true
 | .bool,.bool=>true
 | _,_=>false
inductive Cont (I B S Pr:Type) (L:Nat->Type) where
 | cs (t:Option TypeId) (ps:List (P I B S Pr L))
 | ml (c:Nat) (l:L c)
 | lp (r:LRec I B S Pr L)
 | mp (c:Nat) (lf:Leaf) (va:Bool) (l:L c)
 | si (s:S) (pos:I)
inductive N (I B S:Type) (L:Nat->Type) where
 | i (n:I)
 | b (b:B)
 | s (s:S)
 | l (c:Nat) (l:L c)
inductive SK where
 | int (k:IntKind)
 | bool
 | str
 | list (c:Nat) (own nb:Bool)
 | keep
inductive Sh where
 | one (k:SK)
 | agg (ks:List SK)
inductive Slot where
 | one (t:Nat) (k:SK)
 | agg (t:Nat) (ks:List SK)
 | via (t:Nat) (ks:List SK)
 | cap (t i:Nat) (ks:List SK)
 | elems (t:Nat)
 | iter (t:Nat)
 | out (j t:Nat) (ks:List SK)
inductive Ann where
 | inv (j:Nat) (slots:List Slot) (sees:List Slot)
 | unroll (n:Nat)
 | peel (j:Nat) (slots:List Slot) (sees:List Slot)
 | cut (j:Nat) (slots:List Slot) (sees:List Slot)
variable {I B S Pr:Type} {L K:Nat->Type}
abbrev qqm (B Pr:Type):=B×Pr×Pr
structure Alg (I B S Pr:Type) (L K:Nat->Type) where
 ff:String->Pr
 tt:Pr
 and:Pr->Pr->Pr
 imp:Pr->Pr->Pr
 ilit:Int->I
 iop:BinOp->IntKind->I->I->Option (Pr×I)
 icmp:BinOp->I->I->Option (qqm B Pr)
 ineg:IntKind->I->Pr×I
 iconv:IntKind->I->Pr×I
 ibest:Bool->I->I->I
 blit:Bool->B
 bnot:B->B
 beq:B->B->qqm B Pr
 braw:B->Pr×Pr
 ball:List (qqm B Pr)->qqm B Pr
 slit:List UInt8->S
 scat:S->S->Pr×S
 scmp:BinOp->S->S->Option (qqm B Pr)
 slen:S->I
 sget:S->I->I
 ssub:S->Option I->Option I->Pr×S
 lof:(c:Nat)->List (K c)->L c
 llen:(c:Nat)->L c->I
 lget:(c:Nat)->L c->I->K c
 lsub:(c:Nat)->L c->Option I->Option I->Pr×L c
 lcat:(c:Nat)->L c->L c->Pr×L c
 lset:(c:Nat)->L c->I->K c->L c
 lrep:(c:Nat)->K c->I->L c
 leI:I->I->Pr
 sbytes:S->L 0
 bstr:L 0->S
 within:I->I->Pr
 eqI:I->I->Pr
 eqB:B->B->Pr
 eqS:S->S->Pr
 eqL:(c:Nat)->L c->L c->Pr
 allI:IntKind->(I->Pr)->Pr
 allB:(B->Pr)->Pr
 allS:(S->Pr)->Pr
 allL:(c:Nat)->(L c->Pr)->Pr
 inv:Nat->List (N I B S L)->Pr
 dec:Nat->List (N I B S L)->List (N I B S L)->Pr
 fn:Nat->Option (List Sh×(List (N I B S L)->Option (Pr×P I B S Pr L)))
 cells:(c:Nat)->K c->List (P I B S Pr L)
 pack:(c:Nat)->List (P I B S Pr L)->Option (Pr×K c)
 mhas:(c kn:Nat)->L c->K c->B
 mget:(c kn:Nat)->L c->K c->K c
 mput:(c kn:Nat)->L c->K c->L c
 srune:S->I->I
 snext:S->I->I
structure Cfg (I B S Pr:Type) (L:Nat->Type) where
 E:Env
 qy:Nat->Option (List (P I B S Pr L))
 codec:TypeId->Option Nat
 ann:Nat->Nat->Option Ann
 ans:Nat->Bool
 ng:Nat
 prim:Nat->Bool
 gobj:Nat->Option O
 mcod:TypeId->Option Nat
structure St (I B S Pr:Type) (L:Nat->Type) where
 tmps:Tree (P I B S Pr L)
 n:Nat
 cells:List (Nat×Cont I B S Pr L)
 owns:List (Nat×Nat)
 next:Nat
 known:List (Nat×Bool)
def look {α:Type}:List (Nat×α)->Nat->Option α
 | [],_=>none
 | (i,a)::l,n=>bif Nat.beq i n then some a else look l n
def qei {α:Type}:List (Nat×α)->Nat->α->List (Nat×α)
 | [],n,a=>[(n,a)]
 | (i,b)::l,n,a=>bif Nat.beq i n then (i,a)::l else (i,b)::qei l n a
def qa0 {α:Type}:List (Nat×α)->Nat->List (Nat×α)
 | [],_=>[]
 | (i,b)::l,n=>bif Nat.beq i n then qa0 l n else (i,b)::qa0 l n
def St.put (st:St I B S Pr L) (dst:Option Tmp) (p:P I B S Pr L):St I B S Pr L:=
 match dst with
 | some d=>match st with
  | ⟨t,n,c,o,x,kn⟩=>bif Nat.blt d n then ⟨t.set d p,n,c,o,x,kn⟩ else ⟨t,n,c,o,x,kn⟩
 | none=>st
def P.cellsOf:P I B S Pr L->List (P I B S Pr L)
 | .agg cs=>cs
 | p=>[p]
def qmg:P I B S Pr L:=.tuple []
mutual
def ofV (A:Alg I B S Pr L K):V->P I B S Pr L
 | .int k n=>.int k (some n) (A.ilit n)
 | .bool b=>.lit b
 | .str s=>.str (A.slit s)
 | .ptr ..=>.tuple []
 | .nilp=>.nilp
 | .slice ..=>.tuple []
 | .nils=>.nils
 | .func fn a c=>match fn with
  | .func f=>.func f (ofL A a) (ofL A c)
  | _=>.tuple []
 | .nilf=>.nilf
 | .iface t v=>.iface t (ofV A v)
 | .nili=>.nili
 | .agg cs=>.agg (ofL A cs)
 | .tuple vs=>.tuple (ofL A vs)
 | .map _=>.tuple []
 | .nilm=>.tuple []
def ofL (A:Alg I B S Pr L K):List V->List (P I B S Pr L)
 | []=>[]
 | v::vs=>ofV A v::ofL A vs
end
def qgc:V->Bool
 | .int .. | .bool _ | .str _ | .nilp | .nils | .nilf | .nili=>true
 | .func (.func _) [] []=>true
 | _=>false
def qnu (A:Alg I B S Pr L K) (v:V):Option (P I B S Pr L):=
 match v with
 | .agg cs=>bif cs.all qgc then some (ofV A v) else none
 | .tuple []=>some (.tuple [])
 | v=>bif qgc v then some (ofV A v) else none
def zeroCells (A:Alg I B S Pr L K) (ti:TI):Option (List (P I B S Pr L)):=
 bif ti.zero.cells.all qgc then some (ofL A ti.zero.cells) else none
def k8 (A:Alg I B S Pr L K) (C:Cfg I B S Pr L) (st:St I B S Pr L):Operand->Option (P I B S Pr L)
 | .tmp t=>st.tmps.get t
 | .const v=>(qk5 1000 v).bind (qnu A)
 | .global g=>(C.qy g).map fun cs=>.eptr cs 0
 | .func f=>some (.func f [] [])
def qe6 (A:Alg I B S Pr L K) (C:Cfg I B S Pr L) (st:St I B S Pr L):List Operand->Option (List (P I B S Pr L))
 | []=>some []
 | x::xs=>(k8 A C st x).bind fun v=>(qe6 A C st xs).map fun vs=>v::vs
def asL (A:Alg I B S Pr L K) (c:Nat):P I B S Pr L->Option (L c)
 | .nils=>some (A.lof c [])
 | .list c' l _=>if h:c'=c then some (h ▸ l) else none
 | _=>none
def zfg (id:Nat) (b:Bool) (l:List (Nat×Bool)):List (Nat×Bool):=bif Nat.beq id 0 then l else (id,b)::l
def br (A:Alg I B S Pr L K) (st:St I B S Pr L) (p:P I B S Pr L) (k:Bool->St I B S Pr L->Pr):Pr:=
 match p with
 | .lit b=>k b st
 | .sb id neg _ pt pf=>match look st.known id with
  | some v=>k (v != neg) st
  | none=>A.and (A.imp pt (k true {st with known:=zfg id (!neg) st.known})) (A.imp pf (k false {st with known:=zfg id neg st.known}))
 | _=>A.ff "no condition"
def qa2:List (P I B S Pr L)->Nat->List (P I B S Pr L)×Nat
 | [],n=>([],n)
 | .sb 0 neg b pt pf::ps,n=>match qa2 ps (n+1) with
  | (qs,m)=>(.sb n neg b pt pf::qs,m)
 | p::ps,n=>match qa2 ps n with
  | (qs,m)=>(p::qs,m)
def qc8 (p:P I B S Pr L) (st:St I B S Pr L):P I B S Pr L×St I B S Pr L:=
 match p with
 | .sb 0 neg b pt pf=>(.sb st.next neg b pt pf,{st with next:=st.next+1})
 | .agg cs=>match qa2 cs st.next with
  | (ds,m)=>(.agg ds,{st with next:=m})
 | .tuple cs=>match qa2 cs st.next with
  | (ds,m)=>(.tuple ds,{st with next:=m})
 | p=>(p,st)
def q5d (st:St I B S Pr L) (c:qqm B Pr):P I B S Pr L×St I B S Pr L:=
 (.sb st.next false c.1 c.2.1 c.2.2,{st with next:=st.next+1})
def zaq (ti:TI) (cs:List (P I B S Pr L)) (off:Nat):Option (P I B S Pr L):=
 bif ti.isAgg then (bif Nat.ble (off+ti.size) cs.length then some (.agg ((cs.drop off).take ti.size)) else none) else cs[off]?
def qcf (cs:List (P I B S Pr L)) (off:Nat) (vs:List (P I B S Pr L)):List (P I B S Pr L):=cs.take off++vs++cs.drop (off+vs.length)
def qvu (place:Nat->Option (Nat×Nat)):List (P I B S Pr L)->List (Nat×P I B S Pr L)->Option (List (P I B S Pr L))
 | cells,[]=>some cells
 | cells,(i,v)::rest=>match place i with
  | none=>none
  | some (off,size)=>bif Nat.beq v.cellsOf.length size&&Nat.ble (off+size) cells.length then qvu place (qcf cells off v.cellsOf) rest else none
def qnf (l:List (Nat×Cont I B S Pr L)) (id:Nat):Option (List (P I B S Pr L)):=
 match look l id with
 | some (.cs _ ps)=>some ps
 | _=>none
def qn9 (l:List (Nat×Cont I B S Pr L)) (id:Nat):Option TypeId:=
 match look l id with
 | some (.cs t _)=>t
 | _=>none
structure MapC (L:Nat->Type) where
 c:Nat
 lf:Leaf
 va:Bool
 l:L c
def q2b (l:List (Nat×Cont I B S Pr L)) (id:Nat):Option (MapC L):=
 match look l id with
 | some (.mp c lf va l)=>some ⟨c,lf,va,l⟩
 | _=>none
def qrd (l:List (Nat×Cont I B S Pr L)) (id:Nat):Option (S×I):=
 match look l id with
 | some (.si s n)=>some (s,n)
 | _=>none
def zsi:Option TypeId->Option TypeId->Bool
 | none,_=>true
 | some a,some b=>Nat.beq a b
 | _,_=>false
def qpy (l:List (Nat×Cont I B S Pr L)) (id c:Nat):Option (L c):=
 match look l id with
 | some (.ml c' l)=>if h:c'=c then some (h ▸ l) else none
 | _=>none
def loadAt (ti:TI) (cs:List (P I B S Pr L)) (off:Nat):Option (P I B S Pr L):=
 bif Nat.ble (off+ti.size) cs.length then (bif ti.isAgg then some (.agg ((cs.drop off).take ti.size)) else bif Nat.beq ti.size 1 then cs[off]? else none) else none
def zah (st:St I B S Pr L) (ti:TI):P I B S Pr L->Option (P I B S Pr L)
 | .cell id off lim=>(qnf st.cells id).bind fun cs=>bif Nat.ble (off+ti.size) lim&&Nat.ble lim cs.length then
   (bif ti.isAgg then some (.agg ((cs.drop off).take ti.size)) else bif Nat.beq ti.size 1 then cs[off]? else none) else none
 | .eptr cs off=>loadAt ti cs off
 | _=>none
def qar:P I B S Pr L->Bool
 | .agg _ | .tuple _=>false
 | _=>true
def q81 (st:St I B S Pr L) (ti:TI) (a v:P I B S Pr L):Option (St I B S Pr L):=
 match a with
 | .cell id off lim=>(qnf st.cells id).bind fun cs=>
  bif Nat.beq v.cellsOf.length ti.size&&Nat.ble (off+ti.size) lim&&Nat.ble lim cs.length&&v.cellsOf.all qar then some {st with cells:=qei st.cells id (.cs (qn9 st.cells id) (qcf cs off v.cellsOf))} else none
 | _=>none
def sel (A:Alg I B S Pr L K) (i:P I B S Pr L) (n:Nat) (k:Nat->Pr):Pr:=
 match i with
 | .int _ (some j) _=>if 0<=j/\j<n then k j.toNat else A.ff "index"
 | .int _ none x=>A.and (A.within x (A.ilit n)) ((List.range n).foldr (fun (j:Nat) r=>A.and (A.imp (A.eqI x (A.ilit (j:Int))) (k j)) r) A.tt)
 | _=>A.ff "index"
def eqP (A:Alg I B S Pr L K):P I B S Pr L->P I B S Pr L->Option (qqm B Pr)
 | .int k _ a,.int k' _ b=>if k=k' then A.icmp .eql a b else none
 | .str a,.str b=>A.scmp .eql a b
 | .lit a,.lit b=>some (A.beq (A.blit a) (A.blit b))
 | .lit a,.sb _ _ b _ _=>some (A.beq (A.blit a) b)
 | .sb _ _ a _ _,.lit b=>some (A.beq a (A.blit b))
 | .sb _ _ a _ _,.sb _ _ b _ _=>some (A.beq a b)
 | _,_=>none
def q7y (A:Alg I B S Pr L K):List (P I B S Pr L)->List (P I B S Pr L)->Option (List (qqm B Pr))
 | [],[]=>some []
 | a::as,b::bs=>(eqP A a b).bind fun c=>(q7y A as bs).map fun cs=>c::cs
 | _,_=>none
def zqy (A:Alg I B S Pr L K) (c:qqm B Pr):qqm B Pr:=(A.bnot c.1,c.2.2,c.2.1)
def zf9 (E:Env) (u:TypeDesc) (x y:P I B S Pr L):Option Bool:=
 match u,x,y with
 | .pointer _,.nilp,.nilp=>some true
 | .pointer _,.nilp,.cell .. | .pointer _,.cell ..,.nilp=>some false
 | .pointer e,.cell i o _,.cell j p _=>(E.types e).bind fun ei=>bif !Nat.beq ei.size 0&&Nat.beq i j then some (Nat.beq o p) else none
 | .func ..,.nilf,.nilf=>some true
 | .func ..,.nilf,.func .. | .func ..,.func ..,.nilf=>some false
 | .interface _,.nili,.iface .. | .interface _,.iface ..,.nili=>some false
 | _,_,_=>none
mutual
def qxc (E:Env):Nat->TypeId->Option (List Leaf)
 | 0,_=>none
 | d+1,t=>match E.types t with
  | none=>none
  | some ti=>match ti.under with
   | .int k=>bif !ti.isAgg then some [.int k] else none
   | .string=>bif !ti.isAgg then some [.str] else none
   | .bool=>bif !ti.isAgg then some [.bool] else none
   | .struct fs=>bif E.eqOk t&&ti.isAgg then (q0l E d fs.toList 0).bind fun l=>bif Nat.beq ti.size l.length&&Nat.blt 0 l.length then some l else none else none
   | _=>none
def q0l (E:Env):Nat->List Field->Nat->Option (List Leaf)
 | 0,_,_=>none
 | d+1,fs,off=>match fs with
  | []=>some []
  | f::fs=>bif Nat.beq f.offset off then (qxc E d f.type).bind fun a=>(q0l E d fs (off+a.length)).map fun r=>a++r else none
end
def tiled:List Leaf->List (P I B S Pr L)->Bool
 | [],[]=>true
 | .int k::l,.int k' _ _::ps=>decide (k=k')&&tiled l ps
 | .str::l,.str _::ps=>tiled l ps
 | .bool::l,.lit _::ps=>tiled l ps
 | .bool::l,.sb ..::ps=>tiled l ps
 | _,_=>false
def qr7 (st:St I B S Pr L) (bad:Pr) (c:Option (qqm B Pr)) (k:P I B S Pr L->St I B S Pr L->Pr):Pr:=
 match c with
 | some c=>k (q5d st c).1 (q5d st c).2
 | none=>bad
def qpi (A:Alg I B S Pr L K) (neg:Bool) (c:qqm B Pr):qqm B Pr:=bif neg then zqy A c else c
def zhe (A:Alg I B S Pr L K) (neg:Bool) (x y:P I B S Pr L) (st:St I B S Pr L) (k:P I B S Pr L->St I B S Pr L->Pr):Pr:=
 match x,y with
 | .nils,.nils=>k (.lit (true != neg)) st
 | .list c l _,.nils=>A.allB fun b=>A.imp (A.imp (A.braw b).1 (A.eqL c l (A.lof c []))) (qr7 st (A.ff "comparison") (some (qpi A neg (b,(A.braw b).1,(A.braw b).2))) k)
 | _,_=>A.ff "comparison"
def zkx (A:Alg I B S Pr L K) (E:Env) (neg:Bool) (t:TypeId) (x y:P I B S Pr L) (st:St I B S Pr L) (k:P I B S Pr L->St I B S Pr L->Pr):Pr:=
 match x,y with
 | .int kd (some a) _,.int kd' (some b) _=>if kd=kd' then k (.lit ((a == b) != neg)) st else A.ff "comparison"
 | .int kd _ a,.int kd' _ b=>if kd=kd' then qr7 st (A.ff "comparison") ((A.icmp .eql a b).map (qpi A neg)) k else A.ff "comparison"
 | .str a,.str b=>qr7 st (A.ff "comparison") ((A.scmp .eql a b).map (qpi A neg)) k
 | .agg xs,.agg ys=>match E.types t,qxc E 1000 t with
  | some ti,some l=>bif ti.isAgg&&(tiled l xs&&tiled l ys) then qr7 st (A.ff "comparison") ((q7y A xs ys).map fun cs=>qpi A neg (A.ball cs)) k else A.ff "comparison"
  | _,_=>A.ff "comparison"
 | x,y=>match E.types t with
  | none=>A.ff "comparison"
  | some ti=>match ti.under with
   | .bool=>qr7 st (A.ff "comparison") ((eqP A x y).map (qpi A neg)) k
   | .slice _=>zhe A neg x y st k
   | u=>match zf9 E u x y with
    | some b=>k (.lit (b != neg)) st
    | none=>A.ff "comparison"
def q7e (A:Alg I B S Pr L K) (op:BinOp) (x y:P I B S Pr L) (st:St I B S Pr L) (k:P I B S Pr L->St I B S Pr L->Pr):Pr:=
 match x,y with
 | .int kd (some a) _,.int kd' (some b) _=>if kd=kd' then (match qf7 op kd a b with
   | some (.int kd n)=>k (.int kd (some n) (A.ilit n)) st
   | some (.bool b)=>k (.lit b) st
   | _=>A.ff "operator") else A.ff "operator"
 | .int kd _ a,.int kd' _ b=>if kd=kd' then (match A.icmp op a b with
   | some c=>qr7 st (A.ff "operator") (some c) k
   | none=>match A.iop op kd a b with
    | some r=>A.and r.1 (k (.int kd none r.2) st)
    | none=>A.ff "operator") else A.ff "operator"
 | .str a,.str b=>match op with
  | .add=>A.and (A.scat a b).1 (k (.str (A.scat a b).2) st)
  | op=>qr7 st (A.ff "operator") (A.scmp op a b) k
 | _,_=>A.ff "operator"
def zpq (A:Alg I B S Pr L K) (x y:P I B S Pr L) (st:St I B S Pr L) (k:P I B S Pr L->St I B S Pr L->Pr):Pr:=
 match x,y with
 | .int kd (some a) _,.int _ (some b) _=>if 0<=b then k (.int kd (some (a.fdiv (2 ^ (min b.toNat kd.bits)))) (A.ilit (a.fdiv (2 ^ (min b.toNat kd.bits))))) st else A.ff "shift"
 | .int kd _ a,.int _ (some b) _=>if 0<=b/\b<kd.bits then (match A.iop .quo kd a (A.ilit (2 ^ b.toNat)) with
   | some r=>A.and (A.leI (A.ilit 0) a) (A.and r.1 (k (.int kd none r.2) st))
   | none=>A.ff "shift") else A.ff "shift"
 | _,_=>A.ff "shift"
def znk (A:Alg I B S Pr L K) (C:Cfg I B S Pr L) (op:BinOp) (t:TypeId) (x y:P I B S Pr L) (st:St I B S Pr L) (k:P I B S Pr L->St I B S Pr L->Pr):Pr:=
 match op with
 | .eql=>zkx A C.E false t x y st k
 | .neq=>zkx A C.E true t x y st k
 | .shl=>A.ff "operator"
 | .shr=>zpq A x y st k
 | op=>q7e A op x y st k
def unP (A:Alg I B S Pr L K) (op:UnOp) (x:P I B S Pr L) (st:St I B S Pr L) (k:P I B S Pr L->St I B S Pr L->Pr):Pr:=
 match op,x with
 | .neg,.int kd _ n=>let r:=A.ineg kd n;A.and r.1 (k (.int kd none r.2) st)
 | .not,.lit b=>k (.lit !b) st
 | .not,.sb id neg b pt pf=>k (.sb id (!neg) (A.bnot b) pf pt) st
 | _,_=>A.ff "operator"
def qdf (st:St I B S Pr L):P I B S Pr L->Bool
 | .nils=>true
 | .list _ _ (some (i,s))=>match look st.owns i with
  | some s'=>Nat.beq s s'
  | none=>false
 | _=>false
def zho:P I B S Pr L->Bool
 | .nils=>true
 | .list _ _ (some (_,s))=>Nat.beq (s % 2) 1
 | _=>false
def qrs (A:Alg I B S Pr L K) (st:St I B S Pr L):SK->P I B S Pr L->Option (List (N I B S L))
 | .int k,.int k' _ n=>if k=k' then some [.i n] else none
 | .bool,.lit b=>some [.b (A.blit b)]
 | .bool,.sb _ _ b _ _=>some [.b b]
 | .str,.str s=>some [.s s]
 | .list c own nb,p=>bif (own&&!qdf st p) || (nb&&!zho p) then none else (asL A c p).map fun l=>[.l c l]
 | .keep,_=>some []
 | _,_=>none
def qkz (A:Alg I B S Pr L K) (st:St I B S Pr L):List SK->List (P I B S Pr L)->Option (List (N I B S L))
 | [],[]=>some []
 | k::ks,p::ps=>(qrs A st k p).bind fun a=>(qkz A st ks ps).map fun r=>a++r
 | _,_=>none
def qk7 (A:Alg I B S Pr L K) (st:St I B S Pr L):List Sh->List (P I B S Pr L)->Option (List (N I B S L))
 | [],[]=>some []
 | .one k::ks,p::ps=>(qrs A st k p).bind fun a=>(qk7 A st ks ps).map fun r=>a++r
 | .agg l::ks,.agg cs::ps=>(qkz A st l cs).bind fun a=>(qk7 A st ks ps).map fun r=>a++r
 | _,_=>none
def fnP (A:Alg I B S Pr L K) (st:St I B S Pr L) (g:Nat) (args:List (P I B S Pr L)):Option (Pr×P I B S Pr L):=
 (A.fn g).bind fun ct=>(qk7 A st ct.1 args).bind ct.2
def qoz (A:Alg I B S Pr L K) (c:Nat) (s:P I B S Pr L) (x:L c) (st:St I B S Pr L) (k:P I B S Pr L->St I B S Pr L->Pr):Pr:=
 bif !qdf st s then A.ff "append to what is not one's own" else
 match asL A c s with
 | none=>A.ff "append"
 | some l=>let r:=A.lcat c l x
  match s with
  | .list _ _ (some (i,g))=>A.and r.1 (k (.list c r.2 (some (i,g+2))) {st with owns:=qei st.owns i (g+2)})
  | _=>A.and r.1 (k (.list c r.2 (some (st.next,1))) {st with owns:=(st.next,1)::st.owns,next:=st.next+1})
def q5c (A:Alg I B S Pr L K) (c:Nat):List (List (P I B S Pr L))->Option (List Pr×List (K c))
 | []=>some ([],[])
 | x::xs=>(A.pack c x).bind fun r=>(q5c A c xs).map fun rs=>(r.1::rs.1,r.2::rs.2)
def zfi (A:Alg I B S Pr L K) (l:List Pr) (p:Pr):Pr:=l.foldr A.and p
def chunks (sz:Nat):Nat->List (P I B S Pr L)->List (List (P I B S Pr L))
 | 0,_=>[]
 | n+1,l=>l.take sz::chunks sz n (l.drop sz)
def zhz (A:Alg I B S Pr L K) (C:Cfg I B S Pr L) (st:St I B S Pr L):Option Operand->Option (Option I)
 | none=>some none
 | some x=>match k8 A C st x with
  | some (.int _ _ n)=>some (some n)
  | _=>none
def qg4 (next:Nat):P I B S Pr L->P I B S Pr L
 | .list c l (some (i,_))=>.list c l (some (next+i,0))
 | p=>p
def qbo:List (P I B S Pr L)->List Nat
 | []=>[]
 | .list _ _ (some (i,_))::ps=>i::qbo ps
 | _::ps=>qbo ps
def P.parts:P I B S Pr L->List (P I B S Pr L)
 | .tuple l=>l
 | p=>[p]
def P.flat:P I B S Pr L->List (P I B S Pr L)
 | .tuple l=>l.flatMap P.cellsOf
 | p=>p.cellsOf
def qhi (f:P I B S Pr L->P I B S Pr L):P I B S Pr L->P I B S Pr L
 | .tuple l=>.tuple (l.map fun p=>match p with
  | .agg cs=>.agg (cs.map f)
  | p=>f p)
 | .agg cs=>.agg (cs.map f)
 | p=>f p
def distinct:List Nat->Bool
 | []=>true
 | i::l=>!(l.any fun j=>Nat.beq i j)&&distinct l
def jx:List (P I B S Pr L)->Nat->List (P I B S Pr L)×Nat
 | [],n=>([],n)
 | .agg cs::ps,n=>match qa2 cs n with
  | (ds,m)=>match jx ps m with
   | (qs,m)=>(.agg ds::qs,m)
 | .sb 0 neg b pt pf::ps,n=>match jx ps (n+1) with
  | (qs,m)=>(.sb n neg b pt pf::qs,m)
 | p::ps,n=>match jx ps n with
  | (qs,m)=>(p::qs,m)
def qcg (st:St I B S Pr L) (r:P I B S Pr L):P I B S Pr L×St I B S Pr L:=
 let ids:=qbo r.flat
 let m:=ids.foldl (fun a i=>max a (i+1)) 0
 let r':=qhi (qg4 st.next) r
 let st':={st with next:=st.next+m,owns:=ids.map (fun i=>(st.next+i,0))++st.owns}
 match r' with
 | .tuple l=>match jx l st'.next with
  | (l',n)=>(.tuple l',{st' with next:=n})
 | p=>qc8 p st'
abbrev Inl (I B S Pr:Type) (L:Nat->Type):=Tgt->List (P I B S Pr L)->St I B S Pr L->(P I B S Pr L->St I B S Pr L->Pr)->Pr
def q3x (A:Alg I B S Pr L K) (inl:Inl I B S Pr L) (f:P I B S Pr L) (args:List (P I B S Pr L)) (st:St I B S Pr L) (k:P I B S Pr L->St I B S Pr L->Pr):Pr:=
 match f with
 | .func g first cap=>match fnP A st g (first++args++cap) with
  | some (pre,r)=>bif distinct (qbo r.flat) then (let x:=qcg st r;A.and pre (k x.1 x.2)) else A.ff "contract"
  | none=>inl (.func g) (first++args++cap) st k
 | .yield id=>inl (.round id) args st k
 | _=>A.ff "call"
def qh4 (A:Alg I B S Pr L K) (C:Cfg I B S Pr L) (b:Builtin) (ats:List TypeId) (args:List (P I B S Pr L)) (st:St I B S Pr L) (k:P I B S Pr L->St I B S Pr L->Pr):Pr:=
 match b,args,ats with
 | .len,[x],[t]=>match C.E.types t with
  | some ti=>match ti.under,x with
   | .array n _,_=>k (.int .i64 (some n) (A.ilit n)) st
   | .string,.str s=>k (.int .i64 none (A.slen s)) st
   | .slice _,.nils=>k (.int .i64 (some 0) (A.ilit 0)) st
   | .slice _,.list c l _=>k (.int .i64 none (A.llen c l)) st
   | .slice _,.mlist _ _ n=>k (.int .i64 none n) st
   | .slice _,.plist _ n _=>k (.int .i64 (some n) (A.ilit n)) st
   | _,_=>A.ff "len"
  | none=>A.ff "len"
 | .append,[s,x],[t,u]=>match C.E.types t,C.E.types u with
  | some ti,some ui=>match ti.under,ui.under with
   | .slice e,.slice _=>match C.codec e,C.E.types e with
    | some c,some ei=>bif Nat.ble ei.bytes 1024&&!Nat.beq ei.size 0 then (match asL A c x with
     | some l=>qoz A c s l st k
     | none=>A.ff "append") else A.ff "append"
    | _,_=>A.ff "append"
   | .slice e,.string=>match C.codec e,C.E.types e,x with
    | some 0,some ei,.str y=>bif Nat.ble ei.bytes 1024&&Nat.beq ei.size 1 then qoz A 0 s (A.sbytes y) st k else A.ff "append"
    | _,_,_=>A.ff "append"
   | _,_=>A.ff "append"
  | _,_=>A.ff "append"
 | .max,[.int kd _ a,.int _ _ b],_=>k (.int kd none (A.ibest true a b)) st
 | .min,[.int kd _ a,.int _ _ b],_=>k (.int kd none (A.ibest false a b)) st
 | _,_,_=>A.ff "builtin"
def onS {α:Type} (bad:Pr) (o:Option α) (k:α->Pr):Pr:=
 match o with
 | some a=>k a
 | none=>bad
def fieldPlace (E:Env) (fs:Array Field) (i:Nat):Option (Nat×Nat):=(fs[i]?).bind fun f=>(E.types f.type).map fun fi=>(f.offset,fi.size)
def q7i (A:Alg I B S Pr L K) (E:Env) (ti:TI) (parts:List Nat) (vs:List (P I B S Pr L)) (st:St I B S Pr L) (k:P I B S Pr L->St I B S Pr L->Pr):Pr:=
 onS (A.ff "build") (zeroCells A ti) fun z=>match ti.under with
  | .struct fs=>bif fs.toList.all (fun f=>(E.types f.type).isSome) then onS (A.ff "build") (qvu (fieldPlace E fs) z (parts.zip vs)) fun cs=>k (.agg cs) st else A.ff "build"
  | .array _ e=>onS (A.ff "build") (E.types e) fun ei=>onS (A.ff "build") (qvu (fun i=>some (i * ei.size,ei.size)) z (parts.zip vs)) fun cs=>k (.agg cs) st
  | _=>A.ff "build"
def zfr (A:Alg I B S Pr L K) (C:Cfg I B S Pr L) (si di:TI) (p:P I B S Pr L) (st:St I B S Pr L) (k:P I B S Pr L->St I B S Pr L->Pr):Pr:=
 match si.under,di.under,p with
 | .int _,.int kd,.int _ (some n) _=>k (.int kd (some (kd.wrap n)) (A.ilit (kd.wrap n))) st
 | .int _,.int kd,.int _ none n=>A.and (A.iconv kd n).1 (k (.int kd none (A.iconv kd n).2) st)
 | .string,.string,.str s=>k (.str s) st
 | .slice e,.string,p=>onS (A.ff "convert") (C.codec e) fun c=>bif Nat.beq c 0 then onS (A.ff "convert") (asL A 0 p) fun l=>onS (A.ff "convert") (C.E.types e) fun ei=>(match ei.under with
   | .int .u8=>k (.str (A.bstr l)) st
   | _=>A.ff "convert") else A.ff "convert"
 | .pointer e,.unsafePointer,.cell id off lim=>onS (A.ff "convert") (C.E.types e) fun ei=>onS (A.ff "convert") (qnf st.cells id) fun _=>bif Nat.blt 0 ei.size&&Nat.ble (off+1) lim then k (.cell id off lim) st else A.ff "convert"
 | .unsafePointer,.pointer e,.cell id off lim=>onS (A.ff "convert") (C.E.types e) fun ei=>onS (A.ff "convert") (qn9 st.cells id) fun t=>onS (A.ff "convert") (qnf st.cells id) fun cs=>onS (A.ff "convert") (C.E.types t) fun li=>
   bif Nat.blt 0 ei.size&&C.E.lies t (cs.length / li.size) off e then k (.cell id off lim) st else A.ff "convert"
 | _,_,_=>A.ff "convert"
def ziv (A:Alg I B S Pr L K) (C:Cfg I B S Pr L) (ti:TI) (p:P I B S Pr L) (lo hi:Option I) (st:St I B S Pr L) (k:P I B S Pr L->St I B S Pr L->Pr):Pr:=
 match ti.under,p with
 | .string,.str s=>A.and (A.ssub s lo hi).1 (k (.str (A.ssub s lo hi).2) st)
 | .slice e,p=>onS (A.ff "slice") (C.codec e) fun c=>onS (A.ff "slice") (C.E.types e) fun _=>onS (A.ff "slice") (asL A c p) fun l=>A.and (A.lsub c l lo hi).1 (k (.list c (A.lsub c l lo hi).2 none) st)
 | _,_=>A.ff "slice"
def zag (A:Alg I B S Pr L K) (C:Cfg I B S Pr L) (ti:TI) (p i:P I B S Pr L) (st:St I B S Pr L) (k:P I B S Pr L->St I B S Pr L->Pr):Pr:=
 match ti.under with
 | .slice e=>(match p with
  | .plist es m cs=>onS (A.ff "indexAddr") (C.E.types e) fun ei=>bif Nat.beq ei.size es then sel A i m fun j=>k (.eptr cs (j * es)) st else A.ff "indexAddr"
  | p=>onS (A.ff "indexAddr") (C.codec e) fun c=>onS (A.ff "indexAddr") (C.E.types e) fun _=>match i with
  | .int _ _ n=>(match p with
   | .mlist id c' m=>bif Nat.beq c c' then A.and (A.within n m) (k (.mptr id c' n m 0) st) else A.ff "indexAddr"
   | p=>onS (A.ff "indexAddr") (asL A c p) fun l=>A.and (A.within n (A.llen c l)) (k (.eptr (A.cells c (A.lget c l n)) 0) st))
  | _=>A.ff "indexAddr")
 | .array m e=>onS (A.ff "indexAddr") (C.E.types e) fun ei=>match p with
  | .cell id off lim=>sel A i m fun j=>k (.cell id (off+j * ei.size) lim) st
  | .eptr cs off=>sel A i m fun j=>k (.eptr cs (off+j * ei.size)) st
  | _=>A.ff "indexAddr"
 | _=>A.ff "indexAddr"
def ixP (A:Alg I B S Pr L K) (C:Cfg I B S Pr L) (ti:TI) (p i:P I B S Pr L) (st:St I B S Pr L) (k:P I B S Pr L->St I B S Pr L->Pr):Pr:=
 match ti.under with
 | .string=>match p,i with
  | .str s,.int _ _ n=>A.and (A.within n (A.slen s)) (k (.int .u8 none (A.sget s n)) st)
  | _,_=>A.ff "index"
 | .array m e=>match p with
  | .agg cs=>onS (A.ff "index") (C.E.types e) fun ei=>sel A i m fun j=>onS (A.ff "index") (zaq ei cs (j * ei.size)) fun v=>k v st
  | _=>A.ff "index"
 | _=>A.ff "index"
def q07 (C:Cfg I B S Pr L) (e:TypeId) (c:Nat):Bool:=
 match C.codec e,C.E.types e with
 | some c',some _=>Nat.beq c' c
 | _,_=>false
def zm8 (A:Alg I B S Pr L K) (C:Cfg I B S Pr L) (ti:TI) (l m:P I B S Pr L) (st:St I B S Pr L) (k:P I B S Pr L->St I B S Pr L->Pr):Pr:=
 match ti.under,l,m with
 | .slice e,.int .i64 _ n,.int .i64 _ n'=>onS (A.ff "make") (C.codec e) fun c=>onS (A.ff "make") (C.E.types e) fun ei=>bif Nat.ble ei.bytes 1024&&!Nat.beq ei.size 0 then
   onS (A.ff "make") (zeroCells A ei) fun z=>onS (A.ff "make") (A.pack c z) fun r=>A.and (A.eqI n n') (A.and (A.within n (A.ilit 1000000000)) (A.and r.1
    (k (.mlist st.next c n) {st with cells:=(st.next,.ml c (A.lrep c r.2 n))::st.cells,next:=st.next+1}))) else A.ff "make"
 | _,_,_=>A.ff "make"
def zg6 (A:Alg I B S Pr L K) (ti:TI) (p:P I B S Pr L) (st:St I B S Pr L) (k:P I B S Pr L->St I B S Pr L->Pr):Pr:=
 match p with
 | .mptr id c i n off=>onS (A.ff "load") (qpy st.cells id c) fun l=>A.and (A.leI n (A.llen c l)) (onS (A.ff "load") (loadAt ti (A.cells c (A.lget c l i)) off) fun v=>k (qc8 v st).1 (qc8 v st).2)
 | p=>onS (A.ff "load") (zah st ti p) fun v=>k (qc8 v st).1 (qc8 v st).2
def q80 (A:Alg I B S Pr L K) (ti:TI) (a x:P I B S Pr L) (st:St I B S Pr L) (k:P I B S Pr L->St I B S Pr L->Pr):Pr:=
 match a with
 | .mptr id c i n off=>onS (A.ff "store") (qpy st.cells id c) fun l=>
   bif Nat.beq x.cellsOf.length ti.size&&Nat.ble (off+ti.size) (A.cells c (A.lget c l i)).length&&x.cellsOf.all qar then
    onS (A.ff "store") (A.pack c (qcf (A.cells c (A.lget c l i)) off x.cellsOf)) fun r=>A.and (A.leI n (A.llen c l)) (A.and r.1 (k qmg {st with cells:=qei st.cells id (.ml c (A.lset c l i r.2))}))
   else A.ff "store"
 | a=>onS (A.ff "store") (q81 st ti a x) fun st'=>k qmg st'
def q99 (A:Alg I B S Pr L K) (C:Cfg I B S Pr L) (ti:TI) (id c:Nat) (n:I) (lo hi:Option I) (st:St I B S Pr L) (k:P I B S Pr L->St I B S Pr L->Pr):Pr:=
 onS (A.ff "slice") (qpy st.cells id c) fun l=>match ti.under with
 | .slice e=>bif q07 C e c then A.and (A.eqI n (A.llen c l)) (A.and (A.lsub c l lo hi).1 (k (.list c (A.lsub c l lo hi).2 none) {st with cells:=qa0 st.cells id})) else A.ff "slice"
 | _=>A.ff "slice"
def q7c:V->Bool
 | .agg _=>true
 | _=>false
def zni:P I B S Pr L->Bool
 | .agg _=>true
 | _=>false
def qi4 (ki:TI):Option Leaf:=
 bif ki.isAgg then none else match ki.under with
 | .int k=>some (.int k)
 | .string=>some .str
 | .bool=>some .bool
 | _=>none
def zaj (C:Cfg I B S Pr L) (st:St I B S Pr L) (t:TypeId) (id:Nat) (key:P I B S Pr L):Option (MapC L×TI):=
 (C.E.types t).bind fun ti=>match ti.under with
 | .map kt et=>(C.E.types kt).bind fun ki=>(C.E.types et).bind fun ei=>(qi4 ki).bind fun lf=>(q2b st.cells id).bind fun m=>
   bif qqb m.lf lf&&(m.va == ei.isAgg)&&(q7c ei.zero == ei.isAgg)&&tiled [lf] [key] then some (m,ei) else none
 | _=>none
def qtn (A:Alg I B S Pr L K) (C:Cfg I B S Pr L) (t:TypeId) (ok:Bool) (m key:P I B S Pr L) (st:St I B S Pr L) (k:P I B S Pr L->St I B S Pr L->Pr):Pr:=
 match m with
 | .map id=>onS (A.ff "map") (zaj C st t id key) fun (mc,ei)=>onS (A.ff "map") (zeroCells A ei) fun z=>onS (A.ff "map") (A.pack mc.c (key::z)) fun r=>A.and r.1
   (let cs:=(A.cells mc.c (A.mget mc.c 1 mc.l r.2)).drop 1
    onS (A.ff "map") (bif mc.va then some (.agg cs) else bif Nat.beq cs.length 1 then cs[0]? else none) fun v=>
    let x:=qc8 v st
    bif ok then (let y:=q5d x.2 (A.mhas mc.c 1 mc.l r.2,A.braw (A.mhas mc.c 1 mc.l r.2));k (.tuple [x.1,y.1]) y.2) else k x.1 x.2)
 | _=>A.ff "map"
def qpr (A:Alg I B S Pr L K) (C:Cfg I B S Pr L) (t:TypeId) (m key x:P I B S Pr L) (st:St I B S Pr L) (k:P I B S Pr L->St I B S Pr L->Pr):Pr:=
 match m with
 | .map id=>onS (A.ff "map") (zaj C st t id key) fun (mc,ei)=>bif (zni x == mc.va)&&Nat.beq x.cellsOf.length ei.size&&x.cellsOf.all qar then
   onS (A.ff "map") (A.pack mc.c (key::x.cellsOf)) fun r=>A.and r.1 (k qmg {st with cells:=qei st.cells id (.mp mc.c mc.lf mc.va (A.mput mc.c 1 mc.l r.2))}) else A.ff "map"
 | _=>A.ff "map"
def zhd (A:Alg I B S Pr L K) (p:P I B S Pr L) (st:St I B S Pr L) (k:P I B S Pr L->St I B S Pr L->Pr):Pr:=
 match p with
 | .cell id 0 _=>onS (A.ff "next") (qrd st.cells id) fun (s,n)=>onS (A.ff "next") (A.icmp .lss n (A.slen s)) fun c=>
   A.and (A.imp c.2.1 (k (.tuple [.lit true,.int .i64 none n,.int .i32 none (A.srune s n)]) {st with cells:=qei st.cells id (.si s (A.snext s n))}))
    (A.imp c.2.2 (k (.tuple [.lit false]) st))
 | _=>A.ff "next"
def qa1 (A:Alg I B S Pr L K) (C:Cfg I B S Pr L) (inl:Inl I B S Pr L) (o:Oper) (st:St I B S Pr L) (k:P I B S Pr L->St I B S Pr L->Pr):Pr:=
 match o.op with
 | .move x=>onS (A.ff "operand") (k8 A C st x) fun p=>k p st
 | .assign x=>onS (A.ff "operand") (k8 A C st x) fun p=>k p st
 | .pick c a b=>onS (A.ff "operand") (k8 A C st c) fun c=>br A st c fun v st'=>onS (A.ff "operand") (k8 A C st' (if v then a else b)) fun p=>k p st'
 | .alloc e=>onS (A.ff "type") (C.E.types e) fun ti=>onS (A.ff "alloc") (zeroCells A ti) fun cs=>k (.cell st.next 0 cs.length) {st with cells:=(st.next,.cs (some e) cs)::st.cells,next:=st.next+1}
 | .box t x=>onS (A.ff "operand") (k8 A C st x) fun p=>bif p.cellsOf.all qar then k (.cell st.next 0 p.cellsOf.length) {st with cells:=(st.next,.cs (some t) p.cellsOf)::st.cells,next:=st.next+1} else A.ff "box"
 | .build t parts=>onS (A.ff "type") (C.E.types t) fun ti=>onS (A.ff "operand") (qe6 A C st (parts.toList.map (·.2))) fun vs=>q7i A C.E ti (parts.toList.map (·.1)) vs st k
 | .buildSlice t len parts=>onS (A.ff "type") (C.E.types t) fun ti=>onS (A.ff "operand") (qe6 A C st (parts.toList.map (·.2))) fun vs=>match ti.under with
  | .slice e=>onS (A.ff "type") (C.E.types e) fun ei=>onS (A.ff "buildSlice") (zeroCells A ei) fun z=>
    bif Nat.ble (len * ei.size) 16777216 then
     onS (A.ff "buildSlice") (qvu (fun i=>some (i * ei.size,ei.size)) (List.replicate len z).flatten ((parts.toList.map (·.1)).zip vs)) fun cells=>match C.codec e with
      | some c=>onS (A.ff "buildSlice") (q5c A c (chunks ei.size len cells)) fun r=>
       zfi A r.1 (k (.list c (A.lof c r.2) (some (st.next,0))) {st with owns:=(st.next,0)::st.owns,next:=st.next+1})
      | none=>bif Nat.blt 0 ei.size&&Nat.beq cells.length (len * ei.size) then k (.plist ei.size len cells) {st with owns:=(st.next,0)::st.owns,next:=st.next+1} else A.ff "buildSlice"
    else A.ff "buildSlice"
  | _=>A.ff "buildSlice"
 | .load t x=>onS (A.ff "type") (C.E.types t) fun ti=>onS (A.ff "operand") (k8 A C st x) fun p=>zg6 A ti p st k
 | .store t a x=>onS (A.ff "type") (C.E.types t) fun ti=>onS (A.ff "operand") (k8 A C st a) fun a=>onS (A.ff "operand") (k8 A C st x) fun x=>q80 A ti a x st k
 | .nilCheck x=>onS (A.ff "operand") (k8 A C st x) fun p=>match p with
  | .cell ..=>k p st
  | .eptr ..=>k p st
  | .func ..=>k p st
  | .yield ..=>k p st
  | _=>A.ff "nilCheck"
 | .binOp op t x y _=>onS (A.ff "operand") (k8 A C st x) fun a=>onS (A.ff "operand") (k8 A C st y) fun b=>znk A C op t a b st k
 | .unOp op _ x=>onS (A.ff "operand") (k8 A C st x) fun a=>unP A op a st k
 | .convert src dst x=>onS (A.ff "type") (C.E.types src) fun si=>onS (A.ff "type") (C.E.types dst) fun di=>onS (A.ff "operand") (k8 A C st x) fun p=>zfr A C si di p st k
 | .makeInterface t x=>onS (A.ff "type") (C.E.types t) fun ti=>onS (A.ff "operand") (k8 A C st x) fun p=>match ti.under with
  | .interface _=>A.ff "makeInterface"
  | _=>k (.iface t p) st
 | .makeFunc (.func f) first captured=>onS (A.ff "operand") (qe6 A C st first.toList) fun a=>onS (A.ff "operand") (qe6 A C st captured.toList) fun c=>k (.func f a c) st
 | .makeSlice t l m=>onS (A.ff "type") (C.E.types t) fun ti=>onS (A.ff "operand") (k8 A C st l) fun l=>onS (A.ff "operand") (k8 A C st m) fun m=>zm8 A C ti l m st k
 | .slice t x lo hi none=>onS (A.ff "type") (C.E.types t) fun ti=>onS (A.ff "operand") (k8 A C st x) fun p=>onS (A.ff "operand") (zhz A C st lo) fun lo=>onS (A.ff "operand") (zhz A C st hi) fun hi=>match p with
  | .mlist id c n=>q99 A C ti id c n lo hi st k
  | p=>ziv A C ti p lo hi st k
 | .makeMap t none=>onS (A.ff "type") (C.E.types t) fun ti=>match ti.under with
  | .map kt et=>onS (A.ff "type") (C.E.types kt) fun ki=>onS (A.ff "type") (C.E.types et) fun ei=>onS (A.ff "map") (C.mcod t) fun c=>onS (A.ff "map") (qi4 ki) fun lf=>
    k (.map st.next) {st with cells:=(st.next,.mp c lf ei.isAgg (A.lof c []))::st.cells,next:=st.next+1}
  | _=>A.ff "map"
 | .range t x=>onS (A.ff "type") (C.E.types t) fun ti=>onS (A.ff "operand") (k8 A C st x) fun p=>match ti.under,p with
  | .string,.str s=>k (.cell st.next 0 0) {st with cells:=(st.next,.si s (A.ilit 0))::st.cells,next:=st.next+1}
  | _,_=>A.ff "range"
 | .next x true=>onS (A.ff "operand") (k8 A C st x) fun p=>zhd A p st k
 | .lookup t m x ok=>onS (A.ff "operand") (k8 A C st m) fun m=>onS (A.ff "operand") (k8 A C st x) fun x=>qtn A C t ok m x st k
 | .mapUpdate t m x y=>onS (A.ff "operand") (k8 A C st m) fun m=>onS (A.ff "operand") (k8 A C st x) fun x=>onS (A.ff "operand") (k8 A C st y) fun y=>qpr A C t m x y st k
 | .insert t m x y=>onS (A.ff "operand") (k8 A C st m) fun m=>onS (A.ff "operand") (k8 A C st x) fun x=>onS (A.ff "operand") (k8 A C st y) fun y=>qpr A C t m x y st k
 | .fieldAddr s x j=>onS (A.ff "type") (C.E.types s) fun ti=>onS (A.ff "fieldAddr") (qfg ti j) fun f=>onS (A.ff "type") (C.E.types f.type) fun fi=>bif Nat.beq fi.size 0 then A.ff "fieldAddr" else onS (A.ff "operand") (k8 A C st x) fun p=>match p with
  | .cell id off lim=>k (.cell id (off+f.offset) lim) st
  | .eptr cs off=>k (.eptr cs (off+f.offset)) st
  | .mptr id c i n off=>k (.mptr id c i n (off+f.offset)) st
  | _=>A.ff "fieldAddr"
 | .field t x j=>onS (A.ff "type") (C.E.types t) fun ti=>onS (A.ff "field") (qfg ti j) fun f=>onS (A.ff "type") (C.E.types f.type) fun fi=>onS (A.ff "operand") (k8 A C st x) fun p=>match p with
  | .agg cs=>onS (A.ff "field") (zaq fi cs f.offset) fun v=>k v st
  | _=>A.ff "field"
 | .indexAddr t x i=>onS (A.ff "type") (C.E.types t) fun ti=>onS (A.ff "operand") (k8 A C st x) fun p=>onS (A.ff "operand") (k8 A C st i) fun i=>zag A C ti p i st k
 | .index t x i=>onS (A.ff "type") (C.E.types t) fun ti=>onS (A.ff "operand") (k8 A C st x) fun p=>onS (A.ff "operand") (k8 A C st i) fun i=>ixP A C ti p i st k
 | .extract x i=>onS (A.ff "operand") (k8 A C st x) fun p=>match p with
  | .tuple vs=>onS (A.ff "extract") vs[i]? fun v=>k v st
  | _=>A.ff "extract"
 | .call c=>onS (A.ff "operand") (qe6 A C st c.args.toList) fun args=>match c.callee with
  | .value f=>onS (A.ff "operand") (k8 A C st f) fun f=>q3x A inl f args st k
  | .builtin b=>qh4 A C b c.argTypes.toList args st k
  | .invoke ..=>A.ff "invoke"
 | _=>A.ff "operation"
def za1 (A:Alg I B S Pr L K) (o:Oper) (all:Array Oper) (st:St I B S Pr L) (k:Bool->St I B S Pr L->Pr):Pr:=
 match o.guard with
 | none=>k true st
 | some (j,want)=>match (all[j]?).bind (·.dst) with
  | none=>k false st
  | some d=>match st.tmps.get d with
   | some (.lit b)=>k (b == want) st
   | some (.sb id neg b pt pf)=>br A st (.sb id neg b pt pf) fun v st'=>k (v == want) st'
   | some (.tuple [])=>k false st
   | _=>A.ff "guard"
def qo8 (op:Op):Bool:=match op with | .defer _=>true | _=>false
def wpOps (A:Alg I B S Pr L K) (C:Cfg I B S Pr L) (inl:Inl I B S Pr L) (all:Array Oper):List Oper->St I B S Pr L->(St I B S Pr L->Pr)->Pr
 | [],st,k=>k st
 | o::l,st,k=>bif qo8 o.op then A.ff "defer" else za1 A o all st fun w st1=>
  bif w then qa1 A C inl o st1 fun p st2=>wpOps A C inl all l (st2.put o.dst p) k
  else wpOps A C inl all l (st1.put o.dst qmg) k
def q9i (A:Alg I B S Pr L K):P I B S Pr L->Option (P I B S Pr L)
 | .int k l n=>some (.int k l n)
 | .lit b=>some (.lit b)
 | .sb _ _ b _ _=>some (.sb 0 false b (A.braw b).1 (A.braw b).2)
 | .str s=>some (.str s)
 | .list c l _=>some (.list c l none)
 | .func f [] []=>some (.func f [] [])
 | .nilf=>some .nilf
 | _=>none
def q3t (A:Alg I B S Pr L K):List (P I B S Pr L)->Option (List (P I B S Pr L))
 | []=>some []
 | p::ps=>(q9i A p).bind fun q=>(q3t A ps).map fun qs=>q::qs
def bare (A:Alg I B S Pr L K):P I B S Pr L->Option (P I B S Pr L)
 | .agg cs=>(q3t A cs).map .agg
 | p=>q9i A p
def qud (A:Alg I B S Pr L K):List (P I B S Pr L)->Option (List (P I B S Pr L))
 | []=>some []
 | p::ps=>(bare A p).bind fun q=>(qud A ps).map fun qs=>q::qs
def q9j (A:Alg I B S Pr L K):P I B S Pr L->Option (P I B S Pr L)
 | .tuple l=>(qud A l).map .tuple
 | p=>bare A p
def q2p (A:Alg I B S Pr L K) (inl:Inl I B S Pr L):Inl I B S Pr L:=fun t args st k=>
 match t with
 | .func g=>match qud A args with
  | some as=>inl (.func g) (jx as 1).1 {tmps:=.nil,n:=0,cells:=[],owns:=[],next:=(jx as 1).2,known:=[]} fun p _=>match q9j A p with
   | some r=>k (qcg st r).1 (qcg st r).2
   | none=>A.ff "value"
  | none=>A.ff "value"
 | .round _=>A.ff "round"
inductive Src where
 | any
 | calm
 | own (j:Nat)
inductive FP3 where
 | none
 | read (id:Nat)
 | write (id:Nat)
 | stable (l:List Src)
 | call (calm:Bool)
 | lone
structure Done3 where
 i:Nat
 fp:FP3
 makes:Bool
def makes (op:Op):Bool:=
 match op with
 | .alloc _ | .box .. | .buildSlice .. | .makeSlice .. | .makeMap .. | .range ..=>true
 | .call c=>match c.callee with
  | .builtin .append=>true
  | .builtin _=>false
  | _=>true
 | _=>false
def elemAt (st:St I B S Pr L) (t:Nat):Bool:=
 match st.tmps.get t with
 | some (.eptr ..)=>true
 | some (.list ..)=>true
 | _=>false
structure Dirt where
 dirty:List Nat
 fresh:List (Nat×Nat×Bool)
def qf0 (g:Dirt) (st:St I B S Pr L):Op->Bool
 | .move (.tmp t)=>!g.dirty.any (Nat.beq t)&&elemAt st t
 | .indexAddr _ (.tmp t) _=>!g.dirty.any (Nat.beq t)&&elemAt st t
 | .fieldAddr _ (.tmp t) _=>!g.dirty.any (Nat.beq t)&&elemAt st t
 | _=>false
def qgh (g:Dirt) (st:St I B S Pr L) (i:Nat):Op->Option (Nat×Bool)
 | .buildSlice ..=>some (i,true)
 | .move (.tmp t)=>look g.fresh t
 | .indexAddr _ (.tmp t) _=>bif elemAt st t then (look g.fresh t).map fun x=>(x.1,false) else none
 | .fieldAddr _ (.tmp t) _=>bif elemAt st t then (look g.fresh t).map fun x=>(x.1,false) else none
 | _=>none
def qab (g:Dirt) (st:St I B S Pr L) (i:Nat) (o:Oper):Option (Nat×Bool):=
 match o.dst with
 | some d=>bif Nat.blt d st.n then qgh g st i o.op else none
 | none=>none
def q8x (g:Dirt) (calm:Bool) (fr:Option (Nat×Bool)):Option Nat->Dirt
 | some d=>⟨bif calm then g.dirty else d::g.dirty,match fr with
  | some x=>(d,x.1,x.2)::qa0 g.fresh d
  | none=>qa0 g.fresh d⟩
 | none=>g
def zmi (g:Dirt) (t:Nat):Src:=
 bif !g.dirty.any (Nat.beq t) then .calm else match look g.fresh t with
  | some (j,_)=>.own j
  | none=>.any
def qw8 (g:Dirt):Operand->List Src
 | .tmp t=>[zmi g t]
 | _=>[]
def qv5 (A:Alg I B S Pr L K) (C:Cfg I B S Pr L) (g:Dirt) (st:St I B S Pr L) (x:Operand):Bool:=
 match k8 A C st x with
 | some .nils=>true
 | some (.list ..)=>(match x with
  | .tmp t=>(match look g.fresh t with
   | some (_,w)=>w
   | none=>false)
  | _=>false)
 | _=>false
def qo3 (A:Alg I B S Pr L K) (C:Cfg I B S Pr L) (g:Dirt) (st:St I B S Pr L) (x:Operand):Bool:=
 match k8 A C st x with
 | some (.int ..) | some (.str _) | some (.lit _) | some (.sb ..) | some .nils=>true
 | some (.list ..)=>(match x with
  | .tmp t=>!g.dirty.any (Nat.beq t)
  | _=>false)
 | _=>false
def fp3 (A:Alg I B S Pr L K) (C:Cfg I B S Pr L) (all:Array Oper) (b:Array Nat) (i:Nat) (o:Oper) (dt:Dirt) (st:St I B S Pr L):Option FP3:=
 bif !zy C.E o.op then (match o.op with
  | .slice _ x _ _ _=>(match k8 A C st x with
   | some (.mlist ..)=>none
   | _=>some .none)
  | _=>some .none) else
 match o.op with
 | .load _ (.tmp t)=>match st.tmps.get t with
  | some (.cell id _ _)=>some (.read id)
  | some (.mptr id ..)=>some (.read id)
  | some (.eptr ..)=>some (.stable [zmi dt t])
  | _=>none
 | .load _ (.global _)=>some (.stable [.calm])
 | .store _ (.tmp t) x=>match st.tmps.get t with
  | some (.cell id _ _)=>bif (qfk x).isEmpty then some (.write id) else none
  | some (.mptr id ..)=>bif (qfk x).isEmpty then some (.write id) else none
  | _=>none
 | .lookup _ (.tmp t) x _=>match st.tmps.get t with
  | some (.map id)=>bif (qfk x).isEmpty then some (.read id) else none
  | _=>none
 | .mapUpdate _ (.tmp t) x y=>match st.tmps.get t with
  | some (.map id)=>bif (qfk x).isEmpty&&(qfk y).isEmpty then some (.write id) else none
  | _=>none
 | .insert _ (.tmp t) x y=>match st.tmps.get t with
  | some (.map id)=>bif (qfk x).isEmpty&&(qfk y).isEmpty then some (.write id) else none
  | _=>none
 | .convert _ _ x=>match k8 A C st x with
  | some (.int ..) | some (.str _)=>bif (qfk x).isEmpty then some (.stable []) else none
  | _=>none
 | .call c=>match c.callee with
  | .value f=>bif qrc C.E all b i then some .lone else match k8 A C st f,qe6 A C st c.args.toList with
   | some (.func g first cap),some args=>bif (fnP A st g (first++args++cap)).isSome || (qud A (first++args++cap)).isSome then some (.call (first.isEmpty&&cap.isEmpty&&c.args.toList.all (qo3 A C dt st))) else none
   | _,_=>none
  | .builtin .append=>(match c.args.toList with
   | [x,y]=>bif qv5 A C dt st x then some (.stable (qw8 dt x++qw8 dt y)) else bif qrc C.E all b i then some .lone else none
   | _=>none)
  | _=>none
 | _=>none
def goes (i:Nat):FP3->FP3->Bool
 | .none,_=>true
 | .read _,.none=>true
 | .read _,.read _=>true
 | .read _,.stable _=>true
 | .read _,.call _=>true
 | .read i,.write j=>!Nat.beq i j
 | .read _,.lone=>false
 | .stable _,.lone=>false
 | .stable _,_=>true
 | .write _,.none=>true
 | .write i,.read j=>!Nat.beq i j
 | .write i,.write j=>!Nat.beq i j
 | .write _,.stable _=>true
 | .write _,.call _=>false
 | .write _,.lone=>false
 | .call _,.none=>true
 | .call _,.read _=>true
 | .call _,.stable _=>true
 | .call _,.call _=>true
 | .call _,.write _=>false
 | .call _,.lone=>false
 | .lone,.none=>true
 | .lone,.stable l=>l.all fun s=>match s with
  | .own j=>Nat.blt i j
  | _=>false
 | .lone,_=>false
def fits (old i:Nat):FP3->Bool
 | .none=>true
 | .read j=>Nat.blt j old
 | .write j=>Nat.blt j old
 | .stable l=>l.all fun s=>match s with
  | .calm=>true
  | .own j=>!Nat.beq j i
  | .any=>false
 | .call c=>c
 | .lone=>false
def qh3 (old:Nat) (d:Done3) (fp:FP3):Bool:=goes d.i d.fp fp&&(!d.makes || fits old d.i fp)
def zgu (A:Alg I B S Pr L K) (inl:Inl I B S Pr L):FP3->Inl I B S Pr L
 | .call _=>q2p A inl
 | _=>inl
def qxi (A:Alg I B S Pr L K) (C:Cfg I B S Pr L) (inl:Inl I B S Pr L) (all:Array Oper) (b:Array Nat) (old:Nat):Nat->List Oper->Dirt->List Done3->St I B S Pr L->(St I B S Pr L->Pr)->Pr
 | _,[],_,_,st,k=>k st
 | i,o::l,dt,done,st,k=>bif qo8 o.op then A.ff "defer" else za1 A o all st fun w st1=>
  bif w then (match fp3 A C all b i o dt st1 with
   | some fp=>bif (done.filter fun d=>!(b.getD i 0).testBit d.i).all (fun d=>qh3 old d fp) then
     qa1 A C (zgu A inl fp) o st1 fun p st2=>bif st1.cells.all (fun x=>(look st2.cells x.1).isSome) then qxi A C inl all b old (i+1) l (q8x dt (qf0 dt st1 o.op) (qab dt st1 i o) o.dst) (⟨i,fp,makes o.op⟩::done) (st2.put o.dst p) k else A.ff "frozen"
    else A.ff "order"
   | none=>A.ff "footprint")
  else qxi A C inl all b old (i+1) l (q8x dt false none o.dst) (⟨i,.none,false⟩::done) (st1.put o.dst qmg) k
def qfc:Code->List Nat
 | .region _ ops _=>ops.toList.filterMap (·.dst)
 | .seq a b=>qfc a++qfc b
 | .cond _ a b=>qfc a++qfc b
 | .block _ a | .loop a | .scope a=>qfc a
 | .rangeFunc _ ps a b=>ps.toList++qfc a++qfc b
 | _=>[]
def qqt {α:Type}:List Nat->Tree α->Tree α
 | [],t=>t
 | n::l,t=>qqt l (t.del n)
inductive RSlot where
 | one (t:Nat) (k:SK)
 | agg (t:Nat) (ks:List SK)
 | var (id:Nat) (ks:List SK)
 | ml (id c:Nat)
 | it (id:Nat)
def zo6:List (Nat×Cont I B S Pr L)->Nat->Option (LRec I B S Pr L)
 | [],_=>none
 | (_,.lp r)::_,0=>some r
 | (_,.lp _)::l,n+1=>zo6 l n
 | _::l,n=>zo6 l n
def resolve (st:St I B S Pr L):List Slot->Option (List RSlot)
 | []=>some []
 | .one t k::l=>(resolve st l).map fun r=>.one t k::r
 | .agg t ks::l=>(resolve st l).map fun r=>.agg t ks::r
 | .via t ks::l=>match st.tmps.get t with
  | some (.cell id _ _)=>(resolve st l).map fun r=>.var id ks::r
  | _=>none
 | .cap t i ks::l=>match st.tmps.get t with
  | some (.func _ _ cap)=>match cap[i]? with
   | some (.cell id _ _)=>(resolve st l).map fun r=>.var id ks::r
   | _=>none
  | _=>none
 | .elems t::l=>match st.tmps.get t with
  | some (.mlist id c _)=>(resolve st l).map fun r=>.ml id c::r
  | _=>none
 | .iter t::l=>match st.tmps.get t with
  | some (.cell id _ _)=>(resolve st l).map fun r=>.it id::r
  | _=>none
 | .out j t ks::l=>match (zo6 st.cells j).bind fun r=>r.tmps.get t with
  | some (.cell id _ _)=>(resolve st l).map fun r=>.var id ks::r
  | _=>none
def qbd (st:St I B S Pr L):RSlot->Option (List SK×List (P I B S Pr L))
 | .one t k=>(st.tmps.get t).map fun p=>([k],[p])
 | .agg t ks=>match st.tmps.get t with
  | some (.agg cs)=>some (ks,cs)
  | _=>none
 | .var id ks=>(qnf st.cells id).map fun cs=>(ks,cs)
 | .ml ..=>none
 | .it ..=>none
def qcu (A:Alg I B S Pr L K) (st:St I B S Pr L):List RSlot->Option (List (N I B S L))
 | []=>some []
 | .ml id c::l=>(qpy st.cells id c).bind fun x=>(qcu A st l).map fun r=>.l c x::r
 | .it id::l=>(qrd st.cells id).bind fun x=>(qcu A st l).map fun r=>.s x.1::.i x.2::r
 | s::l=>(qbd st s).bind fun x=>(qkz A st x.1 x.2).bind fun a=>(qcu A st l).map fun r=>a++r
def qae:List SK->List (P I B S Pr L)->List Nat
 | .list _ true _::ks,.list _ _ (some (i,_))::ps=>i::qae ks ps
 | _::ks,_::ps=>qae ks ps
 | _,_=>[]
def kc (st:St I B S Pr L):List RSlot->List Nat
 | []=>[]
 | s::l=>(match qbd st s with
  | some x=>qae x.1 x.2
  | none=>[])++kc st l
def qm6 (A:Alg I B S Pr L K):List SK->List (P I B S Pr L)->St I B S Pr L->(List (P I B S Pr L)->List (N I B S L)->St I B S Pr L->Pr)->Pr
 | [],[],st,g=>g [] [] st
 | k::ks,p::ps,st,g=>match k with
  | .int kd=>A.allI kd fun n=>qm6 A ks ps st fun qs ns st'=>g (.int kd none n::qs) (.i n::ns) st'
  | .bool=>A.allB fun b=>qm6 A ks ps {st with next:=st.next+1} fun qs ns st'=>g (.sb st.next false b (A.braw b).1 (A.braw b).2::qs) (.b b::ns) st'
  | .str=>A.allS fun s=>qm6 A ks ps st fun qs ns st'=>g (.str s::qs) (.s s::ns) st'
  | .list c own nb=>A.allL c fun l=>bif own then qm6 A ks ps {st with owns:=(st.next,bif nb then 1 else 0)::st.owns,next:=st.next+1} fun qs ns st'=>g (.list c l (some (st.next,bif nb then 1 else 0))::qs) (.l c l::ns) st'
    else qm6 A ks ps st fun qs ns st'=>g (.list c l none::qs) (.l c l::ns) st'
  | .keep=>qm6 A ks ps st fun qs ns st'=>g (p::qs) ns st'
 | _,_,_,_=>A.ff "slot"
def qbv (A:Alg I B S Pr L K) (st0:St I B S Pr L):List RSlot->St I B S Pr L->(List (N I B S L)->St I B S Pr L->Pr)->Pr
 | [],st,g=>g [] st
 | .ml id c::l,st,g=>onS (A.ff "slot") (qpy st0.cells id c) fun _=>A.allL c fun x=>qbv A st0 l {st with cells:=qei st.cells id (.ml c x)} fun ms st2=>g (.l c x::ms) st2
 | .it id::l,st,g=>onS (A.ff "slot") (qrd st0.cells id) fun _=>A.allS fun s=>A.allI .i64 fun n=>qbv A st0 l {st with cells:=qei st.cells id (.si s n)} fun ms st2=>g (.s s::.i n::ms) st2
 | s::l,st,g=>match qbd st0 s with
  | none=>A.ff "slot"
  | some x=>qm6 A x.1 x.2 st fun qs ns st1=>match s with
   | .one t _=>match qs with
    | [q]=>qbv A st0 l {st1 with tmps:=st1.tmps.set t q} fun ms st2=>g (ns++ms) st2
    | _=>A.ff "slot"
   | .agg t _=>qbv A st0 l {st1 with tmps:=st1.tmps.set t (.agg qs)} fun ms st2=>g (ns++ms) st2
   | .var id _=>qbv A st0 l {st1 with cells:=qei st1.cells id (.cs none qs)} fun ms st2=>g (ns++ms) st2
   | .ml ..=>A.ff "slot"
   | .it ..=>A.ff "slot"
def q2y:Option Int->Option Int->Bool
 | some a,some b=>decide (a=b)
 | _,_=>false
mutual
def qat (A:Alg I B S Pr L K) (st':St I B S Pr L):P I B S Pr L->P I B S Pr L->Option (List Pr)
 | .int k l a,.int k' l' b=>if k=k' then some (bif q2y l l' then [] else [A.eqI a b]) else none
 | .lit a,.lit b=>if a=b then some [] else none
 | .sb _ _ a _ _,.sb _ _ b _ _=>some [A.eqB a b]
 | .str a,.str b=>some [A.eqS a b]
 | .list c l none,.list c' l' none=>if h:c'=c then some [A.eqL c l (h ▸ l')] else none
 | .list c l (some (i,s)),.list c' l' (some (i',s'))=>bif Nat.beq i i'&&Nat.beq s s'&&qdf st' (.list c' l' (some (i',s'))) then (if h:c'=c then some [A.eqL c l (h ▸ l')] else none) else none
 | .nils,.nils=>some []
 | .mlist i c n,.mlist i' c' n'=>bif Nat.beq i i'&&Nat.beq c c' then some [A.eqI n n'] else none
 | .cell i o l,.cell i' o' l'=>bif Nat.beq i i'&&Nat.beq o o'&&Nat.beq l l' then some [] else none
 | .nilp,.nilp | .nilf,.nilf | .nili,.nili=>some []
 | .yield i,.yield j=>bif Nat.beq i j then some [] else none
 | .map i,.map j=>bif Nat.beq i j then some [] else none
 | .func f a c,.func f' a' c'=>bif Nat.beq f f' then (qmc A st' a a').bind fun x=>(qmc A st' c c').map fun y=>x++y else none
 | _,_=>none
def qmc (A:Alg I B S Pr L K) (st':St I B S Pr L):List (P I B S Pr L)->List (P I B S Pr L)->Option (List Pr)
 | [],[]=>some []
 | a::as,b::bs=>(qat A st' a b).bind fun x=>(qmc A st' as bs).map fun y=>x++y
 | _,_=>none
end
def qea:List RSlot->List Nat
 | []=>[]
 | .var id _::l=>id::qea l
 | .ml id _::l=>id::qea l
 | .it id::l=>id::qea l
 | _::l=>qea l
def qkf (A:Alg I B S Pr L K) (st':St I B S Pr L):List SK->List (P I B S Pr L)->List (P I B S Pr L)->Option (List Pr)
 | [],[],[]=>some []
 | .keep::ks,a::as,b::bs=>(qat A st' a b).bind fun x=>(qkf A st' ks as bs).map fun y=>x++y
 | _::ks,_::as,_::bs=>qkf A st' ks as bs
 | _,_,_=>none
def qdx (A:Alg I B S Pr L K) (st st':St I B S Pr L):List RSlot->Option (List Pr)
 | []=>some []
 | .ml ..::l=>qdx A st st' l
 | .it ..::l=>qdx A st st' l
 | s::l=>(qbd st s).bind fun x=>(qbd st' s).bind fun y=>(qkf A st' x.1 x.2 y.2).bind fun a=>(qdx A st st' l).map fun r=>a++r
def q6d:LMode->LMode->Bool
 | .ready,.ready=>true
 | .busy,.busy=>true
 | _,_=>false
def qip (A:Alg I B S Pr L K) (st':St I B S Pr L) (id:Nat):Cont I B S Pr L->Option (List Pr)
 | .cs t cs=>bif zsi t (qn9 st'.cells id) then (qnf st'.cells id).bind fun ds=>qmc A st' cs ds else none
 | .ml c l=>(qpy st'.cells id c).map fun l'=>[A.eqL c l l']
 | .si s n=>(qrd st'.cells id).map fun x=>[A.eqS s x.1,A.eqI n x.2]
 | .mp c lf va l=>match q2b st'.cells id with
  | some m=>if h:m.c=c then (bif qqb lf m.lf&&(va == m.va) then some [A.eqL c l (h ▸ m.l)] else none) else none
  | none=>none
 | .lp r=>match look st'.cells id with
  | some (.lp r')=>bif q6d r.mode r'.mode then some [] else none
  | _=>none
def qhv (A:Alg I B S Pr L K) (vias:List Nat) (st':St I B S Pr L):List (Nat×Cont I B S Pr L)->Option (List Pr)
 | []=>some []
 | (id,ct)::l=>bif vias.any (fun i=>Nat.beq i id) then qhv A vias st' l else
     (qip A st' id ct).bind fun x=>(qhv A vias st' l).map fun y=>x++y
def qc9 (st:St I B S Pr L) (ds:List Nat) (slots:List RSlot):St I B S Pr L:=
 {st with tmps:=qqt ds st.tmps,owns:=(kc st slots).foldl qa0 st.owns}
def qyu (A:Alg I B S Pr L K) (j:Nat) (seen:List (N I B S L)) (slots:List RSlot) (dec:Option (List (N I B S L))) (st0 hd st:St I B S Pr L):Pr:=
 match qcu A st slots,qdx A st0 st slots,qhv A (qea slots) st st0.cells with
 | some ns,some a,some b=>
  bif distinct (kc st slots)&&(kc st slots).all (fun i=>!(hd.owns.any fun x=>Nat.beq x.1 i))&&hd.owns.all (fun x=>match look st.owns x.1 with
    | some s=>Nat.beq s x.2
    | none=>false) then
   zfi A a (zfi A b (A.and (A.inv j (ns++seen)) (match dec with
    | some m=>A.dec j (ns++seen) (m++seen)
    | none=>A.tt)))
  else A.ff "lists of their own"
 | _,_,_=>A.ff "state"
def zac (A:Alg I B S Pr L K) (j:Nat) (slots sees:List Slot) (ds:List Nat) (st:St I B S Pr L) (body:St I B S Pr L->(Ex->St I B S Pr L->Pr)->Pr) (k:Ex->St I B S Pr L->Pr):Pr:=
 onS (A.ff "slots") (resolve st slots) fun rs=>onS (A.ff "slots") (qcu A st rs) fun ns0=>onS (A.ff "sees") ((resolve st sees).bind (qcu A st)) fun seen=>
  bif distinct (kc st rs) then A.and (A.inv j (ns0++seen)) (qbv A st rs (qc9 st ds rs) fun ns st1=>A.imp (A.inv j (ns++seen))
   (body st1 fun ex st2=>match ex with
     | .normal=>qyu A j seen rs (some ns) st (qc9 st ds rs) st2
     | ex=>k ex st2)) else A.ff "lists of their own"
def q47 {σ:Type} (step:σ->(σ->Pr)->Pr) (bad:Pr):Nat->σ->Pr
 | 0,_=>bad
 | n+1,s=>step s fun s'=>q47 step bad n s'
def inRound (rd:Option Nat) (st:St I B S Pr L):Bool:=
 match rd with
 | none=>true
 | some id=>match look st.cells id with
  | some (.lp _)=>true
  | _=>false
def zm7 (A:Alg I B S Pr L K) (st:St I B S Pr L) (id:Nat) (st1:St I B S Pr L) (k:Ex->St I B S Pr L->Pr):Pr:=
 match look st1.cells id with
 | some (.lp r)=>match r.mode with
  | .ready=>k .normal {st1 with cells:=qa0 st1.cells id,tmps:=st.tmps,n:=st.n}
  | .done none=>k .ret {st1 with cells:=qa0 st1.cells id,tmps:=st.tmps,n:=st.n}
  | .done (some i)=>k (.exit i) {st1 with cells:=qa0 st1.cells id,tmps:=st.tmps,n:=st.n}
  | .busy=>A.ff "loop"
 | _=>A.ff "loop"
def q8q (A:Alg I B S Pr L K) (C:Cfg I B S Pr L) (inl:Inl I B S Pr L) (r:LRec I B S Pr L) (v:P I B S Pr L) (st:St I B S Pr L) (k:Ex->St I B S Pr L->Pr):Pr:=
 match v with
 | .func g first cap=>bif qkb C.E g then
   inl (.func g) (first++[.yield (st.next+1)]++cap) {st with cells:=(st.next+1,.lp r)::st.cells,next:=st.next+2} fun _ st1=>zm7 A st (st.next+1) st1 k
  else A.ff "no body"
 | _=>A.ff "range"
def qbe (A:Alg I B S Pr L K) (C:Cfg I B S Pr L) (inl:Inl I B S Pr L) (rd:Option Nat) (fn:Nat):Nat->Code->St I B S Pr L->(Ex->St I B S Pr L->Pr)->Pr
 | _,.skip,st,k=>k .normal st
 | _,.label _,st,k=>k .normal st
 | _,.exit id,st,k=>k (.exit id) st
 | _,.ret,st,k=>k .ret st
 | p,.seq a b,st,k=>match C.ann fn p with
  | some (.cut j slots sees)=>onS (A.ff "cut") (resolve st slots) fun rs=>onS (A.ff "sees") ((resolve st sees).bind (qcu A st)) fun seen=>
    A.and (qbe A C inl rd fn (2 * p) a st fun ex st1=>match ex with
     | .normal=>qyu A j seen rs none st (qc9 st (qfc a) rs) st1
     | ex=>k ex st1)
    (qbv A st rs (qc9 st (qfc a) rs) fun ns st1=>A.imp (A.inv j (ns++seen)) (qbe A C inl rd fn (2 * p+1) b st1 k))
  | _=>qbe A C inl rd fn (2 * p) a st fun ex st1=>match ex with
   | .normal=>qbe A C inl rd fn (2 * p+1) b st1 k
   | ex=>k ex st1
 | p,.cond c a b,st,k=>match k8 A C st c with
  | some v=>br A st v fun t st1=>bif t then qbe A C inl rd fn (2 * p) a st1 k else qbe A C inl rd fn (2 * p+1) b st1 k
  | none=>A.ff "operand"
 | p,.block id c,st,k=>qbe A C inl rd fn (2 * p) c st fun ex st1=>match ex with
  | .exit id'=>bif Nat.beq id' id then k .normal st1 else k (.exit id') st1
  | ex=>k ex st1
 | p,.scope c,st,k=>qbe A C inl rd fn (2 * p) c st k
 | p,.loop c,st,k=>match C.ann fn p with
  | some (.inv j slots sees)=>zac A j slots sees (qfc c) st (fun s g=>qbe A C inl rd fn (2 * p) c s g) k
  | some (.peel j slots sees)=>qbe A C inl rd fn (2 * p) c st fun ex st1=>match ex with
    | .normal=>zac A j slots sees (qfc c) st1 (fun s g=>qbe A C inl rd fn (2 * p) c s g) k
    | ex=>k ex st1
  | some (.unroll n)=>q47 (fun s g=>qbe A C inl rd fn (2 * p) c s fun ex st1=>match ex with
    | .normal=>g st1
    | ex=>k ex st1) (A.ff "unroll") n st
  | _=>A.ff "loop"
 | _,.region _ ops draw,st,k=>bif draw then qxi A C inl ops (Region.before ops) st.next 0 ops.toList ⟨[],[]⟩ [] st fun st1=>k .normal st1
   else wpOps A C inl ops ops.toList st fun st1=>k .normal st1
 | p,.rangeFunc f params a b,st,k=>bif inRound rd st then onS (A.ff "operand") (k8 A C st f) fun v=>q8q A C inl (⟨st.tmps,st.n,params.toList,a,b,fn,p,.ready⟩) v st k else A.ff "round"
 | _,_,_,_=>A.ff "code"
def qgx (A:Alg I B S Pr L K) (C:Cfg I B S Pr L) (st:St I B S Pr L):List ResultVar->Option (List (P I B S Pr L))
 | []=>some []
 | .tmp t::rs=>(st.tmps.get t).bind fun v=>(qgx A C st rs).map fun vs=>v::vs
 | .cell a t::rs=>(C.E.types t).bind fun ti=>(st.tmps.get a).bind fun p=>(zah st ti p).bind fun v=>(qgx A C st rs).map fun vs=>v::vs
def q8e:List (P I B S Pr L)->P I B S Pr L
 | [v]=>v
 | vs=>.tuple vs
def q85 (A:Alg I B S Pr L K):List (P I B S Pr L)->St I B S Pr L->(List (P I B S Pr L)->St I B S Pr L->Pr)->Pr
 | [],st,k=>k [] st
 | .mlist id c n::ps,st,k=>onS (A.ff "results") (qpy st.cells id c) fun l=>A.and (A.eqI n (A.llen c l))
   (q85 A ps {st with cells:=qa0 st.cells id,owns:=(st.next,0)::st.owns,next:=st.next+1} fun qs st'=>k (.list c l (some (st.next,0))::qs) st')
 | p::ps,st,k=>q85 A ps st fun qs st'=>k (p::qs) st'
def zij (A:Alg I B S Pr L K) (args:List (P I B S Pr L)) (st:St I B S Pr L) (k:P I B S Pr L->St I B S Pr L->Pr):Pr:=
 match args with
 | [.cell id off lim]=>onS (A.ff "String") (qnf st.cells id) fun cs=>bif Nat.ble (off+2) lim&&Nat.ble lim cs.length then (match cs[off+1]? with
  | some .nils=>k (.str (A.slit [])) st
  | some (.list c l (some (i,s)))=>if h:c=0 then (bif qdf st (.list c l (some (i,s)))&&Nat.beq (s % 2) 1 then A.and (A.leI (A.llen c l) (A.ilit 140737488355328)) (k (.str (A.bstr (h ▸ l))) {st with owns:=qa0 st.owns i}) else A.ff "String") else A.ff "String"
  | _=>A.ff "String") else A.ff "String"
 | _=>A.ff "String"
mutual
def P.refs:P I B S Pr L->List Nat
 | .cell id _ _=>[id]
 | .mlist id _ _=>[id]
 | .mptr id _ _ _ _=>[id]
 | .map id=>[id]
 | .yield id=>[id]
 | .func _ a c=>qp6 a++qp6 c
 | .iface _ p=>p.refs
 | .agg l=>qp6 l
 | .tuple l=>qp6 l
 | .plist _ _ l=>qp6 l
 | _=>[]
def qp6:List (P I B S Pr L)->List Nat
 | []=>[]
 | p::ps=>p.refs++qp6 ps
end
def Cont.refs:Cont I B S Pr L->List Nat
 | .cs _ ps=>qp6 ps
 | _=>[]
def q72 (lo:Nat) (cells:List (Nat×Cont I B S Pr L)):Nat->List Nat->List Nat
 | 0,m=>m
 | n+1,m=>q72 lo cells n (m++cells.flatMap fun x=>bif Nat.ble lo x.1&&m.any (Nat.beq x.1) then x.2.refs else [])
def gcC (lo:Nat) (vs:List (P I B S Pr L)) (cells:List (Nat×Cont I B S Pr L)):List (Nat×Cont I B S Pr L):=
 bif cells.all (fun x=>Nat.blt x.1 lo) then cells else
 let m:=q72 lo cells 3 ((qp6 vs++cells.flatMap fun x=>bif Nat.ble lo x.1 then [] else x.2.refs).filter (Nat.ble lo))
 cells.filter fun x=>!Nat.ble lo x.1 || m.any (Nat.beq x.1)
def q27 (A:Alg I B S Pr L K) (C:Cfg I B S Pr L) (inl:Inl I B S Pr L) (f:Nat) (args:List (P I B S Pr L)) (st:St I B S Pr L) (k:P I B S Pr L->St I B S Pr L->Pr):Pr:=
 bif C.ans f then A.ff "answered" else bif C.prim f then zij A args st k else
 match C.E.funcs f with
 | some fi=>match fi.body with
  | some c=>qbe A C inl none f 1 c {st with tmps:=Tree.ofList args,n:=max args.length fi.ntmps} fun ex st1=>
   let out:Pr:=onS (A.ff "results") (qgx A C st1 fi.results) fun vs=>q85 A vs st1 fun vs st2=>k (q8e vs) {st2 with tmps:=st.tmps,n:=st.n,cells:=gcC st.next vs st2.cells}
   match ex with
   | .normal=>out
   | .ret=>out
   | _=>A.ff "way out"
  | none=>match fi.ext,args with
   | 4,[x]=>k x st
   | _,_=>A.ff "no body"
 | none=>A.ff "no function"
def qe0 (n:Nat):List Tmp->List (P I B S Pr L)->Tree (P I B S Pr L)->Option (Tree (P I B S Pr L))
 | [],[],t=>some t
 | p::ps,v::vs,t=>bif Nat.blt p n then qe0 n ps vs (t.set p v) else none
 | _,_,_=>none
def zp9 (A:Alg I B S Pr L K) (id:Nat) (r:LRec I B S Pr L) (st:St I B S Pr L) (ex:Ex) (st2:St I B S Pr L) (k:P I B S Pr L->St I B S Pr L->Pr):Pr:=
 match ex with
 | .normal=>k (.lit true) {st2 with cells:=qei st2.cells id (.lp {r with mode:=.ready}),tmps:=st.tmps,n:=st.n}
 | .ret=>k (.lit false) {st2 with cells:=qei st2.cells id (.lp {r with mode:=.done none}),tmps:=st.tmps,n:=st.n}
 | .exit i=>k (.lit false) {st2 with cells:=qei st2.cells id (.lp {r with mode:=.done (some i)}),tmps:=st.tmps,n:=st.n}
 | _=>A.ff "round"
def q28 (A:Alg I B S Pr L K) (C:Cfg I B S Pr L) (inl:Inl I B S Pr L) (id:Nat) (args:List (P I B S Pr L)) (st:St I B S Pr L) (k:P I B S Pr L->St I B S Pr L->Pr):Pr:=
 match look st.cells id with
 | some (.lp r)=>match r.mode with
  | .ready=>onS (A.ff "round") (qe0 r.n r.params args r.tmps) fun t=>
    qbe A C inl (some id) r.fn (2 * r.pos) r.assign {st with tmps:=t,n:=r.n} fun ex st1=>match ex with
     | .normal=>(match look st1.cells id with
      | some (.lp r1)=>(match r1.mode with
       | .ready=>qbe A C inl (some id) r.fn (2 * r.pos+1) r.body {st1 with cells:=qei st1.cells id (.lp {r with mode:=.busy})} fun ex st2=>(match look st2.cells id with
        | some (.lp _)=>zp9 A id r st ex st2 k
        | _=>A.ff "round")
       | _=>A.ff "round")
      | _=>A.ff "round")
     | _=>A.ff "round"
  | _=>A.ff "round"
 | _=>A.ff "round"
def za4 (A:Alg I B S Pr L K) (C:Cfg I B S Pr L):Nat->Inl I B S Pr L
 | 0=>fun _ _ _ _=>A.ff "too deep"
 | n+1=>fun t args st k=>match t with
  | .func f=>q27 A C (za4 A C n) f args st k
  | .round id=>q28 A C (za4 A C n) id args st k
def meets (A:Alg I B S Pr L K) (st:St I B S Pr L):P I B S Pr L->P I B S Pr L->Option (List Pr)
 | .int k _ a,.int k' _ b=>if k=k' then some [A.eqI a b] else none
 | .lit a,.sb _ _ b _ _=>some [A.eqB (A.blit a) b]
 | .sb _ _ a _ _,.sb _ _ b _ _=>some [A.eqB a b]
 | .str a,.str b=>some [A.eqS a b]
 | p,.list c l own=>bif own.isSome&&!qdf st p then none else (asL A c p).map fun l'=>[A.eqL c l' l]
 | _,_=>none
def qkk (A:Alg I B S Pr L K) (st:St I B S Pr L):List (P I B S Pr L)->List (P I B S Pr L)->Option (List Pr)
 | [],[]=>some []
 | a::as,b::bs=>(meets A st a b).bind fun x=>(qkk A st as bs).map fun y=>x++y
 | _,_=>none
def qij:List (P I B S Pr L)->List (P I B S Pr L)->List Nat
 | .list _ _ (some (i,_))::ps,.list _ _ (some _)::rs=>i::qij ps rs
 | _::ps,_::rs=>qij ps rs
 | _,_=>[]
def qj0:P I B S Pr L->P I B S Pr L->Bool
 | .agg a,.agg b=>Nat.beq a.length b.length
 | .agg _,_=>false
 | .tuple _,_=>false
 | _,.agg _=>false
 | _,.tuple _=>false
 | _,_=>true
def qnr:List (P I B S Pr L)->List (P I B S Pr L)->Bool
 | [],[]=>true
 | p::ps,r::rs=>qj0 p r&&qnr ps rs
 | _,_=>false
def zaw:P I B S Pr L->P I B S Pr L->Bool
 | .tuple a,.tuple b=>qnr a b
 | .tuple _,_=>false
 | _,.tuple _=>false
 | p,r=>qj0 p r
def ends (A:Alg I B S Pr L K) (r p:P I B S Pr L) (st:St I B S Pr L):Pr:=
 bif zaw p r&&distinct (qij p.flat r.flat)&&distinct (qbo r.flat) then (match qkk A st p.flat r.flat with
  | some l=>zfi A l A.tt
  | none=>A.ff "answer") else A.ff "answer's shape"
def qai (A:Alg I B S Pr L K) (C:Cfg I B S Pr L) (depth f:Nat) (args:List (P I B S Pr L)) (r:P I B S Pr L):Pr:=
 let x:=jx args 1
 q27 A C (za4 A C depth) f x.1 {tmps:=.nil,n:=0,cells:=[],owns:=[],next:=x.2,known:=[]} (ends A r)
end Go.E3
/- THE PLAIN ALGEBRA of E3: numbers, bytes, lists as they are; the answer a proposition. -/
namespace Go.E3
open Go Go.E2
abbrev InK (k:IntKind) (x:Int):Prop:=
 match k with
 | .i8=>-128<=x/\x<=127
 | .i16=>-32768<=x/\x<=32767
 | .i32=>-2147483648<=x/\x<=2147483647
 | .i64=>-9223372036854775808<=x/\x<=9223372036854775807
 | .u8=>0<=x/\x<=255
 | .u16=>0<=x/\x<=65535
 | .u32=>0<=x/\x<=4294967295
 | .u64=>0<=x/\x<=18446744073709551615
abbrev I64 (x:Int):Prop:=-9223372036854775808<=x/\x<=9223372036854775807
abbrev U8 (x:Int):Prop:=0<=x/\x<=255
abbrev Wn (i n:Int):Prop:=0<=i/\i<n
abbrev ze (n:Nat):Prop:=n<=1000000000
def ix {α:Type} [Inhabited α] (l:List α) (i:Int):α:=l.getD i.toNat default
def bx (s:List UInt8) (i:Int):Int:=((s.getD i.toNat 0).toNat:Int)
def fr {α:Type} (l:List α) (i:Int):List α:=l.drop i.toNat
def upto {α:Type} (l:List α) (j:Int):List α:=l.take j.toNat
def sub {α:Type} (l:List α) (i j:Int):List α:=(l.take j.toNat).drop i.toNat
abbrev ln {α:Type} (l:List α):Int:=(l.length:Int)
structure Codecs (K:Nat->Type) where
 dflt:(c:Nat)->K c
 u8:K 0=UInt8
 cells:(c:Nat)->K c->List (P Int Bool (List UInt8) Prop (fun c=>List (K c)))
 pack:(c:Nat)->List (P Int Bool (List UInt8) Prop (fun c=>List (K c)))->Option (Prop×K c)
abbrev PV (K:Nat->Type):=P Int Bool (List UInt8) Prop (fun c=>List (K c))
abbrev NV (K:Nat->Type):=N Int Bool (List UInt8) (fun c=>List (K c))
abbrev StV (K:Nat->Type):=St Int Bool (List UInt8) Prop (fun c=>List (K c))
abbrev ZC (K:Nat->Type):=Cfg Int Bool (List UInt8) Prop (fun c=>List (K c))
abbrev ZT (K:Nat->Type):=Cont Int Bool (List UInt8) Prop (fun c=>List (K c))
abbrev ZI (K:Nat->Type):=Inl Int Bool (List UInt8) Prop (fun c=>List (K c))
abbrev zm9 (K:Nat->Type):=Alg Int Bool (List UInt8) Prop (fun c=>List (K c)) K
abbrev Tbl (K:Nat->Type):=Nat->Option (List Sh×(List (NV K)->Option (Prop×PV K)))
def zo2 (op:BinOp) (k:IntKind) (a b:Int):Option (Prop×Int):=
 match op with
 | .add=>some (InK k (a+b),a+b)
 | .sub=>some (InK k (a-b),a-b)
 | .mul=>some (InK k (a * b),a * b)
 | .quo=>some (b≠0/\InK k (a.tdiv b),a.tdiv b)
 | .rem=>some (b≠0,a.tmod b)
 | _=>none
def qsf (op:BinOp) (a b:Int):Option (Bool×Prop×Prop):=
 match op with
 | .eql=>some (decide (a=b),a=b,a≠b)
 | .neq=>some (decide (a≠b),a≠b,a=b)
 | .lss=>some (decide (a<b),a<b,b<=a)
 | .leq=>some (decide (a<=b),a<=b,b<a)
 | .gtr=>some (decide (b<a),b<a,a<=b)
 | .geq=>some (decide (b<=a),b<=a,a<b)
 | _=>none
def qs0 (op:BinOp) (a b:List UInt8):Option (Bool×Prop×Prop):=
 match op with
 | .eql=>some (decide (a=b),a=b,a≠b)
 | .neq=>some (decide (a≠b),a≠b,a=b)
 | .lss=>some (qa9 a b,qa9 a b=true,qa9 a b=false)
 | _=>none
def qk8:List (Bool×Prop×Prop)->Bool×Prop×Prop
 | []=>(true,True,False)
 | [c]=>c
 | c::cs=>let r:=qk8 cs;(c.1&&r.1,c.2.1/\r.2.1,c.2.2∨r.2.2)
def qm7 {α:Type} (l:List α) (lo hi:Option Int):Prop×List α:=
 match lo,hi with
 | none,none=>(True,l)
 | some i,none=>(0<=i/\i<=ln l,fr l i)
 | none,some j=>(0<=j/\j<=ln l,upto l j)
 | some i,some j=>(0<=i/\i<=j/\j<=ln l,sub l i j)
def qie {K:Nat->Type}:List (PV K)->List (PV K)->Bool
 | [],[]=>true
 | .int k _ a::l,.int k' _ b::l'=>decide (k=k')&&(a == b)&&qie l l'
 | .str a::l,.str b::l'=>(a == b)&&qie l l'
 | .lit a::l,.lit b::l'=>(a == b)&&qie l l'
 | .lit a::l,.sb _ _ b _ _::l'=>(a == b)&&qie l l'
 | .sb _ _ a _ _::l,.lit b::l'=>(a == b)&&qie l l'
 | .sb _ _ a _ _::l,.sb _ _ b _ _::l'=>(a == b)&&qie l l'
 | _,_=>false
def zg0 {K:Nat->Type} (X:Codecs K) (c kn:Nat) (x y:K c):Bool:=qie ((X.cells c x).take kn) ((X.cells c y).take kn)
def qq0 {K:Nat->Type} (X:Codecs K) (c kn:Nat) (l:List (K c)) (y:K c):Bool:=l.any fun x=>zg0 X c kn y x
def q41 {K:Nat->Type} (X:Codecs K) (c kn:Nat):List (K c)->K c->K c
 | [],y=>y
 | x::l,y=>bif zg0 X c kn y x then x else q41 X c kn l y
def q2q {K:Nat->Type} (X:Codecs K) (c kn:Nat):List (K c)->K c->List (K c)
 | [],y=>[y]
 | x::l,y=>bif zg0 X c kn y x then y::l else x::q2q X c kn l y
def jq (s:List UInt8) (n:Int):Int:=((Utf8.decode ⟨s.toArray⟩ n.toNat).1:Nat)
def qe9 (s:List UInt8) (n:Int):Int:=n+((Utf8.decode ⟨s.toArray⟩ n.toNat).2:Nat)
def qt {K:Nat->Type} (X:Codecs K) (tbl:Tbl K) (inv:Nat->List (NV K)->Prop) (meas:Nat->List (NV K)->Nat):zm9 K where
 ff _:=False
 tt:=True
 and:=And
 imp p q:=p->q
 ilit n:=n
 iop:=zo2
 icmp:=qsf
 ineg k n:=(InK k (-n),-n)
 iconv k n:=(InK k n,n)
 ibest mx a b:=if mx then (if b > a then b else a) else (if b<a then b else a)
 blit b:=b
 bnot b:=!b
 beq a b:=(a == b,a=b,a≠b)
 braw b:=(b=true,b=false)
 ball:=qk8
 slit s:=s
 scat a b:=(ze (a.length+b.length),a++b)
 scmp:=qs0
 slen s:=ln s
 sget:=bx
 ssub:=qm7
 lof _ l:=l
 llen _ l:=ln l
 lget c l i:=l.getD i.toNat (X.dflt c)
 lsub _ l lo hi:=qm7 l lo hi
 lcat _ l x:=(ze (l.length+x.length),l++x)
 lset _ l i x:=l.set i.toNat x
 lrep _ x n:=List.replicate n.toNat x
 leI a b:=a<=b
 sbytes s:=X.u8 ▸ s
 bstr l:=X.u8 ▸ l
 within:=Wn
 eqI a b:=a=b
 eqB a b:=a=b
 eqS a b:=a=b
 eqL _ a b:=a=b
 allI _ g:=∀ n:Int,g n
 allB g:=∀ b:Bool,g b
 allS g:=∀ s:List UInt8,g s
 allL c g:=∀ l:List (K c),g l
 inv:=inv
 dec j ns ms:=meas j ns<meas j ms
 fn:=tbl
 cells:=X.cells
 pack:=X.pack
 mhas:=qq0 X
 mget:=q41 X
 mput:=q2q X
 srune:=jq
 snext:=qe9
end Go.E3
/- E3: VALUES WITHOUT MEMORY AGAINST E2's: the relation, and what keeps it. -/
namespace Go.E3
open Go Go.E2
variable {K:Nat->Type}
structure LG where
 lt:Tree V
 ln:Nat
 lp:List Tmp
 la:Code
 lb:Code
 ld:Nat
structure Wd where
 g:Nat->Option O
 M:Nat->Prop
 c:Nat->Nat
 nu:Nat->Bool
 n:Nat
 owns:Nat->Option Nat
 eta:Nat->Option Nat
 ce:TypeId->Option Nat
 cl:Nat->Prop
 nx:Nat
 b:Nat
 lp:Nat->Option LG
 fl:Nat
def qs7 (w:Wd) (sz:Nat->Nat) (i c:Nat):V->Prop
 | .nils=>True
 | .slice nm gn off len _ cap=>cap=some len∨(cap=none/\w.eta i=some nm/\∃ cs e floor frz ex,w.g nm=some (.row cs e gn floor frz ex)/\off+len * sz c=cs.length/\frz<=cs.length/\w.ce e=some c)
 | _=>False
def NB:V->Prop
 | .nils=>True
 | .slice _ _ off len _ cap=>cap=none/\off=0/\0<len
 | _=>False
def qjz (w:Wd) (sz:Nat->Nat) (c:Nat) (own:Option (Nat×Nat)) (v:V):Prop:=
 match own with
 | none=>True
 | some (i,s)=>i<w.n/\(∀ cur,w.owns i=some cur->s<=cur)/\(w.owns i=some s->qs7 w sz i c v)/\(s % 2=1->NB v)
inductive Rep (X:Codecs K) (sz:Nat->Nat) (w:Wd):PV K->V->Prop
 | int {k:IntKind} {lit:Option Int} {n:Int} (h:∀ m,lit=some m->m=n):Rep X sz w (.int k lit n) (.int k n)
 | lit {b:Bool}:Rep X sz w (.lit b) (.bool b)
 | sb {id:Nat} {neg b:Bool} {pt pf:Prop} (h1:pt↔b=true) (h2:pf↔b=false) (h3:id≠0->id<w.n/\b=(w.nu id != neg)):Rep X sz w (.sb id neg b pt pf) (.bool b)
 | str {s:List UInt8}:Rep X sz w (.str s) (.str s)
 | nils:Rep X sz w .nils .nils
 | nlist {c:Nat} {own:Option (Nat×Nat)} (h:qjz w sz c own .nils):Rep X sz w (.list c [] own) .nils
 | list {c:Nat} {l:List (K c)} {own:Option (Nat×Nat)} {nm gn off len z:Nat} {cap:Option Nat} {cs:List V} {e:TypeId} {gen floor frz:Nat} {ex:Bool}
   (hg:w.g nm=some (.row cs e gen floor frz ex)) (hf:floor<=gn) (hM:¬ w.M nm) (hlen:len=l.length) (hb:off+len * sz c<=cs.length) (hz:0<sz c/\(z=sz c∨(0<z/\l=[]/\cap=some 0))) (hcap:∀ k,cap=some k->len<=k)
   (hc:∀ i (h:i<l.length) (j:Nat) (p:PV K),(X.cells c (l[i]'h))[j]? = some p->Rep X sz w p (cs.getD (off+i * sz c+j) jb))
   (ho:qjz w sz c own (.slice nm gn off len z cap)):Rep X sz w (.list c l own) (.slice nm gn off len z cap)
 | cell {id off lim:Nat} (h:id<w.n):Rep X sz w (.cell id off lim) (.ptr (w.c id) 0 off lim)
 | eptr {ps:List (PV K)} {off nm gn d lim:Nat} {cs:List V} {e:TypeId} {gen floor frz:Nat} {ex:Bool}
   (hg:w.g nm=some (.row cs e gen floor frz ex)) (hf:floor<=gn) (hM:¬ w.M nm) (h1:d+ps.length<=lim) (h2:lim<=cs.length)
   (hc:∀ (j:Nat) (p:PV K),ps[j]? = some p->Rep X sz w p (cs.getD (d+j) jb)):Rep X sz w (.eptr ps off) (.ptr nm gn (d+off) lim)
 | mlist {id c:Nat} {n:Int} (h:id<w.n) (h0:0<=n) (hz:0<sz c):Rep X sz w (.mlist id c n) (.slice (w.c id) 0 0 n.toNat (sz c) (some n.toNat))
 | mptr {id c:Nat} {i n:Int} {off:Nat} (h:id<w.n) (h0:0<=i) (h1:i<n):Rep X sz w (.mptr id c i n off) (.ptr (w.c id) 0 (i.toNat * sz c+off) (n.toNat * sz c))
 | nilp:Rep X sz w .nilp .nilp
 | map {id:Nat} (h:id<w.n):Rep X sz w (.map id) (.map (w.c id))
 | func {f:Nat} {a c:List (PV K)} {va vc:List V} (ha:a.length=va.length) (hc:c.length=vc.length)
   (h1:∀ (j:Nat) (p:PV K),a[j]? = some p->Rep X sz w p (va.getD j jb)) (h2:∀ (j:Nat) (p:PV K),c[j]? = some p->Rep X sz w p (vc.getD j jb)):Rep X sz w (.func f a c) (.func (.func f) va vc)
 | nilf:Rep X sz w .nilf .nilf
 | yield {id:Nat} (h:id<w.n):Rep X sz w (.yield id) (.func (.yield (w.c id)) [] [])
 | iface {t:TypeId} {p:PV K} {v:V} (h:Rep X sz w p v):Rep X sz w (.iface t p) (.iface t v)
 | nili:Rep X sz w .nili .nili
 | agg {ps:List (PV K)} {vs:List V} (hl:ps.length=vs.length) (h:∀ (j:Nat) (p:PV K),ps[j]? = some p->Rep X sz w p (vs.getD j jb)):Rep X sz w (.agg ps) (.agg vs)
 | tuple {ps:List (PV K)} {vs:List V} (hl:ps.length=vs.length) (h:∀ (j:Nat) (p:PV K),ps[j]? = some p->Rep X sz w p (vs.getD j jb)):Rep X sz w (.tuple ps) (.tuple vs)
 | plist {es n:Nat} {ps:List (PV K)} {nm gn d:Nat} {cs:List V} {e:TypeId} {gen floor frz:Nat} {ex:Bool}
   (hg:w.g nm=some (.row cs e gen floor frz ex)) (hf:floor<=gn) (hM:¬ w.M nm) (h0:0<es) (h1:ps.length=n * es) (h2:d+ps.length<=cs.length)
   (hc:∀ (j:Nat) (p:PV K),ps[j]? = some p->Rep X sz w p (cs.getD (d+j) jb)):Rep X sz w (.plist es n ps) (.slice nm gn d n es (some n))
def qq (X:Codecs K) (sz:Nat->Nat) (w:Wd) (ps:List (PV K)) (vs:List V):Prop:=
 ps.length=vs.length/\∀ (j:Nat) (p:PV K),ps[j]? = some p->Rep X sz w p (vs.getD j jb)
structure LeB (w w':Wd):Prop where
 n:w.n<=w'.n
 mem:∀ nm cs e gen floor frz ex,w.g nm=some (.row cs e gen floor frz ex)->¬ w.M nm->¬ w'.M nm/\∃ cs2 gen' frz' ex',w'.g nm=some (.row (cs++cs2) e gen' floor frz' ex')
 c:∀ id,id<w.n->w'.c id=w.c id
 nu:∀ id,id<w.n->w'.nu id=w.nu id
 o1:∀ i,i<w.n->w.owns i=none->w'.owns i=none
 o2:∀ i s s',i<w.n->w.owns i=some s->w'.owns i=some s'->s<=s'
 o3:∀ i s,i<w.n->w.owns i=some s->w'.owns i=some s->w'.eta i=w.eta i/\∀ nm,w.eta i=some nm->w.g nm≠some .dfr->w'.g nm=w.g nm
 ce:w'.ce=w.ce
 cl:∀ id,id<w.n->(w'.cl id↔w.cl id)
 nx:w.nx<=w'.nx
 b:w'.b=w.b
 Mu:∀ n,n<w.b->w.M n->w'.M n
 lp:∀ id,id<w.n->w'.lp id=w.lp id
structure Le (w w':Wd):Prop extends LeB w w' where
 df:∀ m,w.g m=some .dfr->w'.g m=some .dfr
 fl:w'.fl=w.fl
theorem LeB.refl (w:Wd):LeB w w:=
 ⟨zN _,fun nm cs e gen floor frz ex h hM=>⟨hM,[],gen,frz,ex,by rw [zJ];exact h⟩,fun _ _=>rfl,fun _ _=>rfl,fun _ _ h=>h,
  fun _ _ _ _ h h'=>by rw [h] at h';cases h';exact zN _,fun _ _ _ _ _=>⟨rfl,fun _ _ _=>rfl⟩,rfl,fun _ _=>.rfl,zN _,rfl,fun _ _ h=>h,fun _ _=>rfl⟩
theorem Le.refl (w:Wd):Le w w:=⟨.refl w,fun _ h=>h,rfl⟩
theorem LeB.trans {w w' w'':Wd} (h:LeB w w') (h':LeB w' w''):LeB w w'' where
 n:=zR h.n h'.n
 mem nm cs e gen floor frz ex hg hM:=by
  obtain ⟨hM',cs2,gen',frz',ex',hg'⟩:=h.mem nm cs e gen floor frz ex hg hM
  obtain ⟨hM'',cs3,gen'',frz'',ex'',hg''⟩:=h'.mem nm _ e gen' floor frz' ex' hg' hM'
  exact ⟨hM'',cs2++cs3,gen'',frz'',ex'',by rw [<-List.append_assoc];exact hg''⟩
 c id hi:=(h'.c id (zL hi h.n)).trans (h.c id hi)
 nu id hi:=(h'.nu id (zL hi h.n)).trans (h.nu id hi)
 o1 i hi h0:=h'.o1 i (zL hi h.n) (h.o1 i hi h0)
 o2 i s s' hi h0 h2:=by
  cases h1:w'.owns i with
  | none=>rw [h'.o1 i (zL hi h.n) h1] at h2;cases h2
  | some s1=>exact zR (h.o2 i s s1 hi h0 h1) (h'.o2 i s1 s' (zL hi h.n) h1 h2)
 o3 i s hi h0 h2:=by
  have hi':=zL hi h.n
  cases h1:w'.owns i with
  | none=>rw [h'.o1 i hi' h1] at h2;cases h2
  | some s1=>
   have a:=h.o2 i s s1 hi h0 h1
   have b:=h'.o2 i s1 s hi' h1 h2
   obtain rfl:s1=s:=by omega
   obtain ⟨e1,g1⟩:=h.o3 i s1 hi h0 h1
   obtain ⟨e2,g2⟩:=h'.o3 i s1 hi' h1 h2
   refine ⟨e2.trans e1,fun nm hn hd=>?_⟩
   rw [g2 nm (by rw [e1];exact hn) (by rw [g1 nm hn hd];exact hd),g1 nm hn hd]
 ce:=h'.ce.trans h.ce
 cl id hi:=(h'.cl id (zL hi h.n)).trans (h.cl id hi)
 nx:=zR h.nx h'.nx
 b:=h'.b.trans h.b
 Mu n hn hm:=h'.Mu n (by rw [h.b];exact hn) (h.Mu n hn hm)
 lp id hi:=(h'.lp id (zL hi h.n)).trans (h.lp id hi)
theorem Le.trans {w w' w'':Wd} (h:Le w w') (h':Le w' w''):Le w w'':=⟨h.toLeB.trans h'.toLeB,fun m hm=>h'.df m (h.df m hm),h'.fl.trans h.fl⟩
theorem qjz.qdh {w w':Wd} (h:LeB w w') {sz:Nat->Nat} {c:Nat} {own:Option (Nat×Nat)} {v:V} (ho:qjz w sz c own v):qjz w' sz c own v:=by
 cases own with
 | none=>trivial
 | some x=>
  obtain ⟨i,s⟩:=x
  obtain ⟨h1,h2,h3,h4⟩:=ho
  have hcur:∀ cur,w'.owns i=some cur->s<=cur:=by
   intro cur hc
   cases h0:w.owns i with
   | none=>rw [h.o1 i h1 h0] at hc;cases hc
   | some s0=>exact zR (h2 s0 h0) (h.o2 i s0 cur h1 h0 hc)
  refine ⟨zL h1 h.n,hcur,fun hs=>?_,h4⟩
  cases h0:w.owns i with
  | none=>rw [h.o1 i h1 h0] at hs;cases hs
  | some s0=>
   have a:=h2 s0 h0
   have b:=h.o2 i s0 s h1 h0 hs
   obtain rfl:s0=s:=by omega
   have hv:=h3 h0
   obtain ⟨e1,g1⟩:=h.o3 i s0 h1 h0 hs
   cases v with
   | nils=>trivial
   | slice nm gn off len z cap=>
    simp only [qs7] at hv ⊢
    rcases hv with hv | ⟨hcap,he,cs,e,floor,frz,ex,hg,hr⟩
    .exact .inl hv
    .exact .inr ⟨hcap,by rw [e1];exact he,cs,e,floor,frz,ex,by rw [g1 nm he (by rw [hg];simp)];exact hg,hr.1,hr.2.1,by rw [h.ce];exact hr.2.2⟩
   | _=>exact hv
theorem qcb {α:Type} {l l':List α} {n:Nat} {d:α} (h:n<l.length):(l++l').getD n d=l.getD n d:=by
 simp only [List.getD_eq_getElem?_getD,List.getElem?_append_left h]
theorem qjz.mono {w w':Wd} (h:Le w w') {sz:Nat->Nat} {c:Nat} {own:Option (Nat×Nat)} {v:V} (ho:qjz w sz c own v):qjz w' sz c own v:=ho.qdh h.toLeB
theorem Rep.qdh {X:Codecs K} {sz:Nat->Nat} {w w':Wd} (hx:∀ c x,(X.cells c x).length=sz c) (h:LeB w w') {p:PV K} {v:V} (r:Rep X sz w p v):Rep X sz w' p v:=by
 induction r with
 | int h=>exact .int h
 | lit=>exact .lit
 | sb h1 h2 h3=>exact .sb h1 h2 fun h0=>⟨zL (h3 h0).1 h.n,by rw [h.nu _ (h3 h0).1];exact (h3 h0).2⟩
 | str=>exact .str
 | nils=>exact .nils
 | nlist ho=>exact .nlist (ho.qdh h)
 | @list c l own nm gn off len z cap cs e gen floor frz ex hg hf hM hlen hb hz hcap hc ho ih=>
  obtain ⟨hM',cs2,gen',frz',ex',hg'⟩:=h.mem nm cs e gen floor frz ex hg hM
  refine .list hg' hf hM' hlen (by rw [List.length_append];omega) hz hcap (fun i hi j p hp=>?_) (ho.qdh h)
  have hj:j<sz c:=by
   rw [<-hx c (l[i]'hi)]
   exact (List.getElem?_eq_some_iff.1 hp).1
  have hlt:off+i * sz c+j<cs.length:=by
   have:(i+1) * sz c<=len * sz c:=zU _ (by omega)
   rw [Nat.add_mul,Nat.one_mul] at this
   omega
  rw [qcb hlt]
  exact ih i hi j p hp
 | @cell id off lim hi=>
  rw [<-h.c id hi]
  exact .cell (zL hi h.n)
 | @eptr ps off nm gn d lim cs e gen floor frz ex hg hf hM h1 h2 hc ih=>
  obtain ⟨hM',cs2,gen',frz',ex',hg'⟩:=h.mem nm cs e gen floor frz ex hg hM
  refine .eptr hg' hf hM' h1 (by rw [List.length_append];omega) (fun j p hp=>?_)
  have hj:=(List.getElem?_eq_some_iff.1 hp).1
  rw [qcb (by omega)]
  exact ih j p hp
 | @plist es n ps nm gn d cs e gen floor frz ex hg hf hM h0 h1 h2 hc ih=>
  obtain ⟨hM',cs2,gen',frz',ex',hg'⟩:=h.mem nm cs e gen floor frz ex hg hM
  refine .plist hg' hf hM' h0 h1 (by rw [List.length_append];omega) (fun j p hp=>?_)
  have hj:=(List.getElem?_eq_some_iff.1 hp).1
  rw [qcb (by omega)]
  exact ih j p hp
 | @mlist id c n hi h0 hz=>
  rw [<-h.c id hi]
  exact .mlist (zL hi h.n) h0 hz
 | @mptr id c i n off hi h0 h1=>
  rw [<-h.c id hi]
  exact .mptr (zL hi h.n) h0 h1
 | nilp=>exact .nilp
 | @map id hi=>
  rw [<-h.c id hi]
  exact .map (zL hi h.n)
 | func ha hc h1 h2 ih1 ih2=>exact .func ha hc ih1 ih2
 | nilf=>exact .nilf
 | @yield id hi=>
  rw [<-h.c id hi]
  exact .yield (zL hi h.n)
 | iface _ ih=>exact .iface ih
 | nili=>exact .nili
 | agg hl _ ih=>exact .agg hl ih
 | tuple hl _ ih=>exact .tuple hl ih
theorem Rep.mono {X:Codecs K} {sz:Nat->Nat} {w w':Wd} (hx:∀ c x,(X.cells c x).length=sz c) (h:Le w w') {p:PV K} {v:V} (r:Rep X sz w p v):Rep X sz w' p v:=r.qdh hx h.toLeB
theorem qq.qdh {X:Codecs K} {sz:Nat->Nat} {w w':Wd} (hx:∀ c x,(X.cells c x).length=sz c) (h:LeB w w') {ps:List (PV K)} {vs:List V} (r:qq X sz w ps vs):qq X sz w' ps vs:=
 ⟨r.1,fun j p hp=>(r.2 j p hp).qdh hx h⟩
theorem qq.mono {X:Codecs K} {sz:Nat->Nat} {w w':Wd} (hx:∀ c x,(X.cells c x).length=sz c) (h:Le w w') {ps:List (PV K)} {vs:List V} (r:qq X sz w ps vs):qq X sz w' ps vs:=
 ⟨r.1,fun j p hp=>(r.2 j p hp).mono hx h⟩
section
variable {X:Codecs K} {sz:Nat->Nat} {w:Wd}
theorem Rep.zsp {p:PV K} {v:V} (r:Rep X sz w p v):¬ ZS v:=by
 rintro ⟨nm,g,off,len,cap,hv⟩
 cases r with
 | list hg hf hM hlen hb hz=>
  simp only [V.slice.injEq] at hv
  obtain ⟨hz1,hz2⟩:=hz
  rcases hz2 with hz2 | ⟨hz2,_⟩<;>omega
 | mlist h h0 hz=>
  simp only [V.slice.injEq] at hv
  omega
 | plist hg hf hM h0=>
  simp only [V.slice.injEq] at hv
  omega
 | _=>cases hv
theorem Rep.qwm {p:PV K} {v:V} (r:Rep X sz w p v):isHole v=false:=by
 rw [<-Bool.not_eq_true]
 intro h
 obtain ⟨u,rfl,hz⟩:=qn7.1 h
 cases r with
 | @tuple ps vs hl hr=>
  cases ps with
  | nil=>simp at hl
  | cons q ps=>exact (hr 0 q rfl).zsp hz
theorem qq.qwm {ps:List (PV K)} {vs:List V} (r:qq X sz w ps vs):∀ v ∈ vs,isHole v=false:=by
 intro v hv
 obtain ⟨i,hi,rfl⟩:=List.mem_iff_getElem.1 hv
 have h2:i<ps.length:=by rw [r.1];exact hi
 have:=r.2 i _ (List.getElem?_eq_getElem h2)
 rw [List.getD_eq_getElem?_getD,List.getElem?_eq_getElem hi] at this
 exact this.qwm
theorem qq.nil:qq X sz w [] []:=⟨rfl,fun j p h=>by simp at h⟩
theorem qq.cons {p:PV K} {ps:List (PV K)} {v:V} {vs:List V} (h:Rep X sz w p v) (h':qq X sz w ps vs):qq X sz w (p::ps) (v::vs):=by
 refine ⟨by simp [h'.1],fun j q hq=>?_⟩
 cases j with
 | zero=>simp at hq;subst hq;simpa using h
 | succ j=>simp at hq;simpa using h'.2 j q hq
theorem qq.zv {p:PV K} {ps:List (PV K)} {vs:List V} (h:qq X sz w (p::ps) vs):∃ v vs',vs=v::vs'/\Rep X sz w p v/\qq X sz w ps vs':=by
 cases vs with
 | nil=>have:=h.1;simp at this
 | cons v vs'=>
  refine ⟨v,vs',rfl,?_,?_,fun j q hq=>?_⟩
  .simpa using h.2 0 p rfl
  .have:=h.1;simpa using this
  .simpa using h.2 (j+1) q (by simpa using hq)
theorem qq.kg {vs:List V} (h:qq X sz w [] vs):vs=[]:=by
 have:=h.1
 simp at this
 exact List.eq_nil_of_length_eq_zero this.symm
theorem qq.append {ps qs:List (PV K)} {vs us:List V} (h:qq X sz w ps vs) (h':qq X sz w qs us):qq X sz w (ps++qs) (vs++us):=by
 induction ps generalizing vs with
 | nil=>rw [h.kg];exact h'
 | cons p ps ih=>
  obtain ⟨v,vs',rfl,h1,h2⟩:=h.zv
  exact .cons h1 (ih h2)
theorem qq.take {ps:List (PV K)} {vs:List V} (n:Nat) (h:qq X sz w ps vs):qq X sz w (ps.take n) (vs.take n):=by
 refine ⟨by simp [h.1],fun j p hp=>?_⟩
 rw [List.getElem?_take] at hp
 split at hp
 .rename_i hj
  have:=h.2 j p hp
  rw [List.getD_eq_getElem?_getD] at this ⊢
  rw [List.getElem?_take,zT hj]
  exact this
 .cases hp
theorem qq.drop {ps:List (PV K)} {vs:List V} (n:Nat) (h:qq X sz w ps vs):qq X sz w (ps.drop n) (vs.drop n):=by
 refine ⟨by simp [h.1],fun j p hp=>?_⟩
 rw [List.getElem?_drop] at hp
 have:=h.2 _ p hp
 rw [List.getD_eq_getElem?_getD] at this ⊢
 rw [List.getElem?_drop]
 exact this
theorem qq.get {ps:List (PV K)} {vs:List V} {j:Nat} {p:PV K} (h:qq X sz w ps vs) (hp:ps[j]? = some p):∃ v,vs[j]? = some v/\Rep X sz w p v:=by
 have hj:=(List.getElem?_eq_some_iff.1 hp).1
 have hj':j<vs.length:=by rw [<-h.1];exact hj
 refine ⟨vs[j],List.getElem?_eq_getElem hj',?_⟩
 have:=h.2 j p hp
 rw [List.getD_eq_getElem?_getD,List.getElem?_eq_getElem hj'] at this
 exact this
theorem Rep.qqp {ps:List (PV K)} {vs:List V} (h:qq X sz w ps vs):Rep X sz w (.agg ps) (.agg vs):=.agg h.1 h.2
theorem Rep.tuple' {ps:List (PV K)} {vs:List V} (h:qq X sz w ps vs):Rep X sz w (.tuple ps) (.tuple vs):=.tuple h.1 h.2
theorem Rep.qem {ps:List (PV K)} {v:V} (h:Rep X sz w (.agg ps) v):∃ vs,v=.agg vs/\qq X sz w ps vs:=by
 cases h with
 | agg hl h=>exact ⟨_,rfl,hl,h⟩
theorem Rep.qgf {ps:List (PV K)} {v:V} (h:Rep X sz w (.tuple ps) v):∃ vs,v=.tuple vs/\qq X sz w ps vs:=by
 cases h with
 | tuple hl h=>exact ⟨_,rfl,hl,h⟩
theorem Rep.undef:Rep X sz w qmg jb:=.tuple' .nil
theorem Rep.cellsOf {p:PV K} {v:V} (h:Rep X sz w p v) (hv:(∀ ps,p≠.agg ps)):p.cellsOf=[p]/\v.cells=[v]:=by
 cases h with
 | agg=>exact absurd rfl (hv _)
 | _=>exact ⟨rfl,rfl⟩
theorem Rep.cells {p:PV K} {v:V} (h:Rep X sz w p v):qq X sz w p.cellsOf v.cells:=by
 cases p with
 | agg ps=>
  obtain ⟨vs,rfl,h'⟩:=h.qem
  exact h'
 | _=>
  have:=h.cellsOf (by intro ps hh;cases hh)
  rw [this.1,this.2]
  exact .cons h .nil
theorem Rep.j7 {p:PV K} {v:V} (h:Rep X sz w p v) (ho:qar p=true):v.j7=true:=by
 cases h<;>first | rfl | (simp [qar] at ho)
theorem qq.q5l {ps:List (PV K)} {vs:List V} (h:qq X sz w ps vs) (ho:ps.all qar=true):vs.all V.j7=true:=by
 induction ps generalizing vs with
 | nil=>rw [h.kg];rfl
 | cons p ps ih=>
  obtain ⟨v,vs',rfl,h1,h2⟩:=h.zv
  simp only [List.all_cons,zA] at ho ⊢
  exact ⟨h1.j7 ho.1,ih h2 ho.2⟩
theorem Rep.bool {p:PV K} {b:Bool} (h:Rep X sz w p (.bool b)):p=.lit b∨∃ id neg pt pf,p=.sb id neg b pt pf/\(pt↔b=true)/\(pf↔b=false)/\(id≠0->id<w.n/\b=(w.nu id != neg)):=by
 cases h with
 | lit=>exact .inl rfl
 | sb h1 h2 h3=>exact .inr ⟨_,_,_,_,rfl,h1,h2,h3⟩
end
end Go.E3
/- E3: STATES AGAINST E2's MEMORY: the relation; operands, conditions, cells. -/
namespace Go.E3
open Go Go.E2
variable {K:Nat->Type}
structure CfgOk (X:Codecs K) (sz:Nat->Nat) (C:ZC K):Prop where
 len:∀ c x,(X.cells c x).length=sz c
 pos:∀ e c,C.codec e=some c->0<sz c
 size:∀ e c ti,C.codec e=some c->C.E.types e=some ti->ti.size=sz c
 inj:∀ e e' c,C.codec e=some c->C.codec e'=some c->e=e'
 one:∀ c x,(X.cells c x).all qar=true
 u8:∀ x:K 0,X.cells 0 x=[.int .u8 none (((X.u8 ▸ x:UInt8).toNat:Nat):Int)]
 pack:∀ c cs pre x,X.pack c cs=some (pre,x)->pre->∀ w vs,qq X sz w cs vs->qq X sz w (X.cells c x) vs
def qnv (X:Codecs K):ZT K->List (PV K)
 | .cs _ ps=>ps
 | .ml c l=>l.flatMap (X.cells c)
 | .lp _=>[]
 | .mp ..=>[]
 | .si ..=>[]
def qxq (ct:ZT K) (e:TypeId) (ex:Bool):Prop:=
 match ct with
 | .cs (some t) _=>e=t/\ex=true
 | _=>True
theorem zmm {t:Option TypeId} {ps qs:List (PV K)} {e:TypeId} {ex:Bool} (h:qxq (.cs t ps) e ex):qxq (.cs t qs) e ex:=by
 cases t with
 | none=>trivial
 | some a=>exact h
def qfl (g:LG):LMode->O
 | .ready=>.loop .ready none g.lt g.ln g.lp g.la g.lb g.ld
 | .busy=>.loop .busy none g.lt g.ln g.lp g.la g.lb g.ld
 | .done none=>.loop .done (some .ret) g.lt g.ln g.lp g.la g.lb g.ld
 | .done (some i)=>.loop .done (some (.exit i)) g.lt g.ln g.lp g.la g.lb g.ld
def kq:List Leaf->List V->Prop
 | [],[]=>True
 | .int k::l,.int k' _::vs=>k=k'/\kq l vs
 | .str::l,.str _::vs=>kq l vs
 | .bool::l,.bool _::vs=>kq l vs
 | _,_=>False
def zeq (X:Codecs K) (sz:Nat->Nat) (w:Wd) (c:Nat) (lf:Leaf) (va:Bool) (x:K c) (e:V×V×Nat):Prop:=
 qq X sz w ((X.cells c x).take 1) [e.1]/\kq [lf] [e.1]/\qq X sz w ((X.cells c x).drop 1) e.2.1.cells/\q7c e.2.1=va
def qa8 (X:Codecs K) (sz:Nat->Nat) (w:Wd) (id:Nat) (ct:ZT K) (o:Option O):Prop:=
 match ct with
 | .cs t ps=>∃ vs e ex,o=some (.row vs e 0 0 0 ex)/\qxq (.cs t ps:ZT K) e ex/\qq X sz w (qnv X (.cs t ps)) vs
 | .ml c l=>∃ vs e ex,o=some (.row vs e 0 0 0 ex)/\qxq (.ml c l:ZT K) e ex/\qq X sz w (qnv X (.ml c l)) vs
 | .mp c lf va l=>∃ es clock,o=some (.map es clock)/\es.length=l.length/\∀ (i:Nat) (x:K c) (e:V×V×Nat),l[i]? = some x->es[i]? = some e->zeq X sz w c lf va x e
 | .si s n=>∃ pos:Nat,n=(pos:Int)/\o=some (.siter s pos)
 | .lp r=>∃ g,w.lp id=some g/\o=some (qfl g r.mode)/\r.n=g.ln/\r.params=g.lp/\r.assign=g.la/\r.body=g.lb/\∀ i p,r.tmps.get i=some p->∃ v,g.lt.get i=some v/\Rep X sz w p v
def zaf:ZT K->Bool
 | .cs .. | .ml ..=>true
 | _=>false
theorem qa8.qdh {X:Codecs K} {sz:Nat->Nat} {w w':Wd} (hx:∀ c x,(X.cells c x).length=sz c) (h:LeB w w') {id:Nat} (hi:id<w.n) {ct:ZT K} {o:Option O} (r:qa8 X sz w id ct o):qa8 X sz w' id ct o:=by
 cases ct with
 | cs t ps=>
  obtain ⟨vs,e,ex,h1,h2,h3⟩:=r
  exact ⟨vs,e,ex,h1,h2,h3.qdh hx h⟩
 | ml c l=>
  obtain ⟨vs,e,ex,h1,h2,h3⟩:=r
  exact ⟨vs,e,ex,h1,h2,h3.qdh hx h⟩
 | mp c lf va l=>
  obtain ⟨es,clock,h1,h2,h3⟩:=r
  exact ⟨es,clock,h1,h2,fun i x e a b=>⟨(h3 i x e a b).1.qdh hx h,(h3 i x e a b).2.1,(h3 i x e a b).2.2.1.qdh hx h,(h3 i x e a b).2.2.2⟩⟩
 | si s n=>exact r
 | lp r'=>
  obtain ⟨g,h1,h2,h3,h4,h5,h6,h7⟩:=r
  refine ⟨g,by rw [h.lp id hi];exact h1,h2,h3,h4,h5,h6,fun i p hp=>?_⟩
  obtain ⟨v,a,b⟩:=h7 i p hp
  exact ⟨v,a,b.qdh hx h⟩
theorem qa8.mono {X:Codecs K} {sz:Nat->Nat} {w w':Wd} (hx:∀ c x,(X.cells c x).length=sz c) (h:Le w w') {id:Nat} (hi:id<w.n) {ct:ZT K} {o:Option O} (r:qa8 X sz w id ct o):qa8 X sz w' id ct o:=r.qdh hx h.toLeB hi
theorem qa8.row {X:Codecs K} {sz:Nat->Nat} {w:Wd} {id:Nat} {ct:ZT K} (hc:zaf ct=true) {vs:List V} {e:TypeId} {ex:Bool} (h2:qxq ct e ex) (h3:qq X sz w (qnv X ct) vs):qa8 X sz w id ct (some (.row vs e 0 0 0 ex)):=by
 cases ct with
 | cs t ps=>exact ⟨vs,e,ex,rfl,h2,h3⟩
 | ml c l=>exact ⟨vs,e,ex,rfl,h2,h3⟩
 | lp r=>cases hc
 | mp c lf va l=>cases hc
 | si s n=>cases hc
theorem qa8.some {X:Codecs K} {sz:Nat->Nat} {w:Wd} {id:Nat} {ct:ZT K} {o:Option O} (r:qa8 X sz w id ct o):o≠some .dfr/\o≠none:=by
 cases ct with
 | cs t ps=>
  obtain ⟨vs,e,ex,h1,h2,h3⟩:=r
  rw [h1];exact ⟨by simp,by simp⟩
 | ml c l=>
  obtain ⟨vs,e,ex,h1,h2,h3⟩:=r
  rw [h1];exact ⟨by simp,by simp⟩
 | mp c lf va l=>
  obtain ⟨es,clock,h1,h2,h3⟩:=r
  rw [h1];exact ⟨by simp,by simp⟩
 | si s n=>
  obtain ⟨pos,_,h1⟩:=r
  rw [h1];exact ⟨by simp,by simp⟩
 | lp r'=>
  obtain ⟨g,h1,h2,_⟩:=r
  rw [h2]
  unfold qfl
  split<;>exact ⟨by simp,by simp⟩
def zez (C:ZC K):Prop:=∀ f,C.ans f=false->C.E.spec f=none
def q69 (C:ZC K):Prop:=
 ∀ f,C.prim f=true->∀ (H:Heap) (nm off lim:Nat) (vs:List V) (e:TypeId) (ex:Bool),(∀ n,H.next<=n->H.get n=none)->H.get nm=some (.row vs e 0 0 0 ex)->off+2<=lim->lim<=vs.length->
  (vs[off+1]? = some .nils->qch C.E (.func f) [.ptr nm 0 off lim] H fun v H'=>v=.str []/\H'=H)/\
  ∀ (bn g len:Nat) (cells:List V) (el:TypeId) (floor frz:Nat) (eb:Bool) (l:List UInt8),vs[off+1]? = some (.slice bn g 0 len 1 none)->H.get bn=some (.row cells el g floor frz eb)->cells.length=len->floor<=g->0<len->len<=140737488355328->
   C.codec el=some 0->qb9 cells=some l->(∀ v ∈ cells,isHole v=false)->H.ro<=bn->bn≠nm->qch C.E (.func f) [.ptr nm 0 off lim] H fun v H'=>v=.str l/\H'=H.put bn (.row cells el g floor (max frz len) eb)
def za (C:ZC K):Prop:=zez C/\q69 C
structure RelH (X:Codecs K) (sz:Nat->Nat) (C:ZC K) (base:Heap) (st:StV K) (H:Heap) (w:Wd):Prop where
 wf:∀ n,H.next<=n->H.get n=none
 rob:base.ro<=base.next/\base.qy=C.ng/\∀ gn o,C.gobj gn=some o->base.get gn=some o/\gn<base.next
 g:w.g=H.get
 nx:w.nx=H.next
 b:w.b=base.next
 Mlt:∀ n,w.M n->n<H.next
 n:w.n=st.next
 one:1<=st.next
 keeps:Keeps base H
 cl:∀ id,w.cl id->id<st.next/\w.c id<H.next/\base.next<=w.c id
 cinj:∀ id id',w.cl id->w.cl id'->w.c id=w.c id'->id=id'
 cells:∀ id ct,look st.cells id=some ct->w.cl id/\w.M (w.c id)/\qa8 X sz w id ct (H.get (w.c id))
 owns:∀ i,w.owns i=look st.owns i
 ownn:∀ i s,look st.owns i=some s->i<st.next
 eta:∀ i s nm,look st.owns i=some s->w.eta i=some nm->base.next<=nm/\nm<H.next/\¬ w.M nm
 einj:∀ i j s s' nm,look st.owns i=some s->look st.owns j=some s'->w.eta i=some nm->w.eta j=some nm->i=j
 ce:w.ce=C.codec
 known:∀ id b,look st.known id=some b->id≠0/\id<st.next/\w.nu id=b
 globs:∀ gn ps,C.qy gn=some ps->gn<base.qy/\∃ vs e fl fz ex,base.get gn=some (.row vs e 0 fl fz ex)/\gn<base.next/\Rep X sz w (.eptr ps 0) (.ptr gn 0 0 vs.length)
def q3n (X:Codecs K) (sz:Nat->Nat) (w:Wd) (t:Tree (PV K)) (fr:Fr):Prop:=∀ i p,t.get i=some p->∃ v,fr.tmp i=some v/\Rep X sz w p v
def q3e (b:Nat) (w:Wd) (ds:List Dfr):Prop:=(∀ x ∈ ds,∃ m,x=.mark m/\b<=m/\w.fl<=m/\w.g m=some .dfr)/\ds.Nodup/\w.fl<=w.nx
theorem q3e.mono {b:Nat} {w w':Wd} (h:Le w w') {ds:List Dfr} (hd:q3e b w ds):q3e b w' ds:=by
 refine ⟨fun x hx=>?_,hd.2.1,by rw [h.fl];exact zR hd.2.2 h.nx⟩
 obtain ⟨m,h1,h2,h3,h4⟩:=hd.1 x hx
 exact ⟨m,h1,h2,by rw [h.fl];exact h3,h.df m h4⟩
theorem q3e.nil {b:Nat} {w:Wd} (h:w.fl<=w.nx):q3e b w []:=⟨fun x hx=>(by cases hx),List.nodup_nil,h⟩
structure Rel (X:Codecs K) (sz:Nat->Nat) (C:ZC K) (base:Heap) (st:StV K) (fr:Fr) (H:Heap) (w:Wd):Prop where
 h:RelH X sz C base st H w
 f:q3n X sz w st.tmps fr
 n:fr.n=st.n
 ds:q3e base.next w fr.defers
structure Near (st st':StV K):Prop where
 tmps:st'.tmps=st.tmps
 n:st'.n=st.n
 cells:st'.cells=st.cells
 owns:st'.owns=st.owns
theorem Near.refl (st:StV K):Near st st:=⟨rfl,rfl,rfl,rfl⟩
theorem Near.trans {st st' st'':StV K} (h:Near st st') (h':Near st' st''):Near st st'':=
 ⟨h'.tmps.trans h.tmps,h'.n.trans h.n,h'.cells.trans h.cells,h'.owns.trans h.owns⟩
section
variable {X:Codecs K} {sz:Nat->Nat} {C:ZC K} {base H:Heap} {st:StV K} {fr:Fr} {w:Wd}
theorem zdh {id:Nat} {b:Bool} {l:List (Nat×Bool)} {j:Nat} {b':Bool} (h:look (zfg id b l) j=some b'):(id≠0/\j=id/\b'=b)∨look l j=some b':=by
 unfold zfg at h
 by_cases h0:id=0
 .subst h0;simp only [Nat.beq_refl,zO] at h;exact .inr h
 .have:Nat.beq id 0=false:=by rw [<-Bool.not_eq_true,Nat.beq_eq];exact h0
  rw [this] at h
  simp only [zQ,look] at h
  by_cases hj:id=j
  .subst hj
   simp only [Nat.beq_refl,zO,zS] at h
   exact .inl ⟨h0,rfl,h.symm⟩
  .have:Nat.beq id j=false:=by rw [<-Bool.not_eq_true,Nat.beq_eq];exact hj
   rw [this] at h
   exact .inr h
theorem qe4 {l:List (Nat×ZT K)} {id:Nat} {ps:List (PV K)} (h:qnf l id=some ps):look l id=some (.cs (qn9 l id) ps):=by
 unfold qnf at h
 split at h
 .rename_i t qs e;cases h;rw [qn9,e]
 .cases h
theorem qga {l:List (Nat×ZT K)} {id c:Nat} {x:List (K c)} (h:qpy l id c=some x):look l id=some (.ml c x):=by
 unfold qpy at h
 split at h
 .rename_i c' y e
  split at h
  .rename_i hc
   subst hc
   cases h
   exact e
  .cases h
 .cases h
theorem RelH.ext (ok:CfgOk X sz C) (R:RelH X sz C base st H w) {m:Nat} {nu':Nat->Bool} (hm:st.next<=m) (hnu:∀ id,id<st.next->nu' id=w.nu id) :
  Le w {w with n:=m,nu:=nu'}/\RelH X sz C base {st with next:=m} H {w with n:=m,nu:=nu'}:=by
 have hle:Le w {w with n:=m,nu:=nu'}:=
  ⟨⟨by rw [R.n];exact hm,fun nm cs e gen floor frz ex h hM=>⟨hM,[],gen,frz,ex,by rw [zJ];exact h⟩,fun _ _=>rfl,fun id hi=>hnu id (by rw [<-R.n];exact hi),fun _ _ h=>h,
   fun _ _ _ _ h h'=>by rw [h] at h';cases h';exact zN _,fun _ _ _ _ _=>⟨rfl,fun _ _ _=>rfl⟩,rfl,fun _ _=>.rfl,zN _,rfl,fun _ _ h=>h,fun _ _=>rfl⟩,fun _ h=>h,rfl⟩
 refine ⟨hle,⟨R.wf,R.rob,R.g,R.nx,R.b,R.Mlt,rfl,zR R.one hm,R.keeps,fun id h=>?_,R.cinj,fun id ps h=>?_,R.owns,fun i s h=>zL (R.ownn i s h) hm,R.eta,R.einj,R.ce,fun id b h=>?_,fun gn ps h=>?_⟩⟩
 .obtain ⟨h1,h2,h3⟩:=R.cl id h
  exact ⟨zL h1 hm,h2,h3⟩
 .obtain ⟨h1,h2,h3⟩:=R.cells id ps h
  exact ⟨h1,h2,h3.mono ok.len hle (by rw [R.n];exact (R.cl id h1).1)⟩
 .obtain ⟨h0,h1,h2⟩:=R.known id b h
  exact ⟨h0,zL h1 hm,(hnu id h1).trans h2⟩
 .obtain ⟨h0,vs,e,fl,fz,ex,h1,h2,h3⟩:=R.globs gn ps h
  exact ⟨h0,vs,e,fl,fz,ex,h1,h2,h3.mono ok.len hle⟩
theorem RelH.q78 (R:RelH X sz C base st H w) {id:Nat} {b:Bool} (hi:id≠0->id<st.next/\w.nu id=b):RelH X sz C base {st with known:=zfg id b st.known} H w:=
 ⟨R.wf,R.rob,R.g,R.nx,R.b,R.Mlt,R.n,R.one,R.keeps,R.cl,R.cinj,R.cells,R.owns,R.ownn,R.eta,R.einj,R.ce,fun j b' h=>by
  rcases zdh h with ⟨h0,rfl,rfl⟩ | h
  .exact ⟨h0,hi h0⟩
  .exact R.known j b' h,R.globs⟩
variable {tbl:Tbl K} {inv:Nat->List (NV K)->Prop} {meas:Nat->List (NV K)->Nat}
theorem quj {p:PV K} {b:Bool} {k:Bool->StV K->Prop} (R:RelH X sz C base st H w) (hp:Rep X sz w p (.bool b)) (h:br (qt X tbl inv meas) st p k) :
  ∃ st',k b st'/\Near st st'/\st'.next=st.next/\RelH X sz C base st' H w:=by
 rcases hp.bool with rfl | ⟨id,neg,pt,pf,rfl,h1,h2,h3⟩
 .exact ⟨st,h,.refl st,rfl,R⟩
 .simp only [br] at h
  cases hv:look st.known id with
  | some v=>
   rw [hv] at h
   obtain ⟨h0,hlt,hnu⟩:=R.known _ _ hv
   have hb:=(h3 h0).2
   rw [hnu] at hb
   simp only [<-hb] at h
   exact ⟨st,h,.refl st,rfl,R⟩
  | none=>
   rw [hv] at h
   obtain ⟨ha,hb⟩:=h
   have hn:id≠0->id<st.next:=fun h0=>by have:=(h3 h0).1;rw [R.n] at this;exact this
   cases b with
   | true=>
    refine ⟨_,ha (h1.2 rfl),⟨rfl,rfl,rfl,rfl⟩,rfl,R.q78 fun h0=>⟨hn h0,?_⟩⟩
    have:=(h3 h0).2
    revert this;cases w.nu id<;>cases neg<;>simp
   | false=>
    refine ⟨_,hb (h2.2 rfl),⟨rfl,rfl,rfl,rfl⟩,rfl,R.q78 fun h0=>⟨hn h0,?_⟩⟩
    have:=(h3 h0).2
    revert this;cases w.nu id<;>cases neg<;>simp
theorem zam {v:V} (h:qgc v=true):Rep X sz w (ofV (qt X tbl inv meas) v) v:=by
 unfold qgc at h
 split at h
 .simp only [ofV];exact .int fun m hm=>by cases hm;rfl
 .simp only [ofV];exact .lit
 .simp only [ofV];exact .str
 .simp only [ofV];exact .nilp
 .simp only [ofV];exact .nils
 .simp only [ofV];exact .nilf
 .simp only [ofV];exact .nili
 .simp only [ofV,ofL];exact .func rfl rfl (fun j p h=>by simp at h) (fun j p h=>by simp at h)
 .cases h
theorem zal {l:List V} (h:l.all qgc=true):qq X sz w (ofL (qt X tbl inv meas) l) l:=by
 induction l with
 | nil=>simp only [ofL];exact .nil
 | cons v l ih=>
  simp only [List.all_cons,zA] at h
  simp only [ofL]
  exact .cons (zam h.1) (ih h.2)
theorem q7n {v:V} {p:PV K} (h:qnu (qt X tbl inv meas) v=some p):Rep X sz w p v:=by
 unfold qnu at h
 split at h
 .rename_i cs
  cases hc:cs.all qgc with
  | true=>
   rw [hc] at h
   simp only [zO,zS] at h
   subst h
   simp only [ofV]
   exact .qqp (zal hc)
  | false=>rw [hc] at h;cases h
 .simp only [zS] at h
  subst h
  exact .undef
 .cases hc:qgc v with
  | true=>
   simp only [hc,zO,zS] at h
   subst h
   exact zam hc
  | false=>simp only [hc,zQ] at h;cases h
theorem qel {ti:TI} {ps:List (PV K)} (h:zeroCells (qt X tbl inv meas) ti=some ps):qq X sz w ps ti.zero.cells:=by
 unfold zeroCells at h
 cases hc:ti.zero.cells.all qgc with
 | true=>
  rw [hc] at h
  simp only [zO,zS] at h
  subst h
  exact zal hc
 | false=>rw [hc] at h;cases h
theorem qn (R:Rel X sz C base st fr H w) {x:Operand} {p:PV K} (h:k8 (qt X tbl inv meas) C st x=some p):∃ v,opd fr H x=some v/\Rep X sz w p v:=by
 cases x with
 | tmp t=>exact R.f t p h
 | const c=>
  simp only [k8] at h
  obtain ⟨u,h1,h2⟩:=zI.1 h
  exact ⟨u,h1,q7n h2⟩
 | global gn=>
  simp only [k8] at h
  obtain ⟨ps,h1,h2⟩:=zM.1 h
  subst h2
  obtain ⟨h0,vs,e,fl,fz,ex,hg,hn,hr⟩:=R.h.globs gn ps h1
  refine ⟨_,?_,hr⟩
  have hb:Nat.blt gn H.qy=true:=by rw [Nat.blt_eq,R.h.keeps.qy];exact h0
  simp only [opd,hb,zO,R.h.keeps.old gn hn,hg]
 | func f=>
  simp only [k8,zS] at h
  subst h
  exact ⟨_,rfl,.func rfl rfl (fun j p h=>by simp at h) (fun j p h=>by simp at h)⟩
theorem qcm (R:Rel X sz C base st fr H w):∀ {l:List Operand} {ps:List (PV K)},qe6 (qt X tbl inv meas) C st l=some ps->∃ vs,qbj fr H l=some vs/\qq X sz w ps vs
 | [],ps,h=>by
  simp only [qe6,zS] at h
  subst h
  exact ⟨[],rfl,.nil⟩
 | x::l,ps,h=>by
  simp only [qe6] at h
  obtain ⟨p,h1,h2⟩:=zI.1 h
  obtain ⟨ps',h3,h4⟩:=zM.1 h2
  subst h4
  obtain ⟨v,e1,r1⟩:=qn R h1
  obtain ⟨vs,e2,r2⟩:=qcm R h3
  exact ⟨v::vs,qrj e1 e2,.cons r1 r2⟩
theorem qe7 {fr':Fr} {H':Heap}:∀ {l:List Operand},(∀ x ∈ l,opd fr' H' x=opd fr H x)->qbj fr' H' l=qbj fr H l
 | [],_=>rfl
 | x::l,h=>by
  simp only [qbj,h x zC,qe7 fun y hy=>h y (zG _ hy)]
theorem qsr {ti:TI} {ps:List (PV K)} {vs:List V} {off:Nat} {p:PV K} (r:qq X sz w ps vs) (h:zaq ti ps off=some p):∃ v,qi8 ti vs off=some v/\Rep X sz w p v:=by
 unfold zaq at h
 unfold qi8
 cases ha:ti.isAgg with
 | true=>
  rw [ha] at h
  simp only [zO] at h ⊢
  rw [<-r.1]
  cases hb:Nat.ble (off+ti.size) ps.length with
  | true=>
   rw [hb] at h
   simp only [zO,zS] at h ⊢
   subst h
   exact ⟨_,rfl,.qqp ((r.drop off).take ti.size)⟩
  | false=>rw [hb] at h;cases h
 | false=>
  rw [ha] at h
  simp only [zQ] at h ⊢
  exact r.get h
theorem qhs {ps qs:List (PV K)} {vs us:List V} (r:qq X sz w ps vs) (r':qq X sz w qs us) (off:Nat):qq X sz w (qcf ps off qs) (setCells vs off us):=by
 unfold qcf setCells
 rw [r'.1]
 exact ((r.take off).append r').append (r.drop _)
theorem qix {place:Nat->Option (Nat×Nat)}:∀ {parts:List (Nat×PV K)} {vparts:List (Nat×V)} {ps qs:List (PV K)} {vs:List V},
  parts.map (·.1)=vparts.map (·.1)->qq X sz w (parts.map (·.2)) (vparts.map (·.2))->qq X sz w ps vs->qvu place ps parts=some qs->∃ us,qfw place vs vparts=some us/\qq X sz w qs us
 | [],vparts,ps,qs,vs,h1,h2,r,h=>by
  cases vparts with
  | nil=>
   simp only [qvu,zS] at h
   subst h
   exact ⟨vs,rfl,r⟩
  | cons _ _=>simp at h1
 | (i,p)::parts,vparts,ps,qs,vs,h1,h2,r,h=>by
  cases vparts with
  | nil=>simp at h1
  | cons x vparts=>
   obtain ⟨j,v⟩:=x
   simp only [List.map_cons,List.cons.injEq] at h1
   obtain ⟨rfl,h1⟩:=h1
   simp only [List.map_cons] at h2
   obtain ⟨v',vs',he,r1,r2⟩:=h2.zv
   simp only [List.cons.injEq] at he
   obtain ⟨rfl,rfl⟩:=he
   simp only [qvu] at h
   split at h
   .cases h
   .rename_i off size hpl
    have rc:=r1.cells
    simp only [qfw,hpl]
    rw [<-rc.1,<-r.1]
    cases hb:(Nat.beq p.cellsOf.length size&&Nat.ble (off+size) ps.length) with
    | false=>rw [hb] at h;cases h
    | true=>
     rw [hb] at h
     simp only [zO] at h ⊢
     exact qix h1 r2 (qhs r rc off) h
end
end Go.E3
/- E3: OPERATORS AND COMPARISONS against E2's. -/
namespace Go.E3
open Go Go.E2
variable {K:Nat->Type}
theorem qjy {k:IntKind} {x:Int} (h:InK k x):k.wrap x=x:=by
 cases k<;>simp only [InK] at h<;>simp only [IntKind.wrap,IntKind.bits,IntKind.signed]<;>
 first
  | omega
  | (simp;omega)
  | (rw [Int.bmod_eq_of_le]<;>omega)
def qg2 (c:Bool×Prop×Prop):Prop:=(c.2.1↔c.1=true)/\(c.2.2↔c.1=false)
theorem qn5 {op:BinOp} {a b:Int} {c:Bool×Prop×Prop} (h:qsf op a b=some c):qg2 c:=by
 cases op<;>simp only [qsf,zS,reduceCtorEq] at h<;>subst h<;>constructor<;>simp<;>omega
theorem zad {op:BinOp} {k:IntKind} {a b:Int} {c:Bool×Prop×Prop} (h:qsf op a b=some c):qf7 op k a b=some (.bool c.1):=by
 cases op<;>simp only [qsf,zS,reduceCtorEq] at h<;>subst h<;>simp only [qf7,zS,V.bool.injEq]<;>first | rfl | (rw [Bool.eq_iff_iff];simp)
theorem zo3 {op:BinOp} {k:IntKind} {a b:Int} {r:Prop×Int} (h:zo2 op k a b=some r) (hr:r.1):qf7 op k a b=some (.int k r.2):=by
 cases op<;>simp only [zo2,zS,reduceCtorEq] at h<;>subst h<;>simp only [qf7]
 .rw [qjy hr]
 .rw [qjy hr]
 .rw [qjy hr]
 .rw [zF hr.1,qjy hr.2]
 .rw [zF hr]
theorem qok {op:BinOp} {a b:List UInt8} {c:Bool×Prop×Prop} (h:qs0 op a b=some c):qg2 c:=by
 cases op<;>simp only [qs0,zS,reduceCtorEq] at h<;>subst h<;>constructor<;>simp
theorem zav {op:BinOp} {a b:List UInt8} {c:Bool×Prop×Prop} (h:qs0 op a b=some c):qjk op a b=some (.bool c.1):=by
 cases op<;>simp only [qs0,zS,reduceCtorEq] at h<;>subst h<;>simp only [qjk,zS,V.bool.injEq]
 .rw [Bool.eq_iff_iff];simp
 .rw [Bool.eq_iff_iff];simp
theorem qg2.not {c:Bool×Prop×Prop} (h:qg2 c):qg2 (!c.1,c.2.2,c.2.1):=by
 refine ⟨?_,?_⟩
 .rw [h.2];simp
 .rw [h.1];simp
theorem quc:∀ {l:List (Bool×Prop×Prop)},(∀ c ∈ l,qg2 c)->qg2 (qk8 l)/\(qk8 l).1=l.all (·.1)
 | [],_=>by simp [qk8,qg2]
 | [c],h=>by simp [qk8,h c zC]
 | c::d::l,h=>by
  have hc:=h c zC
  obtain ⟨hr,he⟩:=quc (l:=d::l) fun x hx=>h x (zG _ hx)
  have e:qk8 (c::d::l)=(c.1&&(qk8 (d::l)).1,c.2.1/\(qk8 (d::l)).2.1,c.2.2∨(qk8 (d::l)).2.2):=rfl
  rw [e]
  refine ⟨⟨?_,?_⟩,?_⟩
  .rw [hc.1,hr.1];simp
  .rw [hc.2,hr.2];cases c.1<;>simp
  .rw [List.all_cons,he]
def qgy:V->V->Bool
 | .int _ a,.int _ b=>a == b
 | .str a,.str b=>a == b
 | .bool a,.bool b=>a == b
 | _,_=>false
def qen:List V->List V->Bool
 | [],[]=>true
 | a::as,b::bs=>qgy a b&&qen as bs
 | _,_=>false
section
variable {X:Codecs K} {sz:Nat->Nat} {w:Wd} {tbl:Tbl K} {inv:Nat->List (NV K)->Prop} {meas:Nat->List (NV K)->Nat}
theorem qy7 {x y:PV K} {a b:V} {c:Bool×Prop×Prop} (rx:Rep X sz w x a) (ry:Rep X sz w y b) (h:eqP (qt X tbl inv meas) x y=some c):qg2 c/\c.1=qgy a b/\
  ((∃ k i j,a=.int k i/\b=.int k j)∨(∃ s t,a=.str s/\b=.str t)∨(∃ s t,a=.bool s/\b=.bool t)):=by
 unfold eqP at h
 split at h
 .rename_i k l1 n k' l2 m
  cases rx;cases ry
  split at h
  .rename_i hk
   subst hk
   have h':qsf .eql n m=some c:=h
   refine ⟨qn5 h',?_,.inl ⟨k,n,m,rfl,rfl⟩⟩
   simp only [qsf,zS] at h'
   subst h'
   simp only [qgy]
   rw [Bool.eq_iff_iff];simp
  .cases h
 .rename_i s t
  cases rx;cases ry
  have h':qs0 .eql s t=some c:=h
  refine ⟨qok h',?_,.inr (.inl ⟨s,t,rfl,rfl⟩)⟩
  simp only [qs0,zS] at h'
  subst h'
  simp only [qgy]
  rw [Bool.eq_iff_iff];simp
 all_goals first
  | (cases h;done)
  | (cases rx;cases ry
     have h':=Option.some.inj h
     subst h'
     exact ⟨⟨by simp [qt],by simp [qt]⟩,rfl,.inr (.inr ⟨_,_,rfl,rfl⟩)⟩)
theorem qu6:∀ {xs ys:List (PV K)} {as bs:List V} {cs:List (Bool×Prop×Prop)},qq X sz w xs as->qq X sz w ys bs->q7y (qt X tbl inv meas) xs ys=some cs->
  (∀ c ∈ cs,qg2 c)/\cs.all (·.1)=qen as bs
 | [],[],as,bs,cs,rx,ry,h=>by
  rw [rx.kg,ry.kg]
  simp only [q7y,zS] at h
  subst h
  exact ⟨fun c hc=>(by cases hc),rfl⟩
 | [],y::ys,as,bs,cs,rx,ry,h=>by simp [q7y] at h
 | x::xs,[],as,bs,cs,rx,ry,h=>by simp [q7y] at h
 | x::xs,y::ys,as,bs,cs,rx,ry,h=>by
  obtain ⟨a,as',rfl,rx1,rx2⟩:=rx.zv
  obtain ⟨b,bs',rfl,ry1,ry2⟩:=ry.zv
  simp only [q7y] at h
  obtain ⟨c,h1,h2⟩:=zI.1 h
  obtain ⟨cs',h3,h4⟩:=zM.1 h2
  subst h4
  obtain ⟨t1,e1,_⟩:=qy7 rx1 ry1 h1
  obtain ⟨t2,e2⟩:=qu6 rx2 ry2 h3
  refine ⟨fun d hd=>?_,?_⟩
  .rcases zD.1 hd with rfl | hd
   .exact t1
   .exact t2 d hd
  .simp only [List.all_cons,qen,e1,e2]
theorem qfb:∀ {l:List Leaf} {ps:List (PV K)} {vs:List V},qq X sz w ps vs->tiled l ps=true->kq l vs
 | l,[],vs,r,h=>by
  rw [r.kg]
  cases l with
  | nil=>trivial
  | cons _ _=>simp [tiled] at h
 | l,p::ps,vs,r,h=>by
  obtain ⟨v,vs',rfl,r1,r2⟩:=r.zv
  cases l with
  | nil=>simp [tiled] at h
  | cons k l=>
   cases k<;>cases r1<;>first
    | (simp [tiled] at h;done)
    | (simp only [tiled,zA,decide_eq_true_eq] at h
       simp only [kq]
       first
        | exact ⟨h.1,qfb r2 h.2⟩
        | exact qfb r2 h)
end
theorem qb5:∀ {l:List Leaf} {vs:List V},kq l vs->vs.length=l.length
 | [],[],_=>rfl
 | [],_::_,h=>by simp [kq] at h
 | k::l,[],h=>by simp [kq] at h
 | k::l,v::vs,h=>by
  cases k<;>cases v<;>first
   | (simp [kq] at h;done)
   | (simp only [kq] at h
      simp only [List.length_cons]
      first
       | rw [qb5 h.2]
       | rw [qb5 h])
theorem qek:∀ {l l':List Leaf} {vs:List V},kq (l++l') vs->kq l (vs.take l.length)/\kq l' (vs.drop l.length)
 | [],l',vs,h=>by simpa [kq] using h
 | k::l,l',[],h=>by simp [kq] at h
 | k::l,l',v::vs,h=>by
  rw [List.cons_append] at h
  simp only [List.length_cons,List.take_succ_cons,List.drop_succ_cons]
  cases k<;>cases v<;>first
   | (simp [kq] at h;done)
   | (simp only [kq] at h ⊢
      first
       | exact ⟨⟨h.1,(qek h.2).1⟩,(qek h.2).2⟩
       | exact qek h)
theorem quu {as as' bs bs':List V} (h:as.length=bs.length):qen (as++as') (bs++bs')=(qen as bs&&qen as' bs'):=by
 induction as generalizing bs with
 | nil=>
  cases bs with
  | nil=>simp [qen]
  | cons _ _=>simp at h
 | cons a as ih=>
  cases bs with
  | nil=>simp at h
  | cons b bs=>
   simp only [List.length_cons,Nat.add_right_cancel_iff] at h
   simp only [List.cons_append,qen,ih h,Bool.and_assoc]
mutual
theorem q4j (E:Env):∀ (d:Nat) (t:TypeId) (l:List Leaf),qxc E d t=some l->
  ∀ ti,E.types t=some ti->(ti.isAgg=true->0<l.length/\ti.size=l.length/\∀ as bs,kq l as->kq l bs->eqV E d t (.agg as) (.agg bs)=some (qen as bs))/\
   (ti.isAgg=false->l.length=1/\∀ a b,kq l [a]->kq l [b]->eqV E d t a b=some (qgy a b))
 | 0,_,_,h=>by simp [qxc] at h
 | d+1,t,l,h=>by
  intro ti hti
  simp only [qxc,hti] at h
  split at h
  .rename_i k hu
   cases ha:ti.isAgg with
   | true=>rw [ha] at h;cases h
   | false=>
    rw [ha] at h
    simp only [Bool.not_false,zO,zS] at h
    subst h
    refine ⟨fun h=>(by cases h),fun _=>⟨rfl,fun a b h1 h2=>?_⟩⟩
    cases a<;>simp only [kq] at h1
    cases b<;>simp only [kq] at h2
    obtain ⟨rfl,_⟩:=h1
    obtain ⟨rfl,_⟩:=h2
    simp only [eqV,hti,hu,if_true,qgy]
  .rename_i hu
   cases ha:ti.isAgg with
   | true=>rw [ha] at h;cases h
   | false=>
    rw [ha] at h
    simp only [Bool.not_false,zO,zS] at h
    subst h
    refine ⟨fun h=>(by cases h),fun _=>⟨rfl,fun a b h1 h2=>?_⟩⟩
    cases a<;>simp only [kq] at h1
    cases b<;>simp only [kq] at h2
    simp only [eqV,hti,hu,qgy]
  .rename_i hu
   cases ha:ti.isAgg with
   | true=>rw [ha] at h;cases h
   | false=>
    rw [ha] at h
    simp only [Bool.not_false,zO,zS] at h
    subst h
    refine ⟨fun h=>(by cases h),fun _=>⟨rfl,fun a b h1 h2=>?_⟩⟩
    cases a<;>simp only [kq] at h1
    cases b<;>simp only [kq] at h2
    simp only [eqV,hti,hu,qgy]
  .rename_i fs hu
   cases ho:(E.eqOk t&&ti.isAgg) with
   | false=>rw [ho] at h;cases h
   | true=>
    rw [ho] at h
    simp only [zO] at h
    simp only [zA] at ho
    obtain ⟨l',h1,h2⟩:=zI.1 h
    cases hs:(Nat.beq ti.size l'.length&&Nat.blt 0 l'.length) with
    | false=>rw [hs] at h2;cases h2
    | true=>
     rw [hs] at h2
     simp only [zO,zS] at h2
     subst h2
     rw [zA,Nat.beq_eq,Nat.blt_eq] at hs
     refine ⟨fun _=>⟨hs.2,hs.1,fun as bs ta tb=>?_⟩,fun h=>(by rw [ho.2] at h;cases h)⟩
     simp only [eqV,hti,hu,ho.1,zO]
     have:=q4f E d fs.toList 0 l' h1 as bs (by simpa using ta) (by simpa using tb)
     simpa using this
  .cases h
theorem q4f (E:Env):∀ (d:Nat) (fs:List Field) (off:Nat) (l:List Leaf),q0l E d fs off=some l->
  ∀ as bs:List V,kq l (as.drop off)->kq l (bs.drop off)->eqFields E d fs as bs=some (qen (as.drop off) (bs.drop off))
 | 0,_,_,_,h=>by simp [q0l] at h
 | d+1,[],off,l,h=>by
  intro as bs ta tb
  simp only [q0l,zS] at h
  subst h
  have e1:=List.eq_nil_of_length_eq_zero (qb5 ta)
  have e2:=List.eq_nil_of_length_eq_zero (qb5 tb)
  rw [e1,e2]
  rfl
 | d+1,f::fs,off,l,h=>by
  intro as bs ta tb
  simp only [q0l] at h
  cases ho:Nat.beq f.offset off with
  | false=>rw [ho] at h;cases h
  | true=>
   rw [ho] at h
   simp only [zO] at h
   rw [Nat.beq_eq] at ho
   obtain ⟨a,h1,h2⟩:=zI.1 h
   obtain ⟨r,h3,h4⟩:=zM.1 h2
   subst h4
   obtain ⟨ta1,ta2⟩:=qek ta
   obtain ⟨tb1,tb2⟩:=qek tb
   rw [List.drop_drop] at ta2 tb2
   have la:=qb5 ta
   have lb:=qb5 tb
   rw [List.length_append,List.length_drop] at la lb
   have lta:=qb5 ta1
   have ltb:=qb5 tb1
   rw [List.length_take,List.length_drop] at lta ltb
   have hty:∃ ti,E.types f.type=some ti:=by
    cases d with
    | zero=>simp [qxc] at h1
    | succ d=>
     simp only [qxc] at h1
     split at h1
     .cases h1
     .rename_i ti hti;exact ⟨ti,hti⟩
   obtain ⟨ti,hti⟩:=hty
   have rest:=q4f E d fs (off+a.length) r h3 as bs ta2 tb2
   have esplit:∀ xs:List V,xs.drop off=(xs.drop off).take a.length++xs.drop (off+a.length):=by
    intro xs
    rw [<-List.drop_drop]
    exact (List.take_append_drop _ _).symm
   have hlen:((as.drop off).take a.length).length=((bs.drop off).take a.length).length:=by
    rw [qb5 ta1,qb5 tb1]
   simp only [eqFields,hti]
   rw [esplit as,esplit bs,quu hlen]
   have key:=q4j E d f.type a h1 ti hti
   cases ha:ti.isAgg with
   | true=>
    obtain ⟨hpos,hsz,heq⟩:=key.1 ha
    have b1:Nat.ble (off+ti.size) as.length=true:=by rw [Nat.ble_eq];omega
    have b2:Nat.ble (off+ti.size) bs.length=true:=by rw [Nat.ble_eq];omega
    rw [hsz] at b1 b2
    simp only [qi8,ha,zO,ho,hsz,b1,b2,zB]
    rw [heq _ _ ta1 tb1]
    simp only [zB]
    cases hc:qen ((as.drop off).take a.length) ((bs.drop off).take a.length) with
    | true=>simp only [zO,Bool.true_and,rest]
    | false=>simp only [zQ,Bool.false_and]
   | false=>
    obtain ⟨hl1,heq⟩:=key.2 ha
    have i1:off<as.length:=by omega
    have i2:off<bs.length:=by omega
    have t1:(as.drop off).take a.length=[as[off]]:=by rw [hl1,List.drop_eq_getElem_cons i1];rfl
    have t2:(bs.drop off).take a.length=[bs[off]]:=by rw [hl1,List.drop_eq_getElem_cons i2];rfl
    simp only [qi8,ha,zQ,ho,List.getElem?_eq_getElem i1,List.getElem?_eq_getElem i2,zB]
    rw [t1] at ta1
    rw [t2] at tb1
    rw [t1,t2]
    rw [heq _ _ ta1 tb1]
    simp only [zB,qen,Bool.and_true]
    cases hc:qgy as[off] bs[off] with
    | true=>simp only [zO,Bool.true_and,rest]
    | false=>simp only [zQ,Bool.false_and]
end
end Go.E3
/- E3: OPERATIONS ON VALUES ALONE against E2's. -/
namespace Go.E3
open Go Go.E2
variable {K:Nat->Type}
section
variable {X:Codecs K} {sz:Nat->Nat} {C:ZC K} {base H:Heap} {st:StV K} {fr:Fr} {w:Wd}
variable {tbl:Tbl K} {inv:Nat->List (NV K)->Prop} {meas:Nat->List (NV K)->Nat}
def Res (X:Codecs K) (sz:Nat->Nat) (C:ZC K) (base H:Heap) (st:StV K) (w:Wd) (k:PV K->StV K->Prop) (ev:V->Prop):Prop:=
 ∃ p st' v w',k p st'/\Near st st'/\RelH X sz C base st' H w'/\Le w w'/\Rep X sz w' p v/\ev v
theorem Res.here {k:PV K->StV K->Prop} {ev:V->Prop} {p:PV K} {v:V} (R:RelH X sz C base st H w) (hk:k p st) (r:Rep X sz w p v) (he:ev v):Res X sz C base H st w k ev:=
 ⟨p,st,v,w,hk,.refl st,R,.refl w,r,he⟩
theorem Res.cond (ok:CfgOk X sz C) {k:PV K->StV K->Prop} {ev:V->Prop} {c:Bool×Prop×Prop} (R:RelH X sz C base st H w) (ht:qg2 c) (hk:k (q5d st c).1 (q5d st c).2) (he:ev (.bool c.1)):Res X sz C base H st w k ev:=by
 obtain ⟨hle,R'⟩:=R.ext ok (m:=st.next+1) (nu':=fun id=>if id=st.next then c.1 else w.nu id) (Nat.le_succ _) (fun id hi=>by rw [zF (by omega)])
 refine ⟨_,_,_,_,hk,⟨rfl,rfl,rfl,rfl⟩,R',hle,.sb ht.1 ht.2 fun h0=>⟨Nat.lt_succ_self _,?_⟩,he⟩
 simp
theorem qf4 {neg:Bool} {c:Bool×Prop×Prop} (h:qg2 c):qg2 (qpi (qt X tbl inv meas) neg c)/\(qpi (qt X tbl inv meas) neg c).1=(c.1 != neg):=by
 cases neg with
 | false=>simp only [qpi,zQ];exact ⟨h,by simp⟩
 | true=>simp only [qpi,zO];exact ⟨h.not,by simp [zqy,qt]⟩
def qpd (E:Env) (neg:Bool) (t:TypeId) (a b:V) (r:Bool):Prop:=qaz E (if neg=true then .neq else .eql) t a b=some (.bool (r != neg))
theorem qjn {E:Env} {neg:Bool} {t:TypeId} {a b:V} {r:Bool} (hi:∀ k i k' j,a=.int k i->b≠.int k' j) (hs:∀ x y,a=.str x->b≠.str y) (h:eqV E 1000 t a b=some r):qpd E neg t a b r:=by
 unfold qpd
 cases neg
 .simp only [Bool.false_eq_true,if_false]
  cases a<;>cases b<;>first
   | (exact absurd rfl (hi _ _ _ _ rfl))
   | (exact absurd rfl (hs _ _ rfl))
   | (simp only [qaz,h,zH];simp)
 .simp only [if_true]
  cases a<;>cases b<;>first
   | (exact absurd rfl (hi _ _ _ _ rfl))
   | (exact absurd rfl (hs _ _ rfl))
   | (simp only [qaz,h,zH];simp)
theorem q4g {E:Env} {t:TypeId} {ti:TI} {x y:PV K} {a b:V} {r:Bool} (ht:E.types t=some ti) (rx:Rep X sz w x a) (ry:Rep X sz w y b) (h:zf9 E ti.under x y=some r):(∀ k i k' j,a=.int k i->b≠.int k' j)/\(∀ s s',a=.str s->b≠.str s')/\eqV E 1000 t a b=some r/\¬ (a=.nili/\b=.nili):=by
 unfold zf9 at h
 split at h
 all_goals first
  | (cases h;done)
  | (rename_i hu
     cases rx;cases ry
     simp only [zS] at h
     subst h
     refine ⟨by simp,by simp,?_,by simp⟩
     simp only [eqV,ht,hu]
     done)
  | (rename_i e i o l1 j p l2 hu
     cases rx;cases ry
     obtain ⟨ei,h1,h2⟩:=zI.1 h
     cases hz:(!Nat.beq ei.size 0&&Nat.beq i j) with
     | false=>rw [hz] at h2;cases h2
     | true=>
      rw [hz] at h2
      simp only [zO,zS] at h2
      subst h2
      simp only [zA] at hz
      have hij:i=j:=zE hz.2
      subst hij
      refine ⟨by simp,by simp,?_,by simp⟩
      simp only [eqV,ht,hu,h1,zB,Nat.beq_refl,hz.1,Bool.and_self,zO])
theorem qci (ok:CfgOk X sz C) {k:PV K->StV K->Prop} {ev:V->Prop} {c:Option (Bool×Prop×Prop)} (R:RelH X sz C base st H w) (h:qr7 st False c k) (ht:∀ d,c=some d->qg2 d/\ev (.bool d.1)):Res X sz C base H st w k ev:=by
 cases c with
 | none=>exact absurd h id
 | some d=>exact .cond ok R (ht d rfl).1 h (ht d rfl).2
theorem q5g (ok:CfgOk X sz C) (R:RelH X sz C base st H w) {neg:Bool} {t e:TypeId} {ti:TI} (hti:C.E.types t=some ti) (hu:ti.under=.slice e) {x y:PV K} {a b:V} {k:PV K->StV K->Prop} (rx:Rep X sz w x a) (ry:Rep X sz w y b)
  (h:zhe (qt X tbl inv meas) neg x y st k):Res X sz C base H st w k fun v=>∃ r,qpd C.E neg t a b r/\v=.bool (r != neg)/\¬ (a=.nili/\b=.nili):=by
 unfold zhe at h
 have tl:∀ r:Bool,qg2 (r,r=true,r=false):=fun r=>⟨Iff.rfl,Iff.rfl⟩
 split at h
 .cases rx;cases ry
  refine .here R h .lit ⟨true,qjn (by simp) (by simp) ?_,rfl,by simp⟩
  simp only [eqV,hti,hu]
 .rename_i c l own
  cases ry
  cases rx with
  | nlist ho=>
   have h':=h true (fun _=>rfl)
   refine qci ok R h' fun d hd=>?_
   cases hd
   have ht:=qf4 (X:=X) (tbl:=tbl) (inv:=inv) (meas:=meas) (neg:=neg) (tl true)
   refine ⟨ht.1,true,qjn (by simp) (by simp) ?_,congrArg V.bool ht.2,by simp⟩
   simp only [eqV,hti,hu]
  | list=>
   have h':=h false (fun hf=>Bool.noConfusion hf)
   refine qci ok R h' fun d hd=>?_
   cases hd
   have ht:=qf4 (X:=X) (tbl:=tbl) (inv:=inv) (meas:=meas) (neg:=neg) (tl false)
   refine ⟨ht.1,false,qjn (by simp) (by simp) ?_,congrArg V.bool ht.2,by simp⟩
   simp only [eqV,hti,hu]
 .exact absurd h id
theorem qu7 (ok:CfgOk X sz C) (R:RelH X sz C base st H w) {neg:Bool} {t:TypeId} {x y:PV K} {a b:V} {k:PV K->StV K->Prop} (rx:Rep X sz w x a) (ry:Rep X sz w y b)
  (h:zkx (qt X tbl inv meas) C.E neg t x y st k):Res X sz C base H st w k fun v=>∃ r,qpd C.E neg t a b r/\v=.bool (r != neg)/\¬ (a=.nili/\b=.nili):=by
 unfold zkx at h
 split at h
 .rename_i kd i n kd' j m
  cases rx with | int h1=>cases ry with | int h2=>
  split at h
  .rename_i hk
   subst hk
   have:=h1 i rfl;subst this
   have:=h2 j rfl;subst this
   refine .here R h .lit ⟨i == j,?_,rfl,by simp⟩
   cases neg<;>simp [qpd,qaz,qf7,bne]
  .exact absurd h id
 .rename_i kd l1 i kd' l2 j _
  cases rx with | int h1=>cases ry with | int h2=>
  split at h
  .rename_i hk
   subst hk
   refine qci ok R h fun d hd=>?_
   obtain ⟨c,hc,rfl⟩:=zM.1 hd
   replace hc:qsf .eql i j=some c:=hc
   have ht:=qf4 (X:=X) (tbl:=tbl) (inv:=inv) (meas:=meas) (neg:=neg) (qn5 hc)
   refine ⟨ht.1,c.1,?_,by rw [ht.2],by simp⟩
   have:=zad (k:=kd) hc
   simp only [qf7,zS,V.bool.injEq] at this
   cases neg<;>simp [qpd,qaz,qf7,<-this,bne]
  .exact absurd h id
 .rename_i s s'
  cases rx;cases ry
  refine qci ok R h fun d hd=>?_
  obtain ⟨c,hc,rfl⟩:=zM.1 hd
  replace hc:qs0 .eql s s'=some c:=hc
  have ht:=qf4 (X:=X) (tbl:=tbl) (inv:=inv) (meas:=meas) (neg:=neg) (qok hc)
  refine ⟨ht.1,c.1,?_,by rw [ht.2],by simp⟩
  have:=zav hc
  simp only [qjk,zS,V.bool.injEq] at this
  cases neg<;>simp [qpd,qaz,qjk,<-this]
 .rename_i xs ys
  obtain ⟨vs,rfl,rx'⟩:=rx.qem
  obtain ⟨us,rfl,ry'⟩:=ry.qem
  split at h
  .rename_i ti l hti hl
   cases hb:(ti.isAgg&&(tiled l xs&&tiled l ys)) with
   | false=>rw [hb] at h;exact absurd h id
   | true=>
    rw [hb] at h
    simp only [zO] at h
    simp only [zA] at hb
    refine qci ok R h fun d hd=>?_
    obtain ⟨cs,hc,rfl⟩:=zM.1 hd
    obtain ⟨hT,hall⟩:=qu6 rx' ry' hc
    obtain ⟨hbt,hbe⟩:=quc hT
    have ht:=qf4 (X:=X) (tbl:=tbl) (inv:=inv) (meas:=meas) (neg:=neg) hbt
    refine ⟨ht.1,(qk8 cs).1,?_,?_,by simp⟩
    .refine qjn (by simp) (by simp) ?_
     have:=((q4j C.E 1000 t l hl ti hti).1 hb.1).2.2 vs us (qfb rx' hb.2.1) (qfb ry' hb.2.2)
     rw [this,hbe,hall]
    .exact congrArg V.bool ht.2
  .exact absurd h id
 .rename_i x y _ _ _ _
  split at h
  .exact absurd h id
  .rename_i ti hti
   split at h
   .rename_i hu
    refine qci ok R h fun d hd=>?_
    obtain ⟨c,hc,rfl⟩:=zM.1 hd
    obtain ⟨hT,he,hform⟩:=qy7 rx ry hc
    have ht:=qf4 (X:=X) (tbl:=tbl) (inv:=inv) (meas:=meas) (neg:=neg) hT
    refine ⟨ht.1,c.1,?_,by rw [ht.2],?_⟩
    .rcases hform with ⟨k',i,j,rfl,rfl⟩ | ⟨s,s',rfl,rfl⟩ | ⟨s,s',rfl,rfl⟩
     .cases neg<;>simp [qpd,qaz,qf7,he,qgy,bne]
     .cases neg<;>simp [qpd,qaz,qjk,he,qgy]
     .refine qjn (by simp) (by simp) ?_
      simp only [eqV,hti,hu,he,qgy]
    .rcases hform with ⟨k',i,j,rfl,rfl⟩ | ⟨s,s',rfl,rfl⟩ | ⟨s,s',rfl,rfl⟩<;>simp
   .rename_i e hu
    exact q5g ok R hti hu rx ry h
   .split at h
    .rename_i r hr
     obtain ⟨h1,h2,h3,h4⟩:=q4g hti rx ry hr
     exact .here R h .lit ⟨r,qjn h1 h2 h3,rfl,h4⟩
    .exact absurd h id
theorem q01 (ok:CfgOk X sz C) (R:RelH X sz C base st H w) {op:BinOp} {t:TypeId} {x y:PV K} {a b:V} {k:PV K->StV K->Prop} (hop:op≠.shl/\op≠.shr) (rx:Rep X sz w x a) (ry:Rep X sz w y b)
  (h:q7e (qt X tbl inv meas) op x y st k):Res X sz C base H st w k fun v=>qaz C.E op t a b=some v/\¬ (a=.nili/\b=.nili):=by
 unfold q7e at h
 have hbi:∀ kd i j,qaz C.E op t (.int kd i) (.int kd j)=qf7 op kd i j:=by
  intro kd i j
  cases op<;>simp_all [qaz]
 split at h
 .rename_i kd i n kd' j m
  cases rx with | int h1=>cases ry with | int h2=>
  split at h
  .rename_i hk
   subst hk
   have:=h1 i rfl;subst this
   have:=h2 j rfl;subst this
   split at h
   .rename_i kd2 n he
    exact .here R h (.int fun m hm=>by cases hm;rfl) ⟨by rw [hbi,he];rfl,by simp⟩
   .rename_i r he
    exact .here R h .lit ⟨by rw [hbi,he],by simp⟩
   .exact absurd h id
  .exact absurd h id
 .rename_i kd l1 i kd' l2 j _
  cases rx with | int h1=>cases ry with | int h2=>
  split at h
  .rename_i hk
   subst hk
   split at h
   .rename_i c hc
    refine qci ok R h fun d hd=>?_
    cases hd
    exact ⟨qn5 hc,by rw [hbi,zad hc],by simp⟩
   .split at h
    .rename_i r hr
     exact .here R h.2 (.int fun m hm=>by cases hm) ⟨by rw [hbi,zo3 hr h.1],by simp⟩
    .exact absurd h id
  .exact absurd h id
 .rename_i s s'
  cases rx;cases ry
  have hbs:qaz C.E op t (.str s) (.str s')=qjk op s s':=by
   cases op<;>simp_all [qaz]
  split at h
  .obtain ⟨h1,h2⟩:=h
   refine .here R h2 .str ⟨?_,by simp⟩
   have h1':s.length+s'.length<=1000000000:=h1
   have:Nat.ble (s.length+s'.length) room=true:=by rw [Nat.ble_eq];unfold room;omega
   rw [hbs]
   simp only [qjk,this,zO]
   rfl
  .refine qci ok R h fun d hd=>?_
   exact ⟨qok hd,by rw [hbs,zav hd],by simp⟩
 .exact absurd h id
theorem q8v (R:RelH X sz C base st H w) {t:TypeId} {x y:PV K} {a b:V} {k:PV K->StV K->Prop} (rx:Rep X sz w x a) (ry:Rep X sz w y b)
  (h:zpq (qt X tbl inv meas) x y st k):Res X sz C base H st w k fun v=>qaz C.E .shr t a b=some v/\¬ (a=.nili/\b=.nili):=by
 unfold zpq at h
 split at h
 .rename_i kd l1 n kd2 m l2
  cases rx with | int h1=>cases ry with | int h2=>
  have e1:=h1 _ rfl
  subst e1
  have e2:=h2 m rfl
  subst e2
  split at h
  .rename_i hb
   refine .here R h (.int fun m hm=>by cases hm;rfl) ⟨?_,by simp⟩
   simp only [qaz,qrq,zF (show ¬ m<0 by omega)]
   rfl
  .exact absurd h id
 .rename_i kd l1 n kd2 m l2 _
  cases rx with | int h1=>cases ry with | int h2=>
  have:=h2 m rfl
  subst this
  split at h
  .rename_i hb
   obtain ⟨h0,h3⟩:=h
   obtain ⟨h4,h5⟩:=h3
   have h0':0<=n:=h0
   refine .here R h5 (.int fun m hm=>by cases hm) ⟨?_,by simp⟩
   have e1:¬ m<0:=by omega
   have e2:min m.toNat kd.bits=m.toNat:=by omega
   simp only [qaz,qrq,zF e1,e2]
   have:n.fdiv (2 ^ m.toNat)=n.tdiv (2 ^ m.toNat):=by
    rw [Int.fdiv_eq_ediv_of_nonneg _ (Int.le_of_lt (Int.pow_pos (by decide))),Int.tdiv_eq_ediv_of_nonneg h0']
   rw [this]
   rfl
  .exact absurd h id
 .exact absurd h id
theorem q7f (ok:CfgOk X sz C) (R:RelH X sz C base st H w) {op:BinOp} {t:TypeId} {x y:PV K} {a b:V} {k:PV K->StV K->Prop} (rx:Rep X sz w x a) (ry:Rep X sz w y b)
  (h:znk (qt X tbl inv meas) C op t x y st k):Res X sz C base H st w k fun v=>qaz C.E op t a b=some v/\¬ (a=.nili/\b=.nili):=by
 unfold znk at h
 split at h
 .obtain ⟨p,st',v,w',h1,h2,h3,h4,h5,r,h6,rfl,h7⟩:=qu7 ok R rx ry h
  exact ⟨p,st',_,w',h1,h2,h3,h4,h5,h6,h7⟩
 .obtain ⟨p,st',v,w',h1,h2,h3,h4,h5,r,h6,rfl,h7⟩:=qu7 ok R rx ry h
  exact ⟨p,st',_,w',h1,h2,h3,h4,h5,h6,h7⟩
 .exact absurd h id
 .exact q8v R rx ry h
 .rename_i op' h1 h2 h3 h4
  exact q01 ok R ⟨h3,h4⟩ rx ry h
theorem zeg (R:RelH X sz C base st H w) {op:UnOp} {x:PV K} {a:V} {k:PV K->StV K->Prop} (rx:Rep X sz w x a) (h:unP (qt X tbl inv meas) op x st k):Res X sz C base H st w k fun v=>q6o op a=some v:=by
 unfold unP at h
 split at h
 .rename_i kd l n
  cases rx with | int h1=>
  obtain ⟨h2,h3⟩:=h
  refine .here R h3 (.int fun m hm=>by cases hm) ?_
  have:kd.wrap (0-n) = -n:=by rw [Int.zero_sub];exact qjy h2
  simp only [q6o,this]
  rfl
 .cases rx
  exact .here R h .lit rfl
 .rename_i id neg b pt pf
  cases rx with | sb h1 h2 h3=>
  refine .here R h (.sb (b:=!b) (by rw [h2];simp) (by rw [h1];simp) fun h0=>⟨(h3 h0).1,?_⟩) rfl
  rw [(h3 h0).2]
  cases w.nu id<;>cases neg<;>rfl
 .exact absurd h id
end
end Go.E3
/- E3: OPERATIONS ON VALUES ALONE against E2's, one by one. -/
namespace Go.E3
open Go Go.E2
variable {K:Nat->Type}
section
variable {X:Codecs K} {sz:Nat->Nat} {C:ZC K} {base H:Heap} {st:StV K} {fr:Fr} {w:Wd}
variable {tbl:Tbl K} {inv:Nat->List (NV K)->Prop} {meas:Nat->List (NV K)->Nat}
theorem qb {α:Type} {o:Option α} {k:α->Prop} (h:onS False o k):∃ a,o=some a/\k a:=by
 cases o with
 | none=>exact absurd h id
 | some a=>exact ⟨a,rfl,h⟩
theorem Res.pass {k:PV K->StV K->Prop} {ev ev':V->Prop} (h:Res X sz C base H st w k ev) (he:∀ v,ev v->ev' v):Res X sz C base H st w k ev':=by
 obtain ⟨p,st',v,w',h1,h2,h3,h4,h5,h6⟩:=h
 exact ⟨p,st',v,w',h1,h2,h3,h4,h5,he v h6⟩
def qez (op:Op):Bool:=
 match op with
 | .move _ | .assign _ | .pick .. | .build .. | .nilCheck _ | .binOp .. | .unOp .. | .convert .. | .makeInterface .. | .slice .. | .fieldAddr .. | .field .. | .indexAddr .. | .index .. | .extract ..=>true
 | .makeFunc ..=>true
 | .call c=>match c.callee with
  | .builtin .len | .builtin .max | .builtin .min=>true
  | _=>false
 | _=>false
theorem qpx {i:PV K} {v:V} (h:Rep X sz w i v):∀ k l n,i=.int k l n->v=.int k n:=by
 rintro k l n rfl
 cases h
 rfl
theorem qmz {i:PV K} {n:Nat} {k:Nat->Prop} {v:V} (r:Rep X sz w i v) (h:sel (qt X tbl inv meas) i n k):∃ kd j,v=.int kd (j:Nat)/\j<n/\k j:=by
 unfold sel at h
 split at h
 .rename_i kd j x
  cases r with | int h1=>
  have:=h1 j rfl;subst this
  split at h
  .rename_i hj
   refine ⟨kd,j.toNat,?_,by omega,h⟩
   congr 1
   omega
  .exact absurd h id
 .rename_i kd x
  cases r with | int h1=>
  obtain ⟨hw,h⟩:=h
  have hw':0<=x/\x<(n:Int):=hw
  refine ⟨kd,x.toNat,by congr 1;omega,by omega,?_⟩
  have key:∀ (l:List Nat),(l.foldr (fun (j:Nat) (r:Prop)=>((x=(j:Int))->k j)/\r) True)->∀ j ∈ l,x=(j:Int)->k j:=by
   intro l
   induction l with
   | nil=>intro _ j hj;cases hj
   | cons a l ih=>
    intro hl j hj hx
    rcases zD.1 hj with rfl | hj
    .exact hl.1 hx
    .exact ih hl.2 j hj hx
  exact key (List.range n) h x.toNat (List.mem_range.2 (by omega)) (by omega)
 .exact absurd h id
theorem qc3 {c:Nat} {p:PV K} {l:List (K c)} {v:V} (r:Rep X sz w p v) (h:asL (qt X tbl inv meas) c p=some l):Rep X sz w (.list c l none) v:=by
 unfold asL at h
 split at h
 .cases r
  have h':some []=some l:=h
  cases h'
  exact .nlist trivial
 .rename_i c' l' own
  split at h
  .rename_i hc
   subst hc
   cases h
   cases r with
   | nlist=>exact .nlist trivial
   | list hg hf hM hlen hb hz hcap hc ho=>exact .list hg hf hM hlen hb hz hcap hc trivial
  .cases h
 .cases h
theorem ji {c:Nat} {l:List (K c)} {own:Option (Nat×Nat)} {v:V} (r:Rep X sz w (.list c l own) v):(l=[]/\v=.nils)∨
  ∃ nm gn off z cap cs e gen floor frz ex,v=.slice nm gn off l.length z cap/\w.g nm=some (.row cs e gen floor frz ex)/\floor<=gn/\¬ w.M nm/\off+l.length * sz c<=cs.length/\(0<sz c/\(z=sz c∨(0<z/\l=[]/\cap=some 0)))/\(∀ k,cap=some k->l.length<=k)/\
   (∀ i (h:i<l.length) (j:Nat) (p:PV K),(X.cells c (l[i]'h))[j]? = some p->Rep X sz w p (cs.getD (off+i * sz c+j) jb))/\qjz w sz c own (.slice nm gn off l.length z cap):=by
 cases r with
 | nlist=>exact .inl ⟨rfl,rfl⟩
 | list hg hf hM hlen hb hz hcap hc ho=>
  subst hlen
  exact .inr ⟨_,_,_,_,_,_,_,_,_,_,_,rfl,hg,hf,hM,hb,hz,hcap,hc,ho⟩
theorem qmx {c nm gn off z:Nat} {cap:Option Nat} {l:List (K c)} (hz:0<sz c/\(z=sz c∨(0<z/\l=[]/\cap=some 0))):V.qc0 (sz c) (.slice nm gn off l.length z cap)=.slice nm gn off l.length (sz c) cap:=by
 rcases hz.2 with rfl | ⟨_,_,rfl⟩
 .exact V.qju
 .rfl
theorem qkn (R:Rel X sz C base st fr H w) {x:Option Operand} {n:Option Int} (h:zhz (qt X tbl inv meas) C st x=some n):∃ v,qje fr H x=some v/\(∀ i,n=some i->∃ k,v=some (.int k i))/\(n=none->v=none):=by
 cases x with
 | none=>
  simp only [zhz,zS] at h
  subst h
  exact ⟨none,rfl,(fun i hi=>(by cases hi)),fun _=>rfl⟩
 | some x=>
  simp only [zhz] at h
  split at h
  .rename_i k l m hp
   simp only [zS] at h
   subst h
   obtain ⟨v,hv,r⟩:=qn R hp
   have:=qpx r k l m rfl
   subst this
   exact ⟨_,zdo hv,(fun i hi=>⟨k,(by cases hi;rfl)⟩),fun hn=>(by cases hn)⟩
  .cases h
theorem qak {n:Option Int} {v:Option V} {lo hi d:Nat} (h1:∀ i,n=some i->∃ k,v=some (.int k i)) (h2:n=none->v=none) (hb:∀ i,n=some i->(lo:Int)<=i/\i<=hi):jw lo hi v d=some ((n.map Int.toNat).getD d):=by
 cases n with
 | none=>rw [h2 rfl];rfl
 | some i=>
  obtain ⟨k,rfl⟩:=h1 i rfl
  exact q3w (hb i rfl)
theorem za0 {c:Nat} {l:List (K c)} {v:V} {lo hi:Option Int} {vlo vhi:Option V} (r:Rep X sz w (.list c l none) v)
  (l1:∀ i,lo=some i->∃ k,vlo=some (.int k i)) (l2:lo=none->vlo=none) (h1:∀ i,hi=some i->∃ k,vhi=some (.int k i)) (h2:hi=none->vhi=none) (hs:(qm7 l lo hi).1) :
  ∃ u,qd9 (sz c) v vlo vhi none=some u/\Rep X sz w (.list c (qm7 l lo hi).2 none) u:=by
 have hb:∃ a b:Nat,a<=b/\b<=l.length/\(lo.map Int.toNat).getD 0=a/\(hi.map Int.toNat).getD l.length=b/\(∀ i,lo=some i->0<=i/\i<=(b:Int))/\(∀ i,hi=some i->0<=i/\i<=(l.length:Int))/\(qm7 l lo hi).2=(l.take b).drop a:=by
  cases lo with
  | none=>cases hi with
   | none=>exact ⟨0,l.length,by omega,by omega,rfl,rfl,by simp,by simp,by simp [qm7]⟩
   | some j=>
    have h0:0<=j/\j<=(l.length:Int):=hs
    refine ⟨0,j.toNat,by omega,by omega,rfl,rfl,by simp,?_,by simp [qm7,upto]⟩
    intro i hi
    cases hi
    exact h0
  | some i=>cases hi with
   | none=>
    have h0:0<=i/\i<=(l.length:Int):=hs
    refine ⟨i.toNat,l.length,by omega,by omega,rfl,rfl,?_,by simp,by simp [qm7,Go.E3.fr]⟩
    intro j hj
    cases hj
    omega
   | some j=>
    have h0:0<=i/\i<=j/\j<=(l.length:Int):=hs
    refine ⟨i.toNat,j.toNat,by omega,by omega,rfl,rfl,?_,?_,by simp [qm7,Go.E3.sub]⟩
    .intro m hm
     cases hm
     omega
    .intro m hm
     cases hm
     omega
 obtain ⟨a,b,hab,hbl,ea,eb,hlo,hhi,es⟩:=hb
 rw [es]
 unfold qd9
 rcases ji r with ⟨rfl,rfl⟩ | ⟨nm,gn,off,z,cap,cs,e,gen,floor,frz,ex,rfl,hg,hf,hM,hlen,hz,hcap,hc,ho⟩
 .have hb0:b=0:=by simpa using hbl
  subst hb0
  have ha0:a=0:=by omega
  subst ha0
  have e1:jw 0 0 vhi 0=some 0:=by
   have:=qak (lo:=0) (hi:=0) (d:=0) h1 h2 (fun i hi=>by have:=hhi i hi;simpa using this)
   rw [this]
   simp only [List.length_nil] at eb
   rw [eb]
  have e2:jw 0 0 vlo 0=some 0:=by
   have:=qak (lo:=0) (hi:=0) (d:=0) l1 l2 (fun i hi=>by have:=hlo i hi;simpa using this)
   rw [this,ea]
  refine ⟨.nils,?_,?_⟩
  .have hm:jw 0 0 none 0=some 0:=rfl
   simp only [V.qc0,qgn,hm,zB,e1,e2]
   rfl
  .simp only [List.take_nil,List.drop_nil]
   exact .nlist trivial
 .have hcl:l.length<=cap.getD l.length:=by
   cases cap with
   | none=>exact zN _
   | some k=>exact hcap k rfl
  have e1:jw 0 (cap.getD l.length) vhi l.length=some b:=by
   have:=qak (lo:=0) (hi:=cap.getD l.length) (d:=l.length) h1 h2 (fun i hi=>by have:=hhi i hi;omega)
   rw [this,eb]
  have e2:jw 0 b vlo 0=some a:=by
   have:=qak (lo:=0) (hi:=b) (d:=0) l1 l2 (fun i hi=>by have:=hlo i hi;omega)
   rw [this,ea]
  have hlen':((l.take b).drop a).length=b-a:=by
   rw [List.length_drop,List.length_take]
   omega
  refine ⟨.slice nm gn (off+a * sz c) (b-a) (sz c) (cap.map (· - a)),?_,?_⟩
  .rw [qmx hz]
   simp only [qgn,Nat.beq_refl,Bool.not_true,zQ]
   rw [e1]
   simp only [zB]
   rw [e2]
   rfl
  .refine .list hg hf hM hlen'.symm ?_ ⟨hz.1,.inl rfl⟩ ?_ ?_ trivial
   .have:a * sz c+(b-a) * sz c=b * sz c:=by rw [<-Nat.add_mul];congr 1;omega
    have:b * sz c<=l.length * sz c:=zU _ hbl
    omega
   .intro k hk
    cases cap with
    | none=>cases hk
    | some k0=>
     cases hk
     have:=hcap k0 rfl
     show b-a<=k0-a
     omega
   .intro i hi j p hp
    have hi':a+i<l.length:=by rw [hlen'] at hi;omega
    have he:((l.take b).drop a)[i]'hi=l[a+i]'hi':=by
     rw [List.getElem_drop,List.getElem_take]
    rw [he] at hp
    have:=hc (a+i) hi' j p hp
    have e3:off+a * sz c+i * sz c+j=off+(a+i) * sz c+j:=by rw [Nat.add_mul];omega
    rw [e3]
    exact this
theorem qgq (hx:∀ c x,(X.cells c x).length=sz c) (hg':w.g=H.get) {c:Nat} {l:List (K c)} {own:Option (Nat×Nat)} {v:V} (r:Rep X sz w (.list c l own) v) (hz:0<sz c):∃ cs,kp H (sz c) v=some (l.length,cs)/\qq X sz w (l.flatMap (X.cells c)) cs:=by
 unfold kp
 rcases ji r with ⟨rfl,rfl⟩ | ⟨nm,gn,off,z,cap,cs,e,gen,floor,frz,ex,rfl,hg,hf,hM,hlen,hz',hcap,hc,ho⟩
 .exact ⟨[],rfl,.nil⟩
 .rw [qmx hz']
  rw [hg'] at hg
  have b1:Nat.ble floor gn=true:=by rw [Nat.ble_eq];exact hf
  have b2:Nat.ble (off+l.length * sz c) (off+l.length * sz c)=true:=by rw [Nat.ble_eq];exact zN _
  have b3:Nat.ble (off+l.length * sz c) cs.length=true:=by rw [Nat.ble_eq];exact hlen
  suffices hrep:qq X sz w (l.flatMap (X.cells c)) ((cs.drop off).take (l.length * sz c)) from
   ⟨_,by simp only [qbu,Nat.beq_refl,zO,jk,hg,b1,b2,b3,Bool.and_self,qi7 hrep.qwm,zH],hrep⟩
  .have hfl:(l.flatMap (X.cells c)).length=l.length * sz c:=by
    clear hlen b2 b3 hc hcap r ho hz'
    induction l with
    | nil=>simp
    | cons x l ih=>rw [List.flatMap_cons,List.length_append,hx,ih,List.length_cons,Nat.add_mul];omega
   refine ⟨by rw [hfl,List.length_take,List.length_drop];omega,fun j p hp=>?_⟩
   have hj:=(List.getElem?_eq_some_iff.1 hp).1
   rw [hfl] at hj
   have key:∀ (l':List (K c)) (j:Nat) (p:PV K),(l'.flatMap (X.cells c))[j]? = some p->∃ (h:j / sz c<l'.length),(X.cells c (l'[j / sz c]'h))[j % sz c]? = some p:=by
    intro l'
    induction l' with
    | nil=>intro j p hp;simp at hp
    | cons x l' ih=>
     intro j p hp
     rw [List.flatMap_cons] at hp
     by_cases hlt:j<sz c
     .rw [List.getElem?_append_left (by rw [hx];exact hlt)] at hp
      have hd:j / sz c=0:=Nat.div_eq_of_lt hlt
      refine ⟨by rw [hd];simp,?_⟩
      simp only [hd,List.getElem_cons_zero,Nat.mod_eq_of_lt hlt]
      exact hp
     .rw [List.getElem?_append_right (by rw [hx];omega),hx] at hp
      obtain ⟨h1,h2⟩:=ih _ _ hp
      have hd:j / sz c=(j-sz c) / sz c+1:=by
       rw [<-Nat.sub_add_cancel (Nat.le_of_not_lt hlt),Nat.add_div_right _ hz,Nat.add_sub_cancel]
      have hm:j % sz c=(j-sz c) % sz c:=by
       rw [Nat.mod_eq_sub_mod (Nat.le_of_not_lt hlt)]
      refine ⟨by rw [hd,List.length_cons];omega,?_⟩
      simp only [hd,List.getElem_cons_succ,hm]
      exact h2
   obtain ⟨h1,h2⟩:=key l j p hp
   have:=hc _ h1 _ p h2
   have e1:off+j / sz c * sz c+j % sz c=off+j:=by
    rw [Nat.mul_comm,Nat.add_assoc,Nat.div_add_mod]
   rw [e1] at this
   rw [List.getD_eq_getElem?_getD] at this ⊢
   rw [List.getElem?_take,zT hj,List.getElem?_drop]
   exact this
theorem Rel.zqw (ok:CfgOk X sz C) (R:Rel X sz C base st fr H w) {st':StV K} {w':Wd} (hn:Near st st') (hh:RelH X sz C base st' H w') (hle:Le w w'):Rel X sz C base st' fr H w':=
 ⟨hh,fun i p hp=>by
  rw [hn.tmps] at hp
  obtain ⟨v,h1,h2⟩:=R.f i p hp
  exact ⟨v,h1,h2.mono ok.len hle⟩,by rw [hn.n];exact R.n,R.ds.mono hle⟩
theorem Res.mono {st1:StV K} {w1:Wd} {k:PV K->StV K->Prop} {ev:V->Prop} (hn:Near st st1) (hle:Le w w1) (h:Res X sz C base H st1 w1 k ev):Res X sz C base H st w k ev:=by
 obtain ⟨p,st',v,w',h1,h2,h3,h4,h5,h6⟩:=h
 exact ⟨p,st',v,w',h1,hn.trans h2,h3,hle.trans h4,h5,h6⟩
theorem zip_fst {α β γ:Type}:∀ {l:List α} {a:List β} {b:List γ},a.length=b.length->(l.zip a).map (·.1)=(l.zip b).map (·.1)
 | [],_,_,_=>by simp
 | x::l,[],[],_=>by simp
 | x::l,[],_::_,h=>by simp at h
 | x::l,_::_,[],h=>by simp at h
 | x::l,y::a,z::b,h=>by
  simp only [List.zip_cons_cons,List.map_cons,zip_fst (l:=l) (a:=a) (b:=b) (by simpa using h)]
theorem q29 {α:Type}:∀ {l:List α} {ps:List (PV K)} {vs:List V},qq X sz w ps vs->qq X sz w ((l.zip ps).map (·.2)) ((l.zip vs).map (·.2))
 | [],_,_,_=>by simpa using qq.nil
 | x::l,[],vs,h=>by rw [h.kg];simpa using qq.nil
 | x::l,p::ps,vs,h=>by
  obtain ⟨v,vs',rfl,h1,h2⟩:=h.zv
  simp only [List.zip_cons_cons,List.map_cons]
  exact .cons h1 (q29 h2)
theorem q02 {E:Env} {ti:TI} {parts:List Nat} {ps:List (PV K)} {vs:List V} {k:PV K->StV K->Prop} (R:RelH X sz C base st H w) (r:qq X sz w ps vs) (h:q7i (qt X tbl inv meas) E ti parts ps st k) :
  Res X sz C base H st w k fun v=>(match ti.under with
   | .struct fs=>bif !fs.toList.all (fun f=>(E.types f.type).isSome) then none else ((qfw (fun i=>(fs[i]?).bind fun f=>(E.types f.type).map fun fi=>(f.offset,fi.size)) ti.zero.cells (parts.zip vs)).map V.agg)
   | .array _ e=>(E.types e).bind fun ei=>((qfw (fun i=>some (i * ei.size,ei.size)) ti.zero.cells (parts.zip vs)).map V.agg)
   | _=>none)=some v:=by
 unfold q7i at h
 obtain ⟨z,hz,h⟩:=qb h
 have rz:=qel (X:=X) (sz:=sz) (w:=w) hz
 have m1:∀ {qs:List (PV K)} {us:List V},qq X sz w qs us->(parts.zip qs).map (·.1)=(parts.zip us).map (·.1):=by
  intro qs us hr
  exact zip_fst hr.1
 have m2:qq X sz w ((parts.zip ps).map (·.2)) ((parts.zip vs).map (·.2)):=by
  exact q29 r
 split at h
 .rename_i fs hu
  cases hf:fs.toList.all (fun f=>(E.types f.type).isSome) with
  | false=>rw [hf] at h;exact absurd h id
  | true=>
   rw [hf] at h
   simp only [zO] at h
   obtain ⟨cs,hc,h⟩:=qb h
   obtain ⟨us,hu1,hu2⟩:=qix (m1 r) m2 rz hc
   refine .here R h (.qqp hu2) ?_
   simp only [hu,hf,Bool.not_true,zQ]
   have:qfw (fun i=>(fs[i]?).bind fun f=>(E.types f.type).map fun fi=>(f.offset,fi.size)) ti.zero.cells (parts.zip vs)=some us:=hu1
   rw [this]
   rfl
 .rename_i n e hu
  obtain ⟨ei,he,h⟩:=qb h
  obtain ⟨cs,hc,h⟩:=qb h
  obtain ⟨us,hu1,hu2⟩:=qix (m1 r) m2 rz hc
  refine .here R h (.qqp hu2) ?_
  simp only [hu,he,zB,hu1,zH]
 .exact absurd h id
theorem qmk {α β:Type} (h:α=β) (l:List α):(h ▸ l:List β)=l.map fun x=>(h ▸ x:β):=by
 subst h
 simp
theorem qla (ok:CfgOk X sz C):∀ {l:List (K 0)} {cs:List V},qq X sz w (l.flatMap (X.cells 0)) cs->qb9 cs=some (X.u8 ▸ l:List UInt8)
 | [],cs,r=>by
  rw [r.kg,qmk]
  rfl
 | x::l,cs,r=>by
  rw [List.flatMap_cons,ok.u8,List.singleton_append] at r
  obtain ⟨v,vs,rfl,r1,r2⟩:=r.zv
  cases r1
  have ih:=qla ok r2
  rw [qmk] at ih ⊢
  have hb:(0:Int)<=(((X.u8 ▸ x:UInt8).toNat:Nat):Int)/\(((X.u8 ▸ x:UInt8).toNat:Nat):Int)<256:=by
   have:=(X.u8 ▸ x:UInt8).toNat_lt
   omega
  simp only [qb9,zT hb,ih,zH,List.map_cons,Int.toNat_natCast,UInt8.ofNat_toNat]
theorem q34 (ok:CfgOk X sz C) (R:RelH X sz C base st H w) {si di:TI} {p:PV K} {v:V} {k:PV K->StV K->Prop} (r:Rep X sz w p v) (h:zfr (qt X tbl inv meas) C si di p st k) :
  Res X sz C base H st w k fun u=>((∃ k0 kd j n,si.under=.int k0/\di.under=.int kd/\v=.int j n/\u=.int kd (kd.wrap n))∨(∃ s,si.under=.string/\di.under=.string/\v=.str s/\u=.str s)∨
   (∃ e ei n cs l,si.under=.slice e/\di.under=.string/\(∀ s,v≠.str s)/\C.E.types e=some ei/\ei.under=.int .u8/\kp H 1 v=some (n,cs)/\qb9 cs=some l/\u=.str l)∨
   (∃ e ei nm off lim vs el ex,si.under=.pointer e/\di.under=.unsafePointer/\C.E.types e=some ei/\(Nat.blt 0 ei.size&&Nat.ble (off+1) lim)=true/\v=.ptr nm 0 off lim/\H.get nm=some (.row vs el 0 0 0 ex)/\u=.ptr nm 0 off lim)∨
   (∃ e ei li nm off lim vs el,si.under=.unsafePointer/\di.under=.pointer e/\C.E.types e=some ei/\C.E.types el=some li/\(Nat.blt 0 ei.size&&C.E.lies el (vs.length / li.size) off e)=true/\v=.ptr nm 0 off lim/\H.get nm=some (.row vs el 0 0 0 true)/\u=.ptr nm 0 off lim)):=by
 unfold zfr at h
 split at h
 .rename_i k0 kd j n x h1 h2
  cases r with | int h3=>
  have:=h3 n rfl;subst this
  exact .here R h (.int fun m hm=>by cases hm;rfl) (.inl ⟨k0,kd,j,n,h1,h2,rfl,rfl⟩)
 .rename_i k0 kd j n h1 h2
  cases r with | int h3=>
  refine .here R h.2 (.int fun m hm=>by cases hm) (.inl ⟨k0,kd,j,n,h1,h2,rfl,?_⟩)
  rw [qjy h.1]
  rfl
 .rename_i s h1 h2
  cases r
  exact .here R h .str (.inr (.inl ⟨s,h1,h2,rfl,rfl⟩))
 .rename_i e h1 h2
  obtain ⟨c,hc,h⟩:=qb h
  cases hc0:Nat.beq c 0 with
  | false=>rw [hc0] at h;exact absurd h id
  | true=>
   rw [hc0] at h
   simp only [zO] at h
   have:=zE hc0;subst this
   obtain ⟨l,hl,h⟩:=qb h
   obtain ⟨ei,hei,h⟩:=qb h
   split at h
   .rename_i hu
    have rl:=qc3 r hl
    have hz:=ok.pos e 0 hc
    obtain ⟨cs,e1,e2⟩:=qgq ok.len R.g rl hz
    have hs:sz 0=1:=by rw [<-ok.len 0 (X.dflt 0),ok.u8];rfl
    rw [hs] at e1
    refine .here R h .str (.inr (.inr (.inl ⟨e,ei,_,cs,_,h1,h2,?_,hei,hu,e1,qla ok e2,rfl⟩)))
    intro s hs'
    subst hs'
    cases rl
   .exact absurd h id
 .rename_i e id off lim h1 h2
  obtain ⟨ei,hei,h⟩:=qb h
  obtain ⟨ps,hps,h⟩:=qb h
  cases hb:(Nat.blt 0 ei.size&&Nat.ble (off+1) lim) with
  | false=>rw [hb] at h;exact h.elim
  | true=>
   rw [hb] at h
   simp only [zO] at h
   cases r with
   | cell hi=>
    obtain ⟨_,_,vs,el,ex,hg,_⟩:=R.cells _ _ (qe4 hps)
    exact .here R h (.cell hi) (.inr (.inr (.inr (.inl ⟨e,ei,_,off,lim,vs,el,ex,h1,h2,hei,hb,rfl,hg,rfl⟩))))
 .rename_i e id off lim h1 h2
  obtain ⟨ei,hei,g1⟩:=qb h
  obtain ⟨t,ht,g2⟩:=qb g1
  obtain ⟨ps,hps,g3⟩:=qb g2
  obtain ⟨li,hli,g4⟩:=qb g3
  clear h g1 g2 g3
  cases hb:(Nat.blt 0 ei.size&&C.E.lies t (ps.length / li.size) off e) with
  | false=>rw [hb] at g4;exact g4.elim
  | true=>
   rw [hb] at g4
   simp only [zO] at g4
   cases r with
   | cell hi=>
    obtain ⟨_,_,vs,el,ex,hg,hty,hr⟩:=R.cells _ _ (qe4 hps)
    rw [ht] at hty
    obtain ⟨rfl,rfl⟩:=hty
    have hlen:ps.length=vs.length:=hr.1
    rw [hlen] at hb
    exact .here R g4 (.cell hi) (.inr (.inr (.inr (.inr ⟨e,ei,li,_,off,lim,vs,_,h1,h2,hei,hli,hb,rfl,hg,rfl⟩))))
 .exact absurd h id
end
end Go.E3
/- E3: OPERATIONS ON VALUES ALONE against E2's: the theorem. -/
namespace Go.E3
open Go Go.E2
variable {K:Nat->Type}
section
variable {X:Codecs K} {sz:Nat->Nat} {C:ZC K} {base H:Heap} {st:StV K} {fr:Fr} {w:Wd}
variable {tbl:Tbl K} {inv:Nat->List (NV K)->Prop} {meas:Nat->List (NV K)->Nat}
theorem q9k {p:PV K} {v:V} {k:Bool->StV K->Prop} (r:Rep X sz w p v) (h:br (qt X tbl inv meas) st p k):∃ b,v=.bool b:=by
 cases r with
 | lit=>exact ⟨_,rfl⟩
 | sb=>exact ⟨_,rfl⟩
 | _=>exact absurd h id
theorem zmj {s:List UInt8} {lo hi:Option Int} {vlo vhi:Option V}
  (l1:∀ i,lo=some i->∃ k,vlo=some (.int k i)) (l2:lo=none->vlo=none) (h1:∀ i,hi=some i->∃ k,vhi=some (.int k i)) (h2:hi=none->vhi=none) (hs:(qm7 s lo hi).1) :
  qd9 1 (.str s) vlo vhi none=some (.str (qm7 s lo hi).2):=by
 have hb:∃ a b:Nat,a<=b/\b<=s.length/\(lo.map Int.toNat).getD 0=a/\(hi.map Int.toNat).getD s.length=b/\(∀ i,lo=some i->0<=i/\i<=(b:Int))/\(∀ i,hi=some i->0<=i/\i<=(s.length:Int))/\(qm7 s lo hi).2=(s.take b).drop a:=by
  cases lo with
  | none=>cases hi with
   | none=>exact ⟨0,s.length,by omega,by omega,rfl,rfl,by simp,by simp,by simp [qm7]⟩
   | some j=>
    have h0:0<=j/\j<=(s.length:Int):=hs
    refine ⟨0,j.toNat,by omega,by omega,rfl,rfl,by simp,?_,by simp [qm7,upto]⟩
    intro i hi
    cases hi
    exact h0
  | some i=>cases hi with
   | none=>
    have h0:0<=i/\i<=(s.length:Int):=hs
    refine ⟨i.toNat,s.length,by omega,by omega,rfl,rfl,?_,by simp,by simp [qm7,Go.E3.fr]⟩
    intro j hj
    cases hj
    omega
   | some j=>
    have h0:0<=i/\i<=j/\j<=(s.length:Int):=hs
    refine ⟨i.toNat,j.toNat,by omega,by omega,rfl,rfl,?_,?_,by simp [qm7,Go.E3.sub]⟩
    .intro m hm
     cases hm
     omega
    .intro m hm
     cases hm
     omega
 obtain ⟨a,b,hab,hbl,ea,eb,hlo,hhi,es⟩:=hb
 rw [es]
 have e1:jw 0 s.length vhi s.length=some b:=by
  have:=qak (lo:=0) (hi:=s.length) (d:=s.length) h1 h2 (fun i hi=>by have:=hhi i hi;omega)
  rw [this,eb]
 have e2:jw 0 b vlo 0=some a:=by
  have:=qak (lo:=0) (hi:=b) (d:=0) l1 l2 (fun i hi=>by have:=hlo i hi;omega)
  rw [this,ea]
 simp only [qd9,V.qc0,qgn,e1,e2,zB,zH]
theorem qz0 {fr':Fr} {H':Heap} {x:Option Operand} (h:∀ y,x=some y->opd fr' H' y=opd fr H y):qje fr' H' x=qje fr H x:=by
 cases x with
 | none=>rfl
 | some y=>simp only [qje,h y rfl]
theorem qqv (ok:CfgOk X sz C) (R:Rel X sz C base st fr H w) {inl:ZI K} {o:Oper} {k:PV K->StV K->Prop} {fr':Fr} {H':Heap} (hp:qez o.op=true)
  (hop:∀ x ∈ o.op.operands.toList,opd fr' H' x=opd fr H x)
  (hcv:∀ s d x,o.op=.convert s d x->H'=H∨(∃ p,k8 (qt X tbl inv meas) C st x=some p/\((∃ k l n,p=.int k l n)∨∃ s,p=.str s)))
  (hml:∀ t x lo hi mx p,o.op=.slice t x lo hi mx->k8 (qt X tbl inv meas) C st x=some p->∀ id c n,p≠.mlist id c n)
  (h:qa1 (qt X tbl inv meas) C inl o st k):Res X sz C base H st w k fun v=>zz C.E o fr' H'=some (.val v,H'):=by
 cases ho:o.op with
 | move x=>
  simp only [qa1,ho] at h
  obtain ⟨p,h1,hh⟩:=qb h;clear h;have h:=hh;clear hh
  obtain ⟨v,e,r⟩:=qn R h1
  have e1:=(hop x (by simp [ho,Op.operands])).trans e
  exact .here R.h h r (by simp only [zz,ho,e1,zH])
 | assign x=>
  simp only [qa1,ho] at h
  obtain ⟨p,h1,hh⟩:=qb h;clear h;have h:=hh;clear hh
  obtain ⟨v,e,r⟩:=qn R h1
  have e1:=(hop x (by simp [ho,Op.operands])).trans e
  exact .here R.h h r (by simp only [zz,ho,e1,zH])
 | pick c a b=>
  simp only [qa1,ho] at h
  obtain ⟨p,h1,hh⟩:=qb h;clear h;have h:=hh;clear hh
  obtain ⟨v,e,r⟩:=qn R h1
  obtain ⟨t,rfl⟩:=q9k r h
  obtain ⟨st',h,hn,hnx,R'⟩:=quj R.h r h
  obtain ⟨q,h2,hh⟩:=qb h;clear h;have h:=hh;clear hh
  obtain ⟨u,e2,r2⟩:=qn (R.zqw ok hn R' (.refl w)) h2
  have e1:=(hop c (by simp [ho,Op.operands])).trans e
  have e3:opd fr' H' (if t then a else b)=some u:=by
   rw [<-e2]
   cases t
   .exact hop b (by simp [ho,Op.operands])
   .exact hop a (by simp [ho,Op.operands])
  refine ⟨q,st',u,w,h,hn,R',.refl w,r2,?_⟩
  simp only [zz,ho,e1,e3,zH]
 | build t parts=>
  simp only [qa1,ho] at h
  obtain ⟨ti,hti,hh⟩:=qb h;clear h;have h:=hh;clear hh
  obtain ⟨ps,h1,hh⟩:=qb h;clear h;have h:=hh;clear hh
  obtain ⟨vs,e,r⟩:=qcm R h1
  have e1:qbj fr' H' (parts.toList.map (·.2))=some vs:=by
   rw [qe7 fun x hx=>hop x ?_]
   .exact e
   .simpa [ho,Op.operands] using hx
  refine (q02 R.h r h).pass fun v hv=>?_
  simp only [zz,ho,hti,zB,e1]
  split at hv
  .rename_i fs hu
   simp only [hu]
   cases hf:(!fs.toList.all fun f=>(C.E.types f.type).isSome) with
   | true=>rw [hf] at hv;cases hv
   | false=>
    rw [hf] at hv
    simp only [zQ] at hv ⊢
    rw [hv]
    rfl
  .rename_i n e' hu
   simp only [hu]
   obtain ⟨ei,h2,h3⟩:=zI.1 hv
   simp only [h2,zB]
   rw [h3]
   rfl
  .cases hv
 | nilCheck x=>
  simp only [qa1,ho] at h
  obtain ⟨p,h1,hh⟩:=qb h;clear h;have h:=hh;clear hh
  obtain ⟨v,e,r⟩:=qn R h1
  have e1:=(hop x (by simp [ho,Op.operands])).trans e
  split at h
  .cases r with
   | cell hi=>exact .here R.h h (.cell hi) (by simp only [zz,ho,e1])
  .have r0:=r
   cases r
   exact .here R.h h r0 (by simp only [zz,ho,e1])
  .have r0:=r
   cases r
   exact .here R.h h r0 (by simp only [zz,ho,e1])
  .have r0:=r
   cases r
   exact .here R.h h r0 (by simp only [zz,ho,e1])
  .exact absurd h id
 | binOp op t x y u=>
  simp only [qa1,ho] at h
  obtain ⟨p,h1,hh⟩:=qb h;clear h;have h:=hh;clear hh
  obtain ⟨q,h2,hh⟩:=qb h;clear h;have h:=hh;clear hh
  obtain ⟨a,ea,ra⟩:=qn R h1
  obtain ⟨b,eb,rb⟩:=qn R h2
  have e1:=(hop x (by simp [ho,Op.operands])).trans ea
  have e2:=(hop y (by simp [ho,Op.operands])).trans eb
  refine (q7f ok R.h ra rb h).pass fun v hv=>?_
  obtain ⟨hv,hn⟩:=hv
  simp only [zz,ho,e1,e2,zB]
  split
  .exact absurd ⟨rfl,rfl⟩ hn
  .rw [hv];rfl
 | unOp op t x=>
  simp only [qa1,ho] at h
  obtain ⟨p,h1,hh⟩:=qb h;clear h;have h:=hh;clear hh
  obtain ⟨a,ea,ra⟩:=qn R h1
  have e1:=(hop x (by simp [ho,Op.operands])).trans ea
  refine (zeg R.h ra h).pass fun v hv=>?_
  simp only [zz,ho,e1,zB,hv,zH]
 | convert s d x=>
  simp only [qa1,ho] at h
  obtain ⟨si,hsi,hh⟩:=qb h;clear h;have h:=hh;clear hh
  obtain ⟨di,hdi,hh⟩:=qb h;clear h;have h:=hh;clear hh
  obtain ⟨p,h1,hh⟩:=qb h;clear h;have h:=hh;clear hh
  obtain ⟨a,ea,ra⟩:=qn R h1
  have e1:=(hop x (by simp [ho,Op.operands])).trans ea
  refine (q34 ok R.h ra h).pass fun v hv=>?_
  simp only [zz,ho,hsi,hdi,e1,zB]
  rcases hv with ⟨k0,kd,j,n,u1,u2,rfl,rfl⟩ | ⟨s',u1,u2,rfl,rfl⟩ | ⟨e,ei,n,cs,l,u1,u2,hns,he,hu8,hel,hby,rfl⟩ | ⟨e,ei,nm,off,lim,vs,el,ex,u1,u2,hei,hb,rfl,hg,rfl⟩ | ⟨e,ei,li,nm,off,lim,vs,el,u1,u2,hei,hli,hb,rfl,hg,rfl⟩
  .simp only [u1,u2]
  .simp only [u1,u2]
  .have hel':kp H' 1 a=some (n,cs):=by
    rcases hcv s d x ho with hsame | ⟨q,hq,hform⟩
    .rw [hsame];exact hel
    .rw [h1] at hq
     cases hq
     rcases hform with ⟨k,l',m,rfl⟩ | ⟨s',rfl⟩
     .cases ra
      simp [kp,V.qc0,qbu] at hel
     .cases ra
      exact absurd rfl (hns _)
   simp only [u1,u2]
   cases a with
   | str s'=>exact absurd rfl (hns s')
   | _=>simp only [he,zB,hu8,hel',hby,zH]
  .have hHH:H'=H:=by
    rcases hcv s d x ho with hsame | ⟨q,hq,hform⟩
    .exact hsame
    .rw [h1] at hq
     cases hq
     rcases hform with ⟨k',l',n',rfl⟩ | ⟨s',rfl⟩<;>cases ra
   subst hHH
   simp only [zA] at hb
   simp only [u1,u2,hei,zB,hg,hb.1,hb.2,show Nat.ble 0 0=true from rfl,Bool.and_self,zO]
  .have hHH:H'=H:=by
    rcases hcv s d x ho with hsame | ⟨q,hq,hform⟩
    .exact hsame
    .rw [h1] at hq
     cases hq
     rcases hform with ⟨k',l',n',rfl⟩ | ⟨s',rfl⟩<;>cases ra
   subst hHH
   simp only [zA] at hb
   simp only [u1,u2,hei,hli,zB,hg,hb.1,hb.2,show Nat.ble 0 0=true from rfl,Bool.and_self,zO]
 | makeInterface t x=>
  simp only [qa1,ho] at h
  obtain ⟨ti,hti,hh⟩:=qb h;clear h;have h:=hh;clear hh
  obtain ⟨p,h1,hh⟩:=qb h;clear h;have h:=hh;clear hh
  obtain ⟨a,ea,ra⟩:=qn R h1
  have e1:=(hop x (by simp [ho,Op.operands])).trans ea
  split at h
  .exact absurd h id
  .rename_i hni
   refine .here R.h h (.iface ra) ?_
   simp only [zz,ho,hti,zB]
   rw [e1]
   first
    | rfl
    | (split
       .rename_i u hu;exact absurd hu (hni _)
       .rfl)
 | makeFunc fn first captured=>
  cases fn with
  | func f=>
   simp only [qa1,ho] at h
   obtain ⟨a,h1,hh⟩:=qb h;clear h;have h:=hh;clear hh
   obtain ⟨c,h2,hh⟩:=qb h;clear h;have h:=hh;clear hh
   obtain ⟨va,ea,ra⟩:=qcm R h1
   obtain ⟨vc,ec,rc⟩:=qcm R h2
   have e1:qbj fr' H' first.toList=some va:=by
    rw [qe7 fun x hx=>hop x ?_]
    .exact ea
    .simp [ho,Op.operands,hx]
   have e2:qbj fr' H' captured.toList=some vc:=by
    rw [qe7 fun x hx=>hop x ?_]
    .exact ec
    .simp [ho,Op.operands,hx]
   refine .here R.h h (.func ra.1 rc.1 ra.2 rc.2) ?_
   simp only [zz,ho,e1,e2,zB,zH]
  | _=>simp only [qa1,ho] at h;exact absurd h id
 | slice t x lo hi mx=>
  cases mx with
  | some m=>simp only [qa1,ho] at h;exact absurd h id
  | none=>
   simp only [qa1,ho] at h
   obtain ⟨ti,hti,hh⟩:=qb h;clear h;have h:=hh;clear hh
   obtain ⟨p,h1,hh⟩:=qb h;clear h;have h:=hh;clear hh
   obtain ⟨nlo,h2,hh⟩:=qb h;clear h;have h:=hh;clear hh
   obtain ⟨nhi,h3,hh⟩:=qb h;clear h;have h:=hh;clear hh
   obtain ⟨a,ea,ra⟩:=qn R h1
   obtain ⟨vlo,elo,l1,l2⟩:=qkn R h2
   obtain ⟨vhi,ehi,r1,r2⟩:=qkn R h3
   have e1:=(hop x (by simp [ho,Op.operands])).trans ea
   have e2:qje fr' H' lo=some vlo:=by
    rw [qz0 fun y hy=>hop y ?_]
    .exact elo
    .subst hy;simp [ho,Op.operands]
   have e3:qje fr' H' hi=some vhi:=by
    rw [qz0 fun y hy=>hop y ?_]
    .exact ehi
    .subst hy;simp [ho,Op.operands]
   have hm:=hml t x lo hi none p ho h1
   split at h
   .exact absurd rfl (hm _ _ _)
   unfold ziv at h
   split at h
   .rename_i s hu _
    cases ra
    refine .here R.h h.2 .str ?_
    have:=zmj l1 l2 r1 r2 h.1
    simp only [zz,ho,hti,e1,e2,e3,zB,hu,this,zH]
    rfl
   .rename_i e hu _
    obtain ⟨c,hc,hh⟩:=qb h;clear h;have h:=hh;clear hh
    obtain ⟨ei,hei,hh⟩:=qb h;clear h;have h:=hh;clear hh
    obtain ⟨l,hl,hh⟩:=qb h;clear h;have h:=hh;clear hh
    have rl:=qc3 ra hl
    obtain ⟨u,hu1,hu2⟩:=za0 rl l1 l2 r1 r2 h.1
    refine .here R.h h.2 hu2 ?_
    have hsz:=ok.size e c ei hc hei
    rw [<-hsz] at hu1
    simp only [zz,ho,hti,e1,e2,e3,zB,hu]
    cases a with
    | str s=>cases rl
    | _=>simp only [hei,zB,hu1,zH]
   .exact absurd h id
 | fieldAddr s x j=>
  simp only [qa1,ho] at h
  obtain ⟨ti,hti,hh⟩:=qb h;clear h;have h:=hh;clear hh
  obtain ⟨f,hf,hh⟩:=qb h;clear h;have h:=hh;clear hh
  obtain ⟨fi,hfi,hh⟩:=qb h;clear h;have h:=hh;clear hh
  cases hz:Nat.beq fi.size 0 with
  | true=>rw [hz] at h;exact absurd h id
  | false=>
   rw [hz] at h
   simp only [zQ] at h
   obtain ⟨p,h1,hh⟩:=qb h;clear h;have h:=hh;clear hh
   obtain ⟨a,ea,ra⟩:=qn R h1
   have e1:=(hop x (by simp [ho,Op.operands])).trans ea
   split at h
   .cases ra with
    | cell hi=>exact .here R.h h (.cell hi) (by simp only [zz,ho,hti,hf,hfi,zB,hz,zQ,e1])
   .cases ra with
    | @eptr ps off nm gn d lim cs e gen floor frz ex hg hfl hM q1 q2 hc=>
     refine .here R.h h (.eptr hg hfl hM q1 q2 hc) ?_
     simp only [zz,ho,hti,hf,hfi,zB,hz,zQ,e1,Nat.add_assoc]
   .cases ra with
    | mptr hi h0 hn=>
     refine .here R.h h (.mptr hi h0 hn) ?_
     simp only [zz,ho,hti,hf,hfi,zB,hz,zQ,e1,Nat.add_assoc]
   .exact absurd h id
 | field t x j=>
  simp only [qa1,ho] at h
  obtain ⟨ti,hti,hh⟩:=qb h;clear h;have h:=hh;clear hh
  obtain ⟨f,hf,hh⟩:=qb h;clear h;have h:=hh;clear hh
  obtain ⟨fi,hfi,hh⟩:=qb h;clear h;have h:=hh;clear hh
  obtain ⟨p,h1,hh⟩:=qb h;clear h;have h:=hh;clear hh
  obtain ⟨a,ea,ra⟩:=qn R h1
  have e1:=(hop x (by simp [ho,Op.operands])).trans ea
  split at h
  .obtain ⟨vs,rfl,rl⟩:=ra.qem
   obtain ⟨q,hq,hh⟩:=qb h;clear h;have h:=hh;clear hh
   obtain ⟨u,hu,ru⟩:=qsr rl hq
   exact .here R.h h ru (by simp only [zz,ho,hti,hf,hfi,e1,zB,hu,zH])
  .exact absurd h id
 | indexAddr t x i=>
  simp only [qa1,ho] at h
  obtain ⟨ti,hti,hh⟩:=qb h;clear h;have h:=hh;clear hh
  obtain ⟨p,h1,hh⟩:=qb h;clear h;have h:=hh;clear hh
  obtain ⟨q,h2,hh⟩:=qb h;clear h;have h:=hh;clear hh
  obtain ⟨a,ea,ra⟩:=qn R h1
  obtain ⟨b,eb,rb⟩:=qn R h2
  have e1:=(hop x (by simp [ho,Op.operands])).trans ea
  have e2:=(hop i (by simp [ho,Op.operands])).trans eb
  unfold zag at h
  split at h
  .rename_i e hu
   split at h
   .rename_i es m cs0
    obtain ⟨ei,hei,hh⟩:=qb h;clear h;have h:=hh;clear hh
    cases hz:Nat.beq ei.size es with
    | false=>rw [hz] at h;exact h.elim
    | true=>
     rw [hz] at h
     simp only [zO] at h
     have:=zE hz
     subst this
     obtain ⟨kd,j,rfl,hj,h⟩:=qmz rb h
     cases ra with
     | @plist _ _ _ nm gn d cs e' gen floor frz ex hg hf hM h0 q1 q2 hc=>
      refine .here R.h h (.eptr (off:=j * ei.size) (d:=d) (lim:=d+m * ei.size) hg hf hM (by omega) (by omega) hc) ?_
      have hc':Nat.beq ei.size ei.size=true/\(0:Int)<=(j:Int)/\(j:Int)<(m:Int):=⟨Nat.beq_refl _,by omega,by omega⟩
      simp only [zz,ho,hti,e1,e2,hu,hei,zB,qet,zT hc',zH,Int.toNat_natCast]
   .obtain ⟨c,hc,hh⟩:=qb h;clear h;have h:=hh;clear hh
    obtain ⟨ei,hei,hh⟩:=qb h;clear h;have h:=hh;clear hh
    have hsz:=ok.size e c ei hc hei
    split at h
    .rename_i kd lt n
     have hb:=qpx rb kd lt n rfl
     subst hb
     split at h
     .rename_i id c' m _
      cases hcc:Nat.beq c c' with
      | false=>
       rw [hcc] at h
       exact h.elim
      | true=>
       rw [hcc] at h
       simp only [zO] at h
       have:=zE hcc
       subst this
       obtain ⟨hw,h⟩:=h
       have hw':0<=n/\n<m:=hw
       cases ra with
       | mlist hi h0=>
        refine .here R.h h (.mptr hi hw'.1 hw'.2) ?_
        have hc':Nat.beq ei.size (sz c)=true/\0<=n/\n<((m.toNat:Nat):Int):=⟨by rw [hsz,Nat.beq_refl],by omega⟩
        simp only [zz,ho,hti,e1,e2,hu,hei,zB,qet,zT hc',zH,Nat.add_zero,Nat.zero_add]
     obtain ⟨l,hl,hh⟩:=qb h;clear h;have h:=hh;clear hh
     have rl:=qc3 ra hl
     obtain ⟨hw,h⟩:=h
     have hw':0<=n/\n<(l.length:Int):=hw
     rcases ji rl with ⟨rfl,rfl⟩ | ⟨nm,gn,off,z,cap,cs,e',gen,floor,frz,ex,rfl,hg,hfl,hM,hlen,hz,hcap,hcell,_⟩
     .simp at hw';omega
     .have hi:n.toNat<l.length:=by omega
      obtain rfl:z=sz c:=by
       rcases hz.2 with h | ⟨_,rfl,_⟩
       .exact h
       .simp at hi
      have he:l.getD n.toNat (X.dflt c)=l[n.toNat]'hi:=by rw [List.getD_eq_getElem?_getD,List.getElem?_eq_getElem hi];rfl
      have hmul:(n.toNat+1) * sz c<=l.length * sz c:=zU _ (by omega)
      rw [Nat.add_mul,Nat.one_mul] at hmul
      refine .here R.h h (v:=.ptr nm gn (off+n.toNat * sz c+0) (off+l.length * sz c)) (.eptr hg hfl hM ?_ hlen ?_) ?_
      .show off+n.toNat * sz c+(X.cells c (l.getD n.toNat (X.dflt c))).length<=_
       rw [ok.len]
       omega
      .intro j p hp
       have hp':(X.cells c (l.getD n.toNat (X.dflt c)))[j]? = some p:=hp
       rw [he] at hp'
       exact hcell _ hi j p hp'
      .have hc':Nat.beq ei.size (sz c)=true/\0<=n/\n<(l.length:Int):=⟨by rw [hsz,Nat.beq_refl],hw'⟩
       simp only [zz,ho,hti,e1,e2,hu,hei,zB,qet,zT hc',zH,Nat.add_zero]
    .exact absurd h id
  .rename_i m e hu
   obtain ⟨ei,hei,hh⟩:=qb h;clear h;have h:=hh;clear hh
   split at h
   .obtain ⟨kd,j,rfl,hj,h⟩:=qmz rb h
    cases ra with
    | cell hi=>
     refine .here R.h h (.cell hi) ?_
     have hc':(0:Int)<=(j:Int)/\(j:Int)<(m:Int):=by omega
     simp only [zz,ho,hti,e1,e2,hu,hei,zB,zT hc',Int.toNat_natCast]
   .obtain ⟨kd,j,rfl,hj,h⟩:=qmz rb h
    cases ra with
    | @eptr ps off nm gn d lim cs e' gen floor frz ex hg hfl hM q1 q2 hcell=>
     refine .here R.h h (.eptr hg hfl hM q1 q2 hcell) ?_
     have hc':(0:Int)<=(j:Int)/\(j:Int)<(m:Int):=by omega
     simp only [zz,ho,hti,e1,e2,hu,hei,zB,zT hc',Int.toNat_natCast,Nat.add_assoc]
   .exact absurd h id
  .exact absurd h id
 | index t x i=>
  simp only [qa1,ho] at h
  obtain ⟨ti,hti,hh⟩:=qb h;clear h;have h:=hh;clear hh
  obtain ⟨p,h1,hh⟩:=qb h;clear h;have h:=hh;clear hh
  obtain ⟨q,h2,hh⟩:=qb h;clear h;have h:=hh;clear hh
  obtain ⟨a,ea,ra⟩:=qn R h1
  obtain ⟨b,eb,rb⟩:=qn R h2
  have e1:=(hop x (by simp [ho,Op.operands])).trans ea
  have e2:=(hop i (by simp [ho,Op.operands])).trans eb
  unfold ixP at h
  split at h
  .rename_i hu
   split at h
   .rename_i s kd lt n
    have hb:=qpx rb kd lt n rfl
    subst hb
    cases ra
    obtain ⟨hw,h⟩:=h
    have hw':0<=n/\n<(s.length:Int):=hw
    refine .here R.h h (.int fun m hm=>by cases hm) ?_
    have hi:n.toNat<s.length:=by omega
    simp only [zz,ho,hti,e1,e2,hu,zB,zT hw'.1,List.getElem?_eq_getElem hi,zH]
    have:(qt X tbl inv meas).sget s n=((s[n.toNat]'hi).toNat:Int):=by
     show bx s n=_
     unfold bx
     rw [List.getD_eq_getElem?_getD,List.getElem?_eq_getElem hi]
     rfl
    rw [this]
   .exact absurd h id
  .rename_i m e hu
   split at h
   .obtain ⟨vs,rfl,rl⟩:=ra.qem
    obtain ⟨ei,hei,hh⟩:=qb h;clear h;have h:=hh;clear hh
    obtain ⟨kd,j,rfl,hj,h⟩:=qmz rb h
    obtain ⟨q,hq,hh⟩:=qb h;clear h;have h:=hh;clear hh
    obtain ⟨u,hu',ru⟩:=qsr rl hq
    have hc':(0:Int)<=(j:Int)/\(j:Int)<(m:Int):=by omega
    exact .here R.h h ru (by simp only [zz,ho,hti,e1,e2,hu,hei,zB,zT hc',Int.toNat_natCast,hu',zH])
   .exact absurd h id
  .exact absurd h id
 | extract x i=>
  simp only [qa1,ho] at h
  obtain ⟨p,h1,hh⟩:=qb h;clear h;have h:=hh;clear hh
  obtain ⟨a,ea,ra⟩:=qn R h1
  have e1:=(hop x (by simp [ho,Op.operands])).trans ea
  split at h
  .obtain ⟨vs,rfl,rl⟩:=ra.qgf
   obtain ⟨q,hq,hh⟩:=qb h;clear h;have h:=hh;clear hh
   obtain ⟨u,hu,ru⟩:=rl.get hq
   exact .here R.h h ru (by simp only [zz,ho,e1,zB,hu,zH])
  .exact absurd h id
 | call c=>
  simp only [qa1,ho] at h
  obtain ⟨ps,h1,hh⟩:=qb h;clear h;have h:=hh;clear hh
  obtain ⟨vs,ea,ra⟩:=qcm R h1
  have e1:qbj fr' H' c.args.toList=some vs:=by
   rw [qe7 fun x hx=>hop x ?_]
   .exact ea
   .simp only [ho,Op.operands,Call.operands,Array.toList_append,List.mem_append]
    exact .inr hx
  simp only [qez,ho] at hp
  split at hp
  .rename_i hcal
   simp only [hcal] at h
   simp only [zz,ho,e1,hcal,zB]
   unfold qh4 at h
   split at h
   .rename_i x t hb hats
    obtain ⟨a,vs',rfl,ra1,ra2⟩:=ra.zv
    have:=ra2.kg;subst this
    split at h
    .rename_i ti hti
     split at h
     .rename_i n e' p' hu
      refine .here R.h h (.int fun m hm=>by cases hm;rfl) ?_
      simp only [jh,hats,hti,zB,hu]
      rfl
     .rename_i s hu
      cases ra1
      refine .here R.h h (.int fun m hm=>by cases hm) ?_
      simp only [jh,hats,hti,zB,hu]
      rfl
     .rename_i e' hu
      cases ra1
      refine .here R.h h (.int fun m hm=>by cases hm;rfl) ?_
      simp only [jh,hats,hti,zB,hu]
      rfl
     .rename_i e' c' l own hu
      refine .here R.h h (v:=qcc l.length) (.int fun m hm=>by cases hm) ?_
      rcases ji ra1 with ⟨rfl,rfl⟩ | ⟨nm,gn,off,z,cap,cs,e2,gen,floor,frz,ex,rfl,_⟩
      .simp only [jh,hats,hti,zB,hu]
       rfl
      .simp only [jh,hats,hti,zB,hu]
     .rename_i e' id' c' n' hu
      cases ra1 with
      | mlist hi h0=>
       refine .here R.h h (v:=qcc n'.toNat) ?_ ?_
       .have:((n'.toNat:Nat):Int)=n':=Int.toNat_of_nonneg h0
        show Rep X sz w _ (.int .i64 ((n'.toNat:Nat):Int))
        rw [this]
        exact .int fun m hm=>by cases hm
       .simp only [jh,hats,hti,zB,hu]
     .rename_i e' es' n' cs' hu
      cases ra1 with
      | plist=>
       refine .here R.h h (v:=qcc n') (.int fun m hm=>by cases hm;rfl) ?_
       simp only [jh,hats,hti,zB,hu]
     .exact absurd h id
    .exact absurd h id
   all_goals first
    | contradiction
    | (exact absurd h id)
  .rename_i hcal
   simp only [hcal] at h
   simp only [zz,ho,e1,hcal,zB]
   unfold qh4 at h
   split at h
   all_goals first
    | contradiction
    | (exact absurd h id)
    | (obtain ⟨x,vs',rfl,ra1,ra2⟩:=ra.zv
       obtain ⟨y,vs'',rfl,ra3,ra4⟩:=ra2.zv
       have:=ra4.kg;subst this
       cases ra1;cases ra3
       exact .here R.h h (.int fun m hm=>by cases hm) rfl)
  .rename_i hcal
   simp only [hcal] at h
   simp only [zz,ho,e1,hcal,zB]
   unfold qh4 at h
   split at h
   all_goals first
    | contradiction
    | (exact absurd h id)
    | (obtain ⟨x,vs',rfl,ra1,ra2⟩:=ra.zv
       obtain ⟨y,vs'',rfl,ra3,ra4⟩:=ra2.zv
       have:=ra4.kg;subst this
       cases ra1;cases ra3
       exact .here R.h h (.int fun m hm=>by cases hm) rfl)
  .cases hp
 | _=>simp [qez,ho] at hp
end
end Go.E3
/- E3: OPERATIONS ON MEMORY against E2's. -/
namespace Go.E3
open Go Go.E2
variable {K:Nat->Type}
theorem qc5 {α:Type}:∀ {l:List (Nat×α)} {n:Nat} {a:α} {j:Nat},look (qei l n a) j=if j=n then some a else look l j
 | [],n,a,j=>by
  simp only [qei,look,cond_eq_ite,Nat.beq_eq]
  by_cases h:n=j
  .subst h;simp
  .rw [zF h,zF (Ne.symm h)]
 | (i,b)::l,n,a,j=>by
  simp only [qei,cond_eq_ite,Nat.beq_eq]
  by_cases hi:i=n
  .subst hi
   rw [zT rfl]
   simp only [look,cond_eq_ite,Nat.beq_eq]
   by_cases hj:i=j
   .subst hj;simp
   .rw [zF hj,zF (Ne.symm hj),zF hj]
  .rw [zF hi]
   simp only [look,cond_eq_ite,Nat.beq_eq]
   by_cases hj:i=j
   .subst hj;rw [zT rfl,zF hi,zT rfl]
   .rw [zF hj,zF hj,qc5]
theorem qa7 {α:Type} {l:List (Nat×α)} {n:Nat} {a:α} {j:Nat}:look ((n,a)::l) j=if j=n then some a else look l j:=by
 simp only [look,cond_eq_ite,Nat.beq_eq]
 by_cases h:n=j
 .subst h;simp
 .rw [zF h,zF (Ne.symm h)]
section
variable {X:Codecs K} {sz:Nat->Nat} {C:ZC K} {base H:Heap} {st:StV K} {fr:Fr} {w:Wd}
variable {tbl:Tbl K} {inv:Nat->List (NV K)->Prop} {meas:Nat->List (NV K)->Nat}
theorem Le.ext {m:Nat} {nu':Nat->Bool} (hm:w.n<=m) (hnu:∀ id,id<w.n->nu' id=w.nu id):Le w {w with n:=m,nu:=nu'}:=
 ⟨⟨hm,fun nm cs e gen floor frz ex h hM=>⟨hM,[],gen,frz,ex,by rw [zJ];exact h⟩,fun _ _=>rfl,hnu,fun _ _ h=>h,
  fun _ _ _ _ h h'=>by rw [h] at h';cases h';exact zN _,fun _ _ _ _ _=>⟨rfl,fun _ _ _=>rfl⟩,rfl,fun _ _=>.rfl,zN _,rfl,fun _ _ h=>h,fun _ _=>rfl⟩,fun _ h=>h,rfl⟩
theorem q4t {neg b:Bool} {pt pf:Prop} {ps:List (PV K)} {n:Nat}:qa2 (.sb 0 neg b pt pf::ps) n=(.sb n neg b pt pf::(qa2 ps (n+1)).1,(qa2 ps (n+1)).2):=by
 simp only [qa2]
theorem q1t {p:PV K} {ps:List (PV K)} {n:Nat} (h:∀ neg b pt pf,p≠.sb 0 neg b pt pf):qa2 (p::ps) n=(p::(qa2 ps n).1,(qa2 ps n).2):=by
 cases p with
 | sb id neg b pt pf=>
  cases id with
  | zero=>exact absurd rfl (h _ _ _ _)
  | succ m=>simp only [qa2]
 | _=>simp only [qa2]
theorem qfi (hx:∀ c x,(X.cells c x).length=sz c):∀ {ps:List (PV K)} {vs:List V} {w:Wd},qq X sz w ps vs->1<=w.n->
  ∃ nu',(∀ id,id<w.n->nu' id=w.nu id)/\w.n<=(qa2 ps w.n).2/\qq X sz {w with n:=(qa2 ps w.n).2,nu:=nu'} (qa2 ps w.n).1 vs
 | [],vs,w,r,h1=>⟨w.nu,fun _ _=>rfl,zN _,by simp only [qa2];exact r⟩
 | p::ps,vs,w,r,h1=>by
  obtain ⟨v,vs',rfl,r1,r2⟩:=r.zv
  by_cases hp:∃ neg b pt pf,p=.sb 0 neg b pt pf
  .obtain ⟨neg,b,pt,pf,rfl⟩:=hp
   cases r1 with | sb q1 q2 q3=>
   have hle:Le w {w with n:=w.n+1,nu:=fun id=>if id=w.n then (b != neg) else w.nu id}:=Le.ext (Nat.le_succ _) (fun id hi=>by rw [zF (by omega)])
   obtain ⟨nu',g1,g2,g3⟩:=qfi hx (r2.mono hx hle) (by show 1<=w.n+1;omega)
   simp only at g1 g2 g3
   rw [q4t]
   refine ⟨nu',fun id hi=>?_,zR (Nat.le_succ _) g2,.cons (.sb q1 q2 fun h0=>⟨g2,?_⟩) g3⟩
   .rw [g1 id (by omega),zF (by omega)]
   .show b=(nu' w.n != neg)
    rw [g1 w.n (by omega),zT rfl]
    cases b<;>cases neg<;>rfl
  .obtain ⟨nu',g1,g2,g3⟩:=qfi hx r2 h1
   rw [q1t (by intro neg b pt pf he;exact hp ⟨_,_,_,_,he⟩)]
   exact ⟨nu',g1,g2,.cons (r1.mono hx (Le.ext g2 g1)) g3⟩
theorem qha (ok:CfgOk X sz C) (R:RelH X sz C base st H w) {p:PV K} {v:V} (r:Rep X sz w p v):∃ w',Near st (qc8 p st).2/\RelH X sz C base (qc8 p st).2 H w'/\Le w w'/\Rep X sz w' (qc8 p st).1 v:=by
 unfold qc8
 split
 .rename_i neg b pt pf
  cases r with | sb q1 q2 q3=>
  obtain ⟨hle,R'⟩:=R.ext ok (m:=st.next+1) (nu':=fun id=>if id=st.next then (b != neg) else w.nu id) (Nat.le_succ _) (fun id hi=>by rw [zF (by omega)])
  refine ⟨_,⟨rfl,rfl,rfl,rfl⟩,R',hle,.sb q1 q2 fun h0=>⟨Nat.lt_succ_self _,?_⟩⟩
  show b=((if st.next=st.next then (b != neg) else w.nu st.next) != neg)
  rw [zT rfl]
  cases b<;>cases neg<;>rfl
 .rename_i cs
  obtain ⟨vs,rfl,rl⟩:=r.qem
  obtain ⟨nu',g1,g2,g3⟩:=qfi ok.len rl (by rw [R.n];exact R.one)
  rw [R.n] at g1 g2 g3
  obtain ⟨hle,R'⟩:=R.ext ok g2 g1
  exact ⟨_,⟨rfl,rfl,rfl,rfl⟩,R',hle,.qqp g3⟩
 .rename_i cs
  obtain ⟨vs,rfl,rl⟩:=r.qgf
  obtain ⟨nu',g1,g2,g3⟩:=qfi ok.len rl (by rw [R.n];exact R.one)
  rw [R.n] at g1 g2 g3
  obtain ⟨hle,R'⟩:=R.ext ok g2 g1
  exact ⟨_,⟨rfl,rfl,rfl,rfl⟩,R',hle,.tuple' g3⟩
 .exact ⟨w,.refl st,R,.refl w,r⟩
theorem quv {ti:TI} {H':Heap} {nm gn off lim:Nat} {cs:List V} {e:TypeId} {gen floor frz:Nat} {ex:Bool} {ps:List (PV K)} {d:Nat} {q:PV K}
  (hg:H'.get nm=some (.row cs e gen floor frz ex)) (hf:floor<=gn) (h1:d+ps.length<=lim) (h2:lim<=cs.length) (hc:∀ (j:Nat) (p:PV K),ps[j]? = some p->Rep X sz w p (cs.getD (d+j) jb))
  (hb:off+ti.size<=ps.length) (hq:(bif ti.isAgg then some (.agg ((ps.drop off).take ti.size)) else bif Nat.beq ti.size 1 then ps[off]? else none)=some q) :
  ∃ v,qg3 H' ti (.ptr nm gn (d+off) lim)=some v/\Rep X sz w q v:=by
 have b1:Nat.ble floor gn=true:=by rw [Nat.ble_eq];exact hf
 have b2:Nat.ble (d+off+ti.size) lim=true:=by rw [Nat.ble_eq];omega
 have b3:Nat.ble lim cs.length=true:=by rw [Nat.ble_eq];exact h2
 have hrep:qq X sz w ((ps.drop off).take ti.size) ((cs.drop (d+off)).take ti.size):=by
  refine ⟨by rw [List.length_take,List.length_drop,List.length_take,List.length_drop];omega,fun j p hp=>?_⟩
  rw [List.getElem?_take] at hp
  split at hp
  .rename_i hj
   rw [List.getElem?_drop] at hp
   have:=hc _ p hp
   rw [List.getD_eq_getElem?_getD] at this ⊢
   rw [List.getElem?_take,zT hj,List.getElem?_drop,Nat.add_assoc]
   exact this
  .cases hp
 have hrd:jk H' ti.size (.ptr nm gn (d+off) lim)=some ((cs.drop (d+off)).take ti.size):=by
  simp only [jk,hg,b1,b2,b3,Bool.and_self,zO,qi7 hrep.qwm]
 cases ha:ti.isAgg with
 | true=>
  rw [ha] at hq
  simp only [zO,zS] at hq
  subst hq
  exact ⟨_,by simp only [qg3,hrd,zB,ha,zO],.qqp hrep⟩
 | false=>
  rw [ha] at hq
  simp only [zQ] at hq
  cases hs:Nat.beq ti.size 1 with
  | false=>rw [hs] at hq;cases hq
  | true=>
   rw [hs] at hq
   simp only [zO] at hq
   have hs1:=zE hs
   rw [hs1] at hrep hrd
   have hlt:off<ps.length:=by omega
   have e1:(ps.drop off).take 1=[q]:=by
    rw [List.drop_eq_getElem_cons hlt]
    rw [List.getElem?_eq_getElem hlt] at hq
    cases hq
    rfl
   rw [e1] at hrep
   obtain ⟨v,vs',he,r1,r2⟩:=hrep.zv
   have:=r2.kg;subst this
   refine ⟨v,?_,r1⟩
   simp only [qg3,hs1,hrd,zB,ha,zQ,he]
theorem qvx (hx:∀ c x,(X.cells c x).length=sz c) {c:Nat}:∀ {l:List (K c)} {i:Nat} (h:i<l.length) {j:Nat} {p:PV K},(X.cells c (l[i]'h))[j]? = some p->(l.flatMap (X.cells c))[i * sz c+j]? = some p
 | [],i,h,_,_,_=>by simp at h
 | x::l,0,h,j,p,hp=>by
  simp only [List.getElem_cons_zero] at hp
  rw [List.flatMap_cons,Nat.zero_mul,Nat.zero_add,List.getElem?_append_left (List.getElem?_eq_some_iff.1 hp).1]
  exact hp
 | x::l,i+1,h,j,p,hp=>by
  simp only [List.getElem_cons_succ] at hp
  have ih:=qvx hx (l:=l) (i:=i) (by simpa using h) hp
  rw [List.flatMap_cons,List.getElem?_append_right (by rw [hx,Nat.add_mul,Nat.one_mul];omega),hx]
  have:(i+1) * sz c+j-sz c=i * sz c+j:=by rw [Nat.add_mul,Nat.one_mul];omega
  rw [this]
  exact ih
theorem qh8 (hx:∀ c x,(X.cells c x).length=sz c) {c:Nat}:∀ {l:List (K c)},(l.flatMap (X.cells c)).length=l.length * sz c
 | []=>by simp
 | x::l=>by rw [List.flatMap_cons,List.length_append,hx,qh8 hx,List.length_cons,Nat.add_mul];omega
theorem zgc (ok:CfgOk X sz C) {c:Nat} {l:List (K c)}:(l.flatMap (X.cells c)).all qar=true:=by
 rw [List.all_eq_true]
 intro p hp
 obtain ⟨x,_,hx⟩:=List.mem_flatMap.1 hp
 exact List.all_eq_true.1 (ok.one c x) p hx
theorem qz2 {ti:TI} {H':Heap} {nm d off lim:Nat} {vs:List V} {e:TypeId} {ex:Bool} {all ps:List (PV K)} {q:PV K} (hg:H'.get nm=some (.row vs e 0 0 0 ex)) (hr:qq X sz w all vs)
  (hps:∀ (j:Nat) (p:PV K),ps[j]? = some p->all[d+j]? = some p) (h1:d+ps.length<=lim) (h2:lim<=all.length) (h:loadAt ti ps off=some q):∃ u,qg3 H' ti (.ptr nm 0 (d+off) lim)=some u/\Rep X sz w q u:=by
 unfold loadAt at h
 cases hb:Nat.ble (off+ti.size) ps.length with
 | false=>rw [hb] at h;cases h
 | true=>
  rw [hb] at h
  simp only [zO] at h
  rw [Nat.ble_eq] at hb
  exact quv hg (zN _) h1 (by rw [<-hr.1];exact h2) (fun j p hp=>hr.2 _ p (hps j p hp)) hb h
theorem qig (R:RelH X sz C base st H w) {ti:TI} {p q:PV K} {v:V} (r:Rep X sz w p v) (h:zah st ti p=some q) :
  ∃ nm gn off lim,v=.ptr nm gn off lim/\nm<H.next/\(∀ H':Heap,H'.get nm=H.get nm->∃ u,qg3 H' ti v=some u/\Rep X sz w q u)/\
   ((∃ id,(∃ o l,p=.cell id o l)/\nm=w.c id/\∃ ct,look st.cells id=some ct)∨(∃ cs o,p=.eptr cs o/\¬ w.M nm)):=by
 unfold zah at h
 split at h
 .rename_i id off lim
  obtain ⟨ps,h1,h2⟩:=zI.1 h
  have hl:=qe4 h1
  cases hb:(Nat.ble (off+ti.size) lim&&Nat.ble lim ps.length) with
  | false=>rw [hb] at h2;cases h2
  | true=>
   rw [hb] at h2
   simp only [zO] at h2
   simp only [zA,Nat.ble_eq] at hb
   cases r with
   | cell hi=>
    obtain ⟨hcl,_,vs,e,ex,hg,_,hr⟩:=R.cells id _ hl
    have hr:qq X sz w ps vs:=hr
    refine ⟨_,_,_,_,rfl,(R.cl id hcl).2.1,fun H' hs=>?_,.inl ⟨id,⟨_,_,rfl⟩,rfl,_,hl⟩⟩
    have:=qz2 (ti:=ti) (H':=H') (nm:=w.c id) (d:=0) (off:=off) (lim:=lim) (ps:=ps.take lim) (q:=q) (by rw [hs];exact hg) hr (fun j p hp=>by
      rw [List.getElem?_take] at hp
      split at hp
      .rw [Nat.zero_add];exact hp
      .cases hp) (by rw [List.length_take];omega) hb.2 ?_
    .rw [Nat.zero_add] at this;exact this
    .unfold loadAt
     have hb1:Nat.ble (off+ti.size) (ps.take lim).length=true:=by rw [Nat.ble_eq,List.length_take];omega
     rw [hb1,zO,<-h2]
     cases ti.isAgg with
     | true=>
      simp only [zO]
      congr 2
      rw [List.drop_take,List.take_take]
      congr 1
      omega
     | false=>
      simp only [zQ]
      cases hs1:Nat.beq ti.size 1 with
      | false=>rfl
      | true=>
       simp only [zO]
       have:=zE hs1
       rw [List.getElem?_take,zT (by omega)]
 .rename_i cs off
  unfold loadAt at h
  cases hb:Nat.ble (off+ti.size) cs.length with
  | false=>rw [hb] at h;cases h
  | true=>
   rw [hb] at h
   simp only [zO] at h
   rw [Nat.ble_eq] at hb
   cases r with
   | @eptr ps off nm gn d lim cs' e gen floor frz ex hg hf hM q1 q2 hc=>
    rw [R.g] at hg
    refine ⟨_,_,_,_,rfl,?_,fun H' hs=>quv (by rw [hs];exact hg) hf q1 q2 hc hb h,.inr ⟨_,_,rfl,hM⟩⟩
    by_cases hlt:nm<H.next
    .exact hlt
    .rw [R.wf nm (by omega)] at hg;cases hg
 .cases h
theorem qlz (ok:CfgOk X sz C) (R:RelH X sz C base st H w) {ti:TI} {p:PV K} {v:V} {k:PV K->StV K->Prop} (r:Rep X sz w p v) (h:zg6 (qt X tbl inv meas) ti p st k) :
  ∃ q,k (qc8 q st).1 (qc8 q st).2/\∃ nm gn off lim,v=.ptr nm gn off lim/\nm<H.next/\(∀ H':Heap,H'.get nm=H.get nm->∃ u,qg3 H' ti v=some u/\Rep X sz w q u)/\
   ((∃ id,((∃ o l,p=.cell id o l)∨∃ c i n o,p=.mptr id c i n o)/\nm=w.c id/\∃ ct,look st.cells id=some ct)∨(∃ cs o,p=.eptr cs o/\¬ w.M nm)):=by
 unfold zg6 at h
 split at h
 .rename_i id c i n off
  obtain ⟨l,h1,h2⟩:=qb h
  obtain ⟨hle,h3⟩:=h2
  obtain ⟨q,hq,hk⟩:=qb h3
  have hle':n<=(l.length:Int):=hle
  have hl:=qga h1
  obtain ⟨hcl,hM,vs,e,ex,hg,_,hr⟩:=R.cells id _ hl
  cases r with
  | mptr hi h0 hn=>
   have hi':i.toNat<l.length:=by omega
   have he:l.getD i.toNat (X.dflt c)=l[i.toNat]'hi':=by rw [List.getD_eq_getElem?_getD,List.getElem?_eq_getElem hi'];rfl
   refine ⟨q,hk,_,_,_,_,rfl,(R.cl id hcl).2.1,fun H' hs=>?_,.inl ⟨id,.inr ⟨_,_,_,_,rfl⟩,rfl,_,hl⟩⟩
   have hm1:(i.toNat+1) * sz c<=n.toNat * sz c:=zU _ (by omega)
   have hm2:n.toNat * sz c<=l.length * sz c:=zU _ (by omega)
   rw [Nat.add_mul,Nat.one_mul] at hm1
   have hq':loadAt ti (X.cells c (l.getD i.toNat (X.dflt c))) off=some q:=hq
   rw [he] at hq'
   refine qz2 (by rw [hs];exact hg) hr (fun j p hp=>qvx ok.len hi' hp) (by rw [ok.len];omega) ?_ hq'
   show _<=(l.flatMap (X.cells c)).length
   rw [qh8 ok.len]
   exact hm2
 .obtain ⟨q,h,hk⟩:=qb h
  refine ⟨q,hk,?_⟩
  obtain ⟨nm,gn,off,lim,a1,a2,a3,a4⟩:=qig R r h
  refine ⟨nm,gn,off,lim,a1,a2,a3,?_⟩
  rcases a4 with ⟨id,b1,b2,b3⟩ | b
  .exact .inl ⟨id,.inl b1,b2,b3⟩
  .exact .inr b
end
end Go.E3
/- E3: STORES AND NEW VARIABLES AND LISTS against E2's. -/
namespace Go.E3
open Go Go.E2
variable {K:Nat->Type}
section
variable {X:Codecs K} {sz:Nat->Nat} {C:ZC K} {base H:Heap} {st:StV K} {fr:Fr} {w:Wd}
variable {tbl:Tbl K} {inv:Nat->List (NV K)->Prop} {meas:Nat->List (NV K)->Nat}
theorem q82 {ti:TI} {a x:PV K} {st':StV K} (h:q81 st ti a x=some st'):∃ id off lim ps,a=.cell id off lim/\qnf st.cells id=some ps/\x.cellsOf.length=ti.size/\off+ti.size<=lim/\lim<=ps.length/\x.cellsOf.all qar=true/\
  st' = {st with cells:=qei st.cells id (.cs (qn9 st.cells id) (qcf ps off x.cellsOf))}:=by
 unfold q81 at h
 split at h
 .rename_i id off lim
  obtain ⟨ps,h1,h2⟩:=zI.1 h
  cases hb:(Nat.beq x.cellsOf.length ti.size&&Nat.ble (off+ti.size) lim&&Nat.ble lim ps.length&&x.cellsOf.all qar) with
  | false=>rw [hb] at h2;cases h2
  | true=>
   rw [hb] at h2
   simp only [zO,zS] at h2
   simp only [zA,Nat.ble_eq] at hb
   exact ⟨id,off,lim,ps,rfl,h1,zE hb.1.1.1,hb.1.1.2,hb.1.2,hb.2,h2.symm⟩
 .cases h
theorem qil (ok:CfgOk X sz C) (R:RelH X sz C base st H w) {id:Nat} {ct ct':ZT K} {o:O} (hl:look st.cells id=some ct)
  (hc:qa8 X sz w id ct' (some o)):∃ w',RelH X sz C base {st with cells:=qei st.cells id ct'} (H.put (w.c id) o) w'/\Le w w':=by
 obtain ⟨hcl,hM,hat⟩:=R.cells id _ hl
 obtain ⟨hid,hnext,hbase⟩:=R.cl id hcl
 let H':=H.put (w.c id) o
 have hget:∀ nm,nm≠w.c id->H'.get nm=H.get nm:=fun nm hn=>qbf hn
 have hself:H'.get (w.c id)=some o:=qac
 have hle:Le w {w with g:=H'.get}:=by
  refine ⟨⟨zN _,fun nm cs e gen floor frz ex h hM'=>⟨hM',[],gen,frz,ex,?_⟩,fun _ _=>rfl,fun _ _=>rfl,fun _ _ h=>h,fun _ _ _ _ h h'=>(by rw [h] at h';cases h';exact zN _),fun i s hi ho _=>⟨rfl,fun nm hn _=>?_⟩,rfl,fun _ _=>.rfl,zN _,rfl,fun _ _ h=>h,fun _ _=>rfl⟩,fun m hm=>?_,rfl⟩
  .rw [zJ]
   show H'.get nm=_
   rw [hget nm (by intro he;subst he;exact hM' hM),<-R.g]
   exact h
  .show H'.get nm=w.g nm
   rw [R.owns] at ho
   obtain ⟨_,_,hnM⟩:=R.eta i s nm ho hn
   rw [hget nm (by intro he;subst he;exact hnM hM),R.g]
  .show H'.get m=_
   rw [R.g] at hm
   rw [hget m (by intro he;subst he;exact hat.some.1 hm)]
   exact hm
 refine ⟨{w with g:=H'.get},?_,hle⟩
 refine ⟨fun n hn=>?_,R.rob,rfl,R.nx,R.b,R.Mlt,R.n,R.one,R.keeps.put hbase _,R.cl,R.cinj,fun id' ps' h'=>?_,R.owns,R.ownn,R.eta,R.einj,R.ce,R.known,fun gn ps' h'=>?_⟩
 .have hn':H.next<=n:=hn
  rw [hget n (by omega)]
  exact R.wf n hn'
 .simp only [qc5] at h'
  by_cases hi:id'=id
  .subst hi
   rw [zT rfl] at h'
   cases h'
   refine ⟨hcl,hM,?_⟩
   show qa8 X sz _ id' _ (H'.get (w.c id'))
   rw [hself]
   exact hc.mono ok.len hle (by rw [R.n];exact hid)
  .rw [zF hi] at h'
   obtain ⟨q1,q2,q5⟩:=R.cells id' ps' h'
   refine ⟨q1,q2,?_⟩
   show qa8 X sz _ id' _ (H'.get (w.c id'))
   rw [hget _ (by intro he;exact hi (R.cinj id' id q1 hcl he))]
   exact q5.mono ok.len hle (by rw [R.n];exact (R.cl id' q1).1)
 .obtain ⟨q0,vs',e',fl,fz,ex',q1,q2,q3⟩:=R.globs gn ps' h'
  exact ⟨q0,vs',e',fl,fz,ex',q1,q2,q3.mono ok.len hle⟩
theorem q8n (ok:CfgOk X sz C) (R:RelH X sz C base st H w) {id:Nat} {ct ct':ZT K} {vs':List V} {e:TypeId} {ex:Bool} (hl:look st.cells id=some ct) (hlp:zaf ct'=true)
  (hty:qxq ct' e ex) (hr:qq X sz w (qnv X ct') vs'):∃ w',RelH X sz C base {st with cells:=qei st.cells id ct'} (H.put (w.c id) (.row vs' e 0 0 0 ex)) w'/\Le w w':=
 qil ok R hl (.row hlp hty hr)
theorem qrl {α:Type} {l:List (Nat×α)} {id:Nat} {x y:α} (h:look l id=some x) (j:Nat):(look (qei l id y) j).isSome=(look l j).isSome:=by
 rw [qc5]
 by_cases hj:j=id
 .subst hj;rw [zT rfl,h];rfl
 .rw [zF hj]
theorem q6f (hx:∀ c x,(X.cells c x).length=sz c) {c:Nat}:∀ {l:List (K c)} {i:Nat} (h:i<l.length) (x:K c),(l.set i x).flatMap (X.cells c)=qcf (l.flatMap (X.cells c)) (i * sz c) (X.cells c x)
 | [],i,h,_=>by simp at h
 | y::l,0,h,x=>by
  simp only [List.set_cons_zero,List.flatMap_cons,qcf,Nat.zero_mul,List.take_zero,List.nil_append,Nat.zero_add]
  rw [List.drop_append,hx,hx,List.drop_eq_nil_of_le (by rw [hx];exact zN _)]
  simp
 | y::l,i+1,h,x=>by
  have ih:=q6f hx (l:=l) (i:=i) (by simpa using h) x
  simp only [List.set_cons_succ,List.flatMap_cons,ih]
  have e1:(i+1) * sz c=(X.cells c y).length+i * sz c:=by rw [hx,Nat.add_mul,Nat.one_mul,Nat.add_comm]
  simp only [qcf,e1,List.take_length_add_append,Nat.add_assoc,List.drop_length_add_append,List.append_assoc]
theorem qyc {xs ys:List V} {d off m:Nat} (h1:off+ys.length<=m) (h2:d+m<=xs.length):setCells xs d (setCells ((xs.drop d).take m) off ys)=setCells xs (d+off) ys:=by
 apply List.ext_getElem?
 intro j
 simp only [setCells,List.getElem?_append,List.length_append,List.length_take,List.length_drop,List.getElem?_take,List.getElem?_drop]
 have e1:min d xs.length=d:=by omega
 have e2:min off (min m (xs.length-d))=off:=by omega
 have e3:min (d+off) xs.length=d+off:=by omega
 have e4:off+ys.length+(min m (xs.length-d)-(off+ys.length))=m:=by omega
 simp only [e1,e2,e3,e4]
 repeat' split
 all_goals first
  | rfl
  | (exfalso;omega)
  | (congr 1;omega)
  | (rw [List.getElem?_eq_none (by omega)];done)
  | (rw [List.getElem?_eq_none (by omega),List.getElem?_eq_none (by omega)];done)
theorem qzd (hx:∀ c x,(X.cells c x).length=sz c) {c:Nat}:∀ {l:List (K c)} {i:Nat} (h:i<l.length),((l.flatMap (X.cells c)).drop (i * sz c)).take (sz c)=X.cells c (l[i]'h)
 | [],i,h=>by simp at h
 | y::l,0,h=>by
  simp only [List.flatMap_cons,Nat.zero_mul,List.drop_zero,List.getElem_cons_zero]
  rw [<-hx c y,List.take_left]
 | y::l,i+1,h=>by
  have ih:=qzd hx (l:=l) (i:=i) (by simpa using h)
  have e1:(i+1) * sz c=(X.cells c y).length+i * sz c:=by rw [hx,Nat.add_mul,Nat.one_mul,Nat.add_comm]
  simp only [List.flatMap_cons,List.getElem_cons_succ,e1,List.drop_length_add_append]
  exact ih
theorem qqd (ok:CfgOk X sz C) (R:RelH X sz C base st H w) {ti:TI} {a x:PV K} {va vx:V} {k:PV K->StV K->Prop} (ra:Rep X sz w a va) (rx:Rep X sz w x vx) (h:q80 (qt X tbl inv meas) ti a x st k) :
  ∃ st' id off lim H' w',k qmg st'/\((∃ o l,a=.cell id o l)∨∃ c i n o,a=.mptr id c i n o)/\va=.ptr (w.c id) 0 off lim/\w.c id<H.next/\id<st.next/\w.cl id/\base.next<=w.c id/\
   (∀ H0:Heap,H0.get (w.c id)=H.get (w.c id)->H0.ro<=w.c id->∃ row,H'=H.put (w.c id) row/\qjj H0 ti va vx=some (H0.put (w.c id) row))/\qjj H ti va vx=some H'/\
   st'.tmps=st.tmps/\st'.n=st.n/\st'.next=st.next/\RelH X sz C base st' H' w'/\Le w w'/\(∀ j,(look st'.cells j).isSome=(look st.cells j).isSome)/\(look st.cells id).isSome=true:=by
 have rc:=rx.cells
 have key:∀ {id off lim:Nat} {ct ct':ZT K} {vs:List V} {e:TypeId} {ex:Bool},look st.cells id=some ct->H.get (w.c id)=some (.row vs e 0 0 0 ex)->x.cellsOf.length=ti.size->
   off+ti.size<=lim->lim<=vs.length->x.cellsOf.all qar=true->zaf ct'=true->qxq ct' e ex->qq X sz w (qnv X ct') (setCells vs off vx.cells)->
   ∃ H' w',w.c id<H.next/\id<st.next/\w.cl id/\base.next<=w.c id/\
   (∀ H0:Heap,H0.get (w.c id)=H.get (w.c id)->H0.ro<=w.c id->∃ row,H'=H.put (w.c id) row/\qjj H0 ti (.ptr (w.c id) 0 off lim) vx=some (H0.put (w.c id) row))/\qjj H ti (.ptr (w.c id) 0 off lim) vx=some H'/\
   RelH X sz C base {st with cells:=qei st.cells id ct'} H' w'/\Le w w':=by
  intro id off lim ct ct' vs e ex hl hg hsz hb1 hb2 hone hlp hty hr
  obtain ⟨hcl,hM,_⟩:=R.cells id _ hl
  obtain ⟨hid,hnext,hbase⟩:=R.cl id hcl
  have hrow:∀ H0:Heap,H0.get (w.c id)=H.get (w.c id)->H0.ro<=w.c id->qjj H0 ti (.ptr (w.c id) 0 off lim) vx=some (H0.put (w.c id) (.row (setCells vs off vx.cells) e 0 0 0 ex)):=by
   intro H0 hg0 hro
   have c1:Nat.beq vx.cells.length ti.size=true:=by rw [<-rc.1,hsz];exact Nat.beq_refl _
   have c2:(Nat.beq 0 0&&Nat.ble (off+vx.cells.length) lim&&Nat.ble lim vs.length&&Nat.ble 0 off&&vx.cells.all V.j7)=true:=by
    simp only [zA,Nat.ble_eq]
    exact ⟨⟨⟨⟨rfl,by rw [<-rc.1,hsz];exact hb1⟩,hb2⟩,Nat.zero_le _⟩,rc.q5l hone⟩
   simp only [qjj,c1,zO,j3,hg0,hg,c2,qbn hro]
  have hro:H.ro<=w.c id:=by rw [R.keeps.ro];exact zR R.rob.1 hbase
  obtain ⟨w',R',hle⟩:=q8n ok R (e:=e) (ex:=ex) hl hlp hty hr
  exact ⟨_,w',hnext,hid,hcl,hbase,fun H0 h1 h2=>⟨_,rfl,hrow H0 h1 h2⟩,hrow H rfl hro,R',hle⟩
 unfold q80 at h
 split at h
 .rename_i id c i n off
  obtain ⟨l,h1,h2⟩:=qb h
  have hl:=qga h1
  obtain ⟨hcl,hM,vs,e,ex,hg,hty,hr⟩:=R.cells id _ hl
  have hr:qq X sz w (l.flatMap (X.cells c)) vs:=hr
  cases hb:(Nat.beq x.cellsOf.length ti.size&&Nat.ble (off+ti.size) (X.cells c (l.getD i.toNat (X.dflt c))).length&&x.cellsOf.all qar) with
  | false=>
   have h2:(bif (Nat.beq x.cellsOf.length ti.size&&Nat.ble (off+ti.size) (X.cells c (l.getD i.toNat (X.dflt c))).length&&x.cellsOf.all qar) then _ else False):=h2
   rw [hb] at h2
   exact h2.elim
  | true=>
   have h2:(bif (Nat.beq x.cellsOf.length ti.size&&Nat.ble (off+ti.size) (X.cells c (l.getD i.toNat (X.dflt c))).length&&x.cellsOf.all qar) then _ else False):=h2
   rw [hb] at h2
   simp only [zO] at h2
   obtain ⟨r,hpk,hle,hpre,hk⟩:=qb h2
   simp only [zA,Nat.ble_eq] at hb
   obtain ⟨⟨hsz,hoff⟩,hone⟩:=hb
   have hsz:=zE hsz
   have hle':n<=(l.length:Int):=hle
   rw [ok.len] at hoff
   cases ra with
   | mptr hi h0 hn=>
    have hi':i.toNat<l.length:=by omega
    have he:l.getD i.toNat (X.dflt c)=l[i.toNat]'hi':=by rw [List.getD_eq_getElem?_getD,List.getElem?_eq_getElem hi'];rfl
    have hm1:(i.toNat+1) * sz c<=n.toNat * sz c:=zU _ (by omega)
    have hm2:n.toNat * sz c<=l.length * sz c:=zU _ (by omega)
    rw [Nat.add_mul,Nat.one_mul] at hm1
    have hvl:vs.length=l.length * sz c:=by rw [<-hr.1,qh8 ok.len]
    have rel:qq X sz w (X.cells c (l[i.toNat]'hi')) ((vs.drop (i.toNat * sz c)).take (sz c)):=by
     rw [<-qzd ok.len hi']
     exact (hr.drop _).take _
    have hpk':X.pack c (qcf (X.cells c (l.getD i.toNat (X.dflt c))) off x.cellsOf)=some (r.1,r.2):=hpk
    rw [he] at hpk'
    have rnew:=ok.pack c _ r.1 r.2 hpk' hpre w _ (qhs rel rc off)
    have rall:=qhs hr rnew (i.toNat * sz c)
    rw [<-q6f ok.len hi',qyc (by rw [<-rc.1];omega) (by omega)] at rall
    obtain ⟨H',w',b1,b2,b3,b4,b5,b6,b7,b8⟩:=key (off:=i.toNat * sz c+off) (lim:=n.toNat * sz c) (ct':=.ml c (l.set i.toNat r.2)) hl hg hsz (by omega) (by omega) hone rfl trivial rall
    exact ⟨_,id,_,_,H',w',hk,.inr ⟨_,_,_,_,rfl⟩,rfl,b1,b2,b3,b4,b5,b6,rfl,rfl,rfl,b7,b8,fun j=>qrl hl j,by rw [hl];rfl⟩
 .obtain ⟨st',hst,hk⟩:=qb h
  obtain ⟨id,off,lim,ps,rfl,hl,hsz,hb1,hb2,hone,rfl⟩:=q82 hst
  have hl:=qe4 hl
  obtain ⟨hcl,hM,vs,e,ex,hg,hty,hr⟩:=R.cells id _ hl
  have hr:qq X sz w ps vs:=hr
  have hva:va=.ptr (w.c id) 0 off lim:=by cases ra;rfl
  subst hva
  obtain ⟨H',w',b1,b2,b3,b4,b5,b6,b7,b8⟩:=key (ct':=.cs (qn9 st.cells id) (qcf ps off x.cellsOf)) hl hg hsz hb1 (by rw [<-hr.1];exact hb2) hone rfl (zmm hty) (qhs hr rc off)
  exact ⟨_,id,off,lim,H',w',hk,.inl ⟨_,_,rfl⟩,rfl,b1,b2,b3,b4,b5,b6,rfl,rfl,rfl,b7,b8,fun j=>qrl hl j,by rw [hl];rfl⟩
def Wd.new (w:Wd) (H:Heap) (row:O) (m:Nat) (wr:Bool) (c':Nat->Nat) (owns':Nat->Option Nat) (eta':Nat->Option Nat) (cl':Nat->Prop):Wd:=
 {w with nx:=H.next+1,cl:=cl',g:=(H.new row).get,M:=fun n=>w.M n∨(wr=true/\n=H.next),n:=m,c:=c',owns:=owns',eta:=eta'}
theorem Le.new (R:RelH X sz C base st H w) {row:O} {m:Nat} {wr:Bool} {c':Nat->Nat} {owns' eta':Nat->Option Nat} {cl':Nat->Prop} (hm:st.next<=m) (hc:∀ id,id<st.next->c' id=w.c id)
  (o1:∀ i,i<st.next->look st.owns i=none->owns' i=none) (o2:∀ i s s',i<st.next->look st.owns i=some s->owns' i=some s'->s<=s')
  (o3:∀ i s,i<st.next->look st.owns i=some s->owns' i=some s->eta' i=w.eta i) (hcl:∀ id,id<st.next->(cl' id↔w.cl id)):Le w (w.new H row m wr c' owns' eta' cl'):=by
 have hold:∀ nm x,w.g nm=some x->(H.new row).get nm=some x/\nm<H.next:=by
  intro nm x h
  rw [R.g] at h
  have hlt:nm<H.next:=by
   by_cases hlt:nm<H.next
   .exact hlt
   .rw [R.wf nm (by omega)] at h;cases h
  exact ⟨by rw [qck hlt];exact h,hlt⟩
 refine ⟨⟨by rw [R.n];exact hm,fun nm cs e gen floor frz ex h hM=>?_,fun id hi=>hc id (by rw [<-R.n];exact hi),fun _ _=>rfl,fun i hi h=>o1 i (by rw [<-R.n];exact hi) (by rw [<-R.owns];exact h),
  fun i s s' hi h h'=>o2 i s s' (by rw [<-R.n];exact hi) (by rw [<-R.owns];exact h) h',fun i s hi h h'=>⟨o3 i s (by rw [<-R.n];exact hi) (by rw [<-R.owns];exact h) h',fun nm hn _=>?_⟩,rfl,fun id hi=>hcl id (by rw [<-R.n];exact hi),by rw [R.nx];exact Nat.le_succ _,rfl,fun _ _ h=>.inl h,fun _ _=>rfl⟩,fun m hm=>(hold m _ hm).1,rfl⟩
 .obtain ⟨h1,h2⟩:=hold nm _ h
  refine ⟨?_,[],gen,frz,ex,by rw [zJ];exact h1⟩
  rintro (h3 | ⟨_,h3⟩)
  .exact hM h3
  .omega
 .rw [R.owns] at h
  obtain ⟨_,hlt,_⟩:=R.eta i s nm h hn
  show (H.new row).get nm=w.g nm
  rw [qck hlt,R.g]
theorem qhk (ok:CfgOk X sz C) (R:RelH X sz C base st H w) {ct:ZT K} {row:O} {lp':Nat->Option LG} (hlp:∀ id,id<st.next->lp' id=w.lp id)
  (hat:∀ w',Le w w'->w'.lp=lp'->qa8 X sz w' st.next ct (some row)) :
  ∃ w',RelH X sz C base {st with cells:=(st.next,ct)::st.cells,next:=st.next+1} (H.new row) w'/\Le w w'/\w'.c st.next=H.next/\st.next<w'.n:=by
 let c':Nat->Nat:=fun id=>if id=st.next then H.next else w.c id
 let w0:=w.new H row (st.next+1) true c' w.owns w.eta (fun id=>w.cl id∨id=st.next)
 let w':={w0 with lp:=lp'}
 have hle0:Le w w0:=by
  refine Le.new R (Nat.le_succ _) (fun id hi=>zF (by omega)) (fun i _ h=>by rw [R.owns];exact h) (fun i s s' _ h h'=>?_) (fun _ _ _ _ _=>rfl) (fun id hi=>⟨fun h=>h.elim (fun h=>h) (fun h=>by omega),.inl⟩)
  rw [R.owns,h] at h'
  cases h'
  exact zN _
 have hle:Le w w':=⟨⟨hle0.n,hle0.mem,hle0.c,hle0.nu,hle0.o1,hle0.o2,hle0.o3,hle0.ce,hle0.cl,hle0.nx,hle0.b,hle0.Mu,fun id hi=>hlp id (by rw [<-R.n];exact hi)⟩,hle0.df,hle0.fl⟩
 have hc:c' st.next=H.next:=zT rfl
 have hk:=R.keeps.next
 refine ⟨w',?_,hle,?_⟩
 .refine ⟨fun n hn=>?_,R.rob,rfl,qz.symm,R.b,fun n hn=>?_,rfl,Nat.le_succ_of_le R.one,R.keeps.new _,fun id h=>?_,fun id1 id2 h1 h2 he=>?_,fun id' ps' h'=>?_,R.owns,fun i s h=>Nat.lt_succ_of_lt (R.ownn i s h),fun i s nm h hn=>?_,R.einj,R.ce,fun id b h=>?_,fun gn ps' h'=>?_⟩
  .have hn':H.next+1<=n:=by
    have:(H.new row).next=H.next+1:=qz
    omega
   show (H.new row).get n=none
   have:(H.new row).get n=H.get n:=by
    obtain ⟨t,nx,ro,gl⟩:=H
    simp only [Heap.new,Heap.get,Tree.km]
    rw [zF]
    have:nx+1<=n:=hn'
    omega
   rw [this]
   exact R.wf n (by omega)
  .show n<(H.new row).next
   rw [qz]
   rcases hn with hn | ⟨_,hn⟩
   .have:=R.Mlt n hn;omega
   .omega
  .by_cases hi:id=st.next
   .subst hi
    refine ⟨Nat.lt_succ_self _,?_,?_⟩
    .show c' st.next<(H.new row).next;rw [hc,qz];exact Nat.lt_succ_self _
    .show base.next<=c' st.next;rw [hc];exact hk
   .have h':w.cl id:=h.elim (fun h=>h) (fun h=>absurd h hi)
    obtain ⟨q1,q2,q3⟩:=R.cl id h'
    have e1:c' id=w.c id:=zF hi
    refine ⟨Nat.lt_succ_of_lt q1,?_,?_⟩
    .show c' id<(H.new row).next;rw [e1,qz];omega
    .show base.next<=c' id;rw [e1];exact q3
  .have he':c' id1=c' id2:=he
   by_cases i1:id1=st.next<;>by_cases i2:id2=st.next
   .omega
   .have:=(R.cl id2 (h2.elim (fun h=>h) (fun h=>absurd h i2))).2.1
    rw [i1,hc,show c' id2=w.c id2 from zF i2] at he'
    omega
   .have:=(R.cl id1 (h1.elim (fun h=>h) (fun h=>absurd h i1))).2.1
    rw [i2,hc,show c' id1=w.c id1 from zF i1] at he'
    omega
   .rw [show c' id1=w.c id1 from zF i1,show c' id2=w.c id2 from zF i2] at he'
    exact R.cinj id1 id2 (h1.elim (fun h=>h) (fun h=>absurd h i1)) (h2.elim (fun h=>h) (fun h=>absurd h i2)) he'
  .simp only [qa7] at h'
   by_cases hi:id'=st.next
   .subst hi
    rw [zT rfl] at h'
    cases h'
    refine ⟨.inr rfl,?_,?_⟩
    .show w.M (c' st.next)∨(true=true/\c' st.next=H.next);rw [hc];exact .inr ⟨rfl,rfl⟩
    .show qa8 X sz w' st.next _ ((H.new row).get (c' st.next))
     rw [hc,qbw]
     exact hat w' hle rfl
   .rw [zF hi] at h'
    obtain ⟨q1,q2,q5⟩:=R.cells id' ps' h'
    have e1:c' id'=w.c id':=zF hi
    refine ⟨.inl q1,?_,?_⟩
    .show w.M (c' id')∨_;rw [e1];exact .inl q2
    .show qa8 X sz w' id' _ ((H.new row).get (c' id'))
     rw [e1,qck (R.cl id' q1).2.1]
     exact q5.mono ok.len hle (by rw [R.n];exact (R.cl id' q1).1)
  .obtain ⟨q1,q2,q3⟩:=R.eta i s nm h hn
   refine ⟨q1,by show nm<(H.new row).next;rw [qz];omega,?_⟩
   rintro (h3 | ⟨_,h3⟩)
   .exact q3 h3
   .omega
  .obtain ⟨q0,q1,q2⟩:=R.known id b h
   exact ⟨q0,Nat.lt_succ_of_lt q1,q2⟩
  .obtain ⟨q0,vs',e',fl,fz,ex',q1,q2,q3⟩:=R.globs gn ps' h'
   exact ⟨q0,vs',e',fl,fz,ex',q1,q2,q3.mono ok.len hle⟩
 .exact ⟨hc,Nat.lt_succ_self _⟩
theorem qnj (ok:CfgOk X sz C) (R:RelH X sz C base st H w) {ct:ZT K} (hlp:zaf ct=true) {vs:List V} {e:TypeId} (hty:qxq ct e true) (r:qq X sz w (qnv X ct) vs) :
  ∃ w',RelH X sz C base {st with cells:=(st.next,ct)::st.cells,next:=st.next+1} (qfm H vs e) w'/\Le w w'/\w'.c st.next=H.next/\st.next<w'.n:=
 qhk ok R (lp':=w.lp) (fun _ _=>rfl) fun w' hle _=>.row hlp hty (r.mono ok.len hle)
theorem qni (ok:CfgOk X sz C) (R:RelH X sz C base st H w) {ps:List (PV K)} {vs:List V} {e:TypeId} (r:qq X sz w ps vs) :
  ∃ w',RelH X sz C base {st with cells:=(st.next,.cs (some e) ps)::st.cells,next:=st.next+1} (qfm H vs e) w'/\Le w w'/\Rep X sz w' (.cell st.next 0 ps.length) (.ptr H.next 0 0 vs.length):=by
 obtain ⟨w',R',hle,h1,h2⟩:=qnj ok R (ct:=.cs (some e) ps) rfl (e:=e) ⟨rfl,rfl⟩ r
 refine ⟨w',R',hle,?_⟩
 have:=Rep.cell (X:=X) (sz:=sz) (w:=w') (id:=st.next) (off:=0) (lim:=ps.length) h2
 rw [h1,r.1] at this
 rw [r.1]
 exact this
structure Bump (st st':StV K) (i s:Nat):Prop where
 tmps:st'.tmps=st.tmps
 n:st'.n=st.n
 cells:st'.cells=st.cells
 known:st'.known=st.known
 owns:∀ j,look st'.owns j=if j=i then some s else look st.owns j
 next:st.next<=st'.next
 lt:i<st'.next
 up:∀ g,look st.owns i=some g->g<s
 fresh:look st.owns i=none->st.next<=i
theorem qnk (ok:CfgOk X sz C) (R:RelH X sz C base st H w) {st':StV K} {i s:Nat} (B:Bump st st' i s) {row:O} {named:Bool} :
  ∃ w',RelH X sz C base st' (H.new row) w'/\Le w w'/\w'.owns i=some s/\w'.eta i=(if named then some H.next else none)/\¬ w'.M H.next/\w'.n=st'.next:=by
 let eta':Nat->Option Nat:=fun j=>if j=i then (if named then some H.next else none) else w.eta j
 let w':=w.new H row st'.next false w.c (look st'.owns) eta' w.cl
 have hle:Le w w':=by
  refine Le.new R B.next (fun _ _=>rfl) (fun j hj h=>?_) (fun j a b _ h h'=>?_) (fun j a _ h h'=>?_) (fun _ _=>.rfl)
  .rw [B.owns]
   by_cases hji:j=i
   .subst hji;have:=B.fresh h;omega
   .rw [zF hji];exact h
  .rw [B.owns] at h'
   by_cases hji:j=i
   .subst hji
    rw [zT rfl] at h'
    cases h'
    exact Nat.le_of_lt (B.up a h)
   .rw [zF hji,h] at h'
    cases h'
    exact zN _
  .rw [B.owns] at h'
   by_cases hji:j=i
   .subst hji
    rw [zT rfl] at h'
    cases h'
    have:=B.up _ h
    omega
   .exact zF hji
 have hk:=R.keeps.next
 refine ⟨w',?_,hle,by show look st'.owns i=some s;rw [B.owns,zT rfl],zT rfl,?_,rfl⟩
 .refine ⟨fun n hn=>?_,R.rob,rfl,qz.symm,R.b,fun n hn=>?_,rfl,zR R.one B.next,R.keeps.new _,fun id h=>?_,R.cinj,fun id' ps' h'=>?_,fun _=>rfl,fun j a h=>?_,fun j a nm h hn=>?_,fun j1 j2 a1 a2 nm h1 h2 e1 e2=>?_,R.ce,fun id b h=>?_,fun gn ps' h'=>?_⟩
  .have hn':H.next+1<=n:=by
    have:(H.new row).next=H.next+1:=qz
    omega
   have:(H.new row).get n=H.get n:=by
    obtain ⟨t,nx,ro,gl⟩:=H
    simp only [Heap.new,Heap.get,Tree.km]
    rw [zF]
    have:nx+1<=n:=hn'
    omega
   rw [this]
   exact R.wf n (by omega)
  .rw [qz]
   rcases hn with hn | ⟨hn,_⟩
   .have:=R.Mlt n hn;omega
   .cases hn
  .obtain ⟨q1,q2,q3⟩:=R.cl id h
   exact ⟨zL q1 B.next,by rw [qz];show w.c id<_;omega,q3⟩
  .rw [B.cells] at h'
   obtain ⟨q1,q2,q5⟩:=R.cells id' ps' h'
   refine ⟨q1,.inl q2,?_⟩
   show qa8 X sz w' id' _ ((H.new row).get (w.c id'))
   rw [qck (R.cl id' q1).2.1]
   exact q5.mono ok.len hle (by rw [R.n];exact (R.cl id' q1).1)
  .rw [B.owns] at h
   by_cases hji:j=i
   .subst hji;exact B.lt
   .rw [zF hji] at h;exact zL (R.ownn j a h) B.next
  .rw [B.owns] at h
   have hn':eta' j=some nm:=hn
   by_cases hji:j=i
   .subst hji
    simp only [eta',if_true] at hn'
    cases named with
    | false=>cases hn'
    | true=>
     simp only [if_true,zS] at hn'
     subst hn'
     refine ⟨hk,by rw [qz];exact Nat.lt_succ_self _,?_⟩
     rintro (h3 | ⟨h3,_⟩)
     .have:=R.Mlt _ h3;omega
     .cases h3
   .rw [zF hji] at h
    simp only [eta',zF hji] at hn'
    obtain ⟨q1,q2,q3⟩:=R.eta j a nm h hn'
    refine ⟨q1,by rw [qz];omega,?_⟩
    rintro (h3 | ⟨h3,_⟩)
    .exact q3 h3
    .cases h3
  .have e1':eta' j1=some nm:=e1
   have e2':eta' j2=some nm:=e2
   rw [B.owns] at h1 h2
   have key:∀ j a,j≠i->look st.owns j=some a->eta' j=some nm->nm<H.next:=by
    intro j a hj h h'
    simp only [eta',zF hj] at h'
    exact (R.eta j a nm h h').2.1
   by_cases i1:j1=i<;>by_cases i2:j2=i
   .omega
   .rw [zF i2] at h2
    have:=key j2 a2 i2 h2 e2'
    subst i1
    simp only [eta',if_true] at e1'
    cases named<;>simp at e1'
    omega
   .rw [zF i1] at h1
    have:=key j1 a1 i1 h1 e1'
    subst i2
    simp only [eta',if_true] at e2'
    cases named<;>simp at e2'
    omega
   .rw [zF i1] at h1
    rw [zF i2] at h2
    simp only [eta',zF i1] at e1'
    simp only [eta',zF i2] at e2'
    exact R.einj j1 j2 a1 a2 nm h1 h2 e1' e2'
  .rw [B.known] at h
   obtain ⟨q0,q1,q2⟩:=R.known id b h
   exact ⟨q0,zL q1 B.next,q2⟩
  .obtain ⟨q0,vs',e',fl,fz,ex',q1,q2,q3⟩:=R.globs gn ps' h'
   exact ⟨q0,vs',e',fl,fz,ex',q1,q2,q3.mono ok.len hle⟩
 .rintro (h3 | ⟨h3,_⟩)
  .have:=R.Mlt _ h3;omega
  .cases h3
theorem q2f (ok:CfgOk X sz C) (R:RelH X sz C base st H w) :
  ∃ w',RelH X sz C base {st with next:=st.next+1} (H.new .dfr) w'/\Le w w'/\w'.g H.next=some .dfr/\w.g H.next=none:=by
 let w':=w.new H .dfr (st.next+1) false w.c w.owns w.eta w.cl
 have hle:Le w w':=by
  refine Le.new R (Nat.le_succ _) (fun _ _=>rfl) (fun j hj h=>by rw [R.owns];exact h) (fun j a b _ h h'=>?_) (fun j a _ h h'=>rfl) (fun _ _=>.rfl)
  rw [R.owns,h] at h'
  cases h'
  exact zN _
 have hk:=R.keeps.next
 refine ⟨w',?_,hle,qbw,by rw [R.g];exact R.wf _ (zN _)⟩
 refine ⟨fun n hn=>?_,R.rob,rfl,qz.symm,R.b,fun n hn=>?_,rfl,Nat.le_succ_of_le R.one,R.keeps.new _,fun id h=>?_,R.cinj,fun id' ps' h'=>?_,R.owns,fun j a h=>Nat.lt_succ_of_lt (R.ownn j a h),fun j a nm h hn=>?_,R.einj,R.ce,fun id b h=>?_,fun gn ps' h'=>?_⟩
 .have hn':H.next+1<=n:=by
   have:(H.new .dfr).next=H.next+1:=qz
   omega
  have:(H.new .dfr).get n=H.get n:=by
   obtain ⟨t,nx,ro,gl⟩:=H
   simp only [Heap.new,Heap.get,Tree.km]
   rw [zF]
   have:nx+1<=n:=hn'
   omega
  rw [this]
  exact R.wf n (by omega)
 .rw [qz]
  rcases hn with hn | ⟨hn,_⟩
  .have:=R.Mlt n hn;omega
  .cases hn
 .obtain ⟨q1,q2,q3⟩:=R.cl id h
  exact ⟨Nat.lt_succ_of_lt q1,by rw [qz];show w.c id<_;omega,q3⟩
 .obtain ⟨q1,q2,q5⟩:=R.cells id' ps' h'
  refine ⟨q1,.inl q2,?_⟩
  show qa8 X sz w' id' _ ((H.new .dfr).get (w.c id'))
  rw [qck (R.cl id' q1).2.1]
  exact q5.mono ok.len hle (by rw [R.n];exact (R.cl id' q1).1)
 .obtain ⟨q1,q2,q3⟩:=R.eta j a nm h hn
  refine ⟨q1,by rw [qz];omega,?_⟩
  rintro (h3 | ⟨h3,_⟩)
  .exact q3 h3
  .cases h3
 .obtain ⟨q0,q1,q2⟩:=R.known id b h
  exact ⟨q0,Nat.lt_succ_of_lt q1,q2⟩
 .obtain ⟨q0,vs',e',fl,fz,ex',q1,q2,q3⟩:=R.globs gn ps' h'
  exact ⟨q0,vs',e',fl,fz,ex',q1,q2,q3.mono ok.len hle⟩
end
end Go.E3
/- E3: APPEND, LISTS WRITTEN OUT against E2's. -/
namespace Go.E3
open Go Go.E2
variable {K:Nat->Type}
section
variable {X:Codecs K} {sz:Nat->Nat} {C:ZC K} {base H:Heap} {st:StV K} {fr:Fr} {w:Wd}
variable {tbl:Tbl K} {inv:Nat->List (NV K)->Prop} {meas:Nat->List (NV K)->Nat}
theorem qhh (hx:∀ c x,(X.cells c x).length=sz c) {c:Nat} {l:List (K c)} {own:Option (Nat×Nat)} {nm gn off:Nat} {cap:Option Nat} {cs fl:List V} {e:TypeId} {gen floor frz:Nat} {ex:Bool}
  (hg:w.g nm=some (.row cs e gen floor frz ex)) (hf:floor<=gn) (hM:¬ w.M nm) (hz:0<sz c) (hcap:∀ k,cap=some k->l.length<=k) (hr:qq X sz w (l.flatMap (X.cells c)) fl)
  (hb:off+fl.length<=cs.length) (hfl:∀ m,m<fl.length->cs.getD (off+m) jb=fl.getD m jb) (ho:qjz w sz c own (.slice nm gn off l.length (sz c) cap)) :
  Rep X sz w (.list c l own) (.slice nm gn off l.length (sz c) cap):=by
 have hlen:fl.length=l.length * sz c:=by rw [<-hr.1];exact qh8 hx
 refine .list hg hf hM rfl (by omega) ⟨hz,.inl rfl⟩ hcap (fun i hi j p hp=>?_) ho
 have hget:=qvx hx hi hp
 have h1:=hr.2 _ p hget
 have hlt:i * sz c+j<fl.length:=by rw [<-hr.1];exact (List.getElem?_eq_some_iff.1 hget).1
 rw [Nat.add_assoc,hfl _ hlt]
 exact h1
theorem qeu {α:Type}:∀ {l:List (Nat×α)} {n j:Nat},look (qa0 l n) j=if j=n then none else look l j
 | [],n,j=>by simp [qa0,look]
 | (i,b)::l,n,j=>by
  simp only [qa0,cond_eq_ite,Nat.beq_eq]
  by_cases hi:i=n
  .subst hi
   rw [zT rfl,qeu]
   by_cases hj:j=i
   .rw [zT hj,zT hj]
   .rw [zF hj,zF hj,qa7,zF hj]
  .rw [zF hi,qa7,qa7]
   by_cases hj:j=i
   .subst hj;rw [zT rfl,zF hi,zT rfl]
   .rw [zF hj,zF hj,qeu]
theorem qpk (ok:CfgOk X sz C) (R:RelH X sz C base st H w) {id c:Nat} {l:List (K c)} (hl:look st.cells id=some (.ml c l)) (hz:0<sz c) :
  ∃ w',RelH X sz C base {st with cells:=qa0 st.cells id} H w'/\Le w w'/\w'.n=w.n/\w'.g=w.g/\(∀ own,qjz w' sz c own (.slice (w.c id) 0 0 l.length (sz c) (some l.length))->Rep X sz w' (.list c l own) (.slice (w.c id) 0 0 l.length (sz c) (some l.length))):=by
 obtain ⟨hcl,hM,vs,e,ex,hg,_,hr⟩:=R.cells id _ hl
 obtain ⟨hid,hnext,hbase⟩:=R.cl id hcl
 have hr:qq X sz w (l.flatMap (X.cells c)) vs:=hr
 let w':Wd:={w with M:=fun n=>w.M n/\n≠w.c id}
 have hle:Le w w':=
  ⟨⟨zN _,fun nm cs e gen floor frz ex h hM'=>⟨fun hh=>hM' hh.1,[],gen,frz,ex,by rw [zJ];exact h⟩,fun _ _=>rfl,fun _ _=>rfl,fun _ _ h=>h,
   fun _ _ _ _ h h'=>(by have h':w.owns _=_:=h';rw [h] at h';cases h';exact zN _),fun _ _ _ _ _=>⟨rfl,fun _ _ _=>rfl⟩,rfl,fun _ _=>.rfl,zN _,rfl,fun n hn hm=>⟨hm,fun he=>by subst he;rw [R.b] at hn;omega⟩,fun _ _=>rfl⟩,fun _ h=>h,rfl⟩
 refine ⟨w',⟨R.wf,R.rob,R.g,R.nx,R.b,fun n hn=>R.Mlt n hn.1,R.n,R.one,R.keeps,R.cl,R.cinj,fun id' ct' h'=>?_,R.owns,R.ownn,fun i s nm h hn=>?_,R.einj,R.ce,R.known,fun gn ps' h'=>?_⟩,hle,rfl,rfl,fun own ho=>?_⟩
 .simp only [qeu] at h'
  by_cases hi:id'=id
  .rw [zT hi] at h';cases h'
  .rw [zF hi] at h'
   obtain ⟨q1,q2,q5⟩:=R.cells id' ct' h'
   exact ⟨q1,⟨q2,fun he=>hi (R.cinj id' id q1 hcl he)⟩,q5.mono ok.len hle (by rw [R.n];exact (R.cl id' q1).1)⟩
 .obtain ⟨q1,q2,q3⟩:=R.eta i s nm h hn
  exact ⟨q1,q2,fun hh=>q3 hh.1⟩
 .obtain ⟨q0,vs',e',fl,fz,ex',q1,q2,q3⟩:=R.globs gn ps' h'
  exact ⟨q0,vs',e',fl,fz,ex',q1,q2,q3.mono ok.len hle⟩
 .refine qhh ok.len (w:=w') (by show w.g _=_;rw [R.g];exact hg) (zN _) (fun hh=>hh.2 rfl) hz (fun k hk=>by cases hk;exact zN _) (hr.mono ok.len hle) (by omega) (fun m _=>by rw [Nat.zero_add]) ho
theorem qoj (ok:CfgOk X sz C) (R:RelH X sz C base st H w) {st':StV K} {i s:Nat} (B:Bump st st' i s) {named:Bool} (hn:named=true->∃ g,look st.owns i=some g) :
  ∃ w',RelH X sz C base st' H w'/\Le w w'/\w'.owns i=some s/\w'.eta i=(if named then w.eta i else none)/\w'.n=st'.next/\w'.g=w.g/\w'.M=w.M/\w'.ce=w.ce:=by
 let eta':Nat->Option Nat:=fun j=>if j=i then (if named then w.eta i else none) else w.eta j
 let w':Wd:={w with n:=st'.next,owns:=look st'.owns,eta:=eta'}
 have hle:Le w w':=by
  refine ⟨⟨by rw [R.n];exact B.next,fun nm cs e gen floor frz ex h hM=>⟨hM,[],gen,frz,ex,by rw [zJ];exact h⟩,fun _ _=>rfl,fun _ _=>rfl,fun j hj h=>?_,fun j a b hj h h'=>?_,fun j a hj h h'=>?_,rfl,fun _ _=>.rfl,zN _,rfl,fun _ _ h=>h,fun _ _=>rfl⟩,fun _ h=>h,rfl⟩
  .rw [R.owns] at h
   show look st'.owns j=none
   rw [B.owns]
   by_cases hji:j=i
   .subst hji
    have:=B.fresh h
    rw [R.n] at hj
    omega
   .rw [zF hji];exact h
  .rw [R.owns] at h
   have h'':look st'.owns j=some b:=h'
   rw [B.owns] at h''
   by_cases hji:j=i
   .subst hji
    rw [zT rfl] at h''
    cases h''
    exact Nat.le_of_lt (B.up a h)
   .rw [zF hji,h] at h''
    cases h''
    exact zN _
  .rw [R.owns] at h
   have h'':look st'.owns j=some a:=h'
   rw [B.owns] at h''
   by_cases hji:j=i
   .subst hji
    rw [zT rfl] at h''
    cases h''
    have:=B.up _ h
    omega
   .exact ⟨zF hji,fun _ _ _=>rfl⟩
 have hev:∀ j a nm,look st'.owns j=some a->eta' j=some nm->∃ a',look st.owns j=some a'/\w.eta j=some nm:=by
  intro j a nm h h'
  rw [B.owns] at h
  by_cases hji:j=i
  .subst hji
   simp only [eta',if_true] at h'
   cases named with
   | false=>simp at h'
   | true=>
    obtain ⟨g,hg⟩:=hn rfl
    exact ⟨g,hg,by simpa using h'⟩
  .rw [zF hji] at h
   simp only [eta',zF hji] at h'
   exact ⟨a,h,h'⟩
 refine ⟨w',⟨R.wf,R.rob,R.g,R.nx,R.b,R.Mlt,rfl,zR R.one B.next,R.keeps,fun id h=>?_,R.cinj,fun id' ps' h'=>?_,fun _=>rfl,fun j a h=>?_,fun j a nm h hn'=>?_,fun j1 j2 a1 a2 nm h1 h2 e1 e2=>?_,R.ce,fun id b h=>?_,fun gn ps' h'=>?_⟩,hle,by show look st'.owns i=some s;rw [B.owns,zT rfl],zT rfl,rfl,rfl,rfl,rfl⟩
 .obtain ⟨q1,q2,q3⟩:=R.cl id h
  exact ⟨zL q1 B.next,q2,q3⟩
 .rw [B.cells] at h'
  obtain ⟨q1,q2,q5⟩:=R.cells id' ps' h'
  exact ⟨q1,q2,q5.mono ok.len hle (by rw [R.n];exact (R.cl id' q1).1)⟩
 .rw [B.owns] at h
  by_cases hji:j=i
  .subst hji;exact B.lt
  .rw [zF hji] at h;exact zL (R.ownn j a h) B.next
 .obtain ⟨a',h1,h2⟩:=hev j a nm h hn'
  exact R.eta j a' nm h1 h2
 .obtain ⟨b1,g1,g2⟩:=hev j1 a1 nm h1 e1
  obtain ⟨b2,g3,g4⟩:=hev j2 a2 nm h2 e2
  exact R.einj j1 j2 b1 b2 nm g1 g3 g2 g4
 .rw [B.known] at h
  obtain ⟨q0,q1,q2⟩:=R.known id b h
  exact ⟨q0,zL q1 B.next,q2⟩
 .obtain ⟨q0,vs',e',fl,fz,ex',q1,q2,q3⟩:=R.globs gn ps' h'
  exact ⟨q0,vs',e',fl,fz,ex',q1,q2,q3.mono ok.len hle⟩
theorem q74 (ok:CfgOk X sz C) (R:RelH X sz C base st H w) {st':StV K} {i s g nm:Nat} (B:Bump st st' i s) (ho:look st.owns i=some g) (he:w.eta i=some nm) {cs cs2:List V} {e:TypeId} {gen floor frz:Nat} {ex ex':Bool}
  (hg:H.get nm=some (.row cs e gen floor frz ex)) :
  ∃ w',RelH X sz C base st' (H.put nm (.row (cs++cs2) e (gen+1) floor frz ex')) w'/\Le w w'/\w'.owns i=some s/\w'.eta i=some nm/\w'.n=st'.next/\¬ w'.M nm/\w'.ce=w.ce:=by
 obtain ⟨hbase,hnext,hnM⟩:=R.eta i g nm ho he
 let H':=H.put nm (.row (cs++cs2) e (gen+1) floor frz ex')
 let w':Wd:={w with g:=H'.get,n:=st'.next,owns:=look st'.owns}
 have hget:∀ m,m≠nm->H'.get m=H.get m:=fun m hm=>qbf hm
 have hself:H'.get nm=some (.row (cs++cs2) e (gen+1) floor frz ex'):=qac
 have hle:Le w w':=by
  refine ⟨⟨by rw [R.n];exact B.next,fun m cs' e' gen' floor' frz' ex'' h hM=>⟨hM,?_⟩,fun _ _=>rfl,fun _ _=>rfl,fun j hj h=>?_,fun j a b hj h h'=>?_,fun j a hj h h'=>?_,rfl,fun _ _=>.rfl,zN _,rfl,fun _ _ h=>h,fun _ _=>rfl⟩,fun m hm=>?_,rfl⟩
  .by_cases hm:m=nm
   .subst hm
    rw [R.g,hg] at h
    cases h
    exact ⟨cs2,_,_,_,hself⟩
   .refine ⟨[],gen',frz',ex'',?_⟩
    rw [zJ]
    show H'.get m=_
    rw [hget m hm,<-R.g]
    exact h
  .rw [R.owns] at h
   show look st'.owns j=none
   rw [B.owns]
   by_cases hji:j=i
   .subst hji;rw [h] at ho;cases ho
   .rw [zF hji];exact h
  .rw [R.owns] at h
   have h'':look st'.owns j=some b:=h'
   rw [B.owns] at h''
   by_cases hji:j=i
   .subst hji
    rw [zT rfl] at h''
    cases h''
    exact Nat.le_of_lt (B.up a h)
   .rw [zF hji,h] at h''
    cases h''
    exact zN _
  .rw [R.owns] at h
   have h'':look st'.owns j=some a:=h'
   rw [B.owns] at h''
   by_cases hji:j=i
   .subst hji
    rw [zT rfl] at h''
    cases h''
    have:=B.up _ h
    omega
   .refine ⟨rfl,fun m hm _=>?_⟩
    show H'.get m=w.g m
    rw [hget m (by intro hmn;subst hmn;exact hji (R.einj j i a g m h ho hm he)),R.g]
  .show H'.get m=_
   rw [R.g] at hm
   rw [hget m (by intro hmn;subst hmn;rw [hg] at hm;cases hm)]
   exact hm
 have hcn:∀ id ps,look st.cells id=some ps->w.c id≠nm:=by
  intro id ps h hc
  have:=(R.cells id ps h).2.1
  rw [hc] at this
  exact hnM this
 have hev:∀ j a,look st'.owns j=some a->∃ a',look st.owns j=some a':=by
  intro j a h
  rw [B.owns] at h
  by_cases hji:j=i
  .subst hji;exact ⟨g,ho⟩
  .rw [zF hji] at h;exact ⟨a,h⟩
 refine ⟨w',⟨fun n hn=>?_,R.rob,rfl,R.nx,R.b,R.Mlt,rfl,zR R.one B.next,R.keeps.put hbase _,fun id h=>?_,R.cinj,fun id' ps' h'=>?_,fun _=>rfl,fun j a h=>?_,fun j a m h hn'=>?_,fun j1 j2 a1 a2 m h1 h2 e1 e2=>?_,R.ce,fun id b h=>?_,fun gn ps' h'=>?_⟩,hle,by show look st'.owns i=some s;rw [B.owns,zT rfl],he,rfl,hnM,rfl⟩
 .have hn':H.next<=n:=hn
  rw [hget n (by omega)]
  exact R.wf n hn'
 .obtain ⟨q1,q2,q3⟩:=R.cl id h
  exact ⟨zL q1 B.next,q2,q3⟩
 .rw [B.cells] at h'
  obtain ⟨q1,q2,q5⟩:=R.cells id' ps' h'
  refine ⟨q1,q2,?_⟩
  show qa8 X sz w' id' _ (H'.get (w.c id'))
  rw [hget _ (hcn id' ps' h')]
  exact q5.mono ok.len hle (by rw [R.n];exact (R.cl id' q1).1)
 .rw [B.owns] at h
  by_cases hji:j=i
  .subst hji;exact B.lt
  .rw [zF hji] at h;exact zL (R.ownn j a h) B.next
 .obtain ⟨a',h1⟩:=hev j a h
  exact R.eta j a' m h1 hn'
 .obtain ⟨b1,g1⟩:=hev j1 a1 h1
  obtain ⟨b2,g2⟩:=hev j2 a2 h2
  exact R.einj j1 j2 b1 b2 m g1 g2 e1 e2
 .rw [B.known] at h
  obtain ⟨q0,q1,q2⟩:=R.known id b h
  exact ⟨q0,zL q1 B.next,q2⟩
 .obtain ⟨q0,vs',e',fl,fz,ex'',q1,q2,q3⟩:=R.globs gn ps' h'
  exact ⟨q0,vs',e',fl,fz,ex'',q1,q2,q3.mono ok.len hle⟩
theorem q8w (ok:CfgOk X sz C) (R:RelH X sz C base st H w) {i g nm:Nat} (ho:look st.owns i=some g) (he:w.eta i=some nm) {cs:List V} {e:TypeId} {gen floor frz:Nat} {ex:Bool} (frz':Nat)
  (hg:H.get nm=some (.row cs e gen floor frz ex)) :
  ∃ w',RelH X sz C base {st with owns:=qa0 st.owns i} (H.put nm (.row cs e gen floor frz' ex)) w'/\Le w w':=by
 obtain ⟨hbase,hnext,hnM⟩:=R.eta i g nm ho he
 let H':=H.put nm (.row cs e gen floor frz' ex)
 let w':Wd:={w with g:=H'.get,owns:=look (qa0 st.owns i)}
 have hget:∀ m,m≠nm->H'.get m=H.get m:=fun m hm=>qbf hm
 have hself:H'.get nm=some (.row cs e gen floor frz' ex):=qac
 have hown:∀ j a,look (qa0 st.owns i) j=some a->j≠i/\look st.owns j=some a:=by
  intro j a h
  rw [qeu] at h
  split at h
  .cases h
  .exact ⟨by assumption,h⟩
 have hle:Le w w':=by
  refine ⟨⟨zN _,fun m cs' e' gen' floor' frz' ex'' h hM=>⟨hM,?_⟩,fun _ _=>rfl,fun _ _=>rfl,fun j hj h=>?_,fun j a b hj h h'=>?_,fun j a hj h h'=>?_,rfl,fun _ _=>.rfl,zN _,rfl,fun _ _ h=>h,fun _ _=>rfl⟩,fun m hm=>?_,rfl⟩
  .by_cases hm:m=nm
   .subst hm
    rw [R.g,hg] at h
    cases h
    exact ⟨[],_,_,_,by rw [zJ];exact hself⟩
   .refine ⟨[],gen',frz',ex'',?_⟩
    rw [zJ]
    show H'.get m=_
    rw [hget m hm,<-R.g]
    exact h
  .rw [R.owns] at h
   show look (qa0 st.owns i) j=none
   cases hq:look (qa0 st.owns i) j with
   | none=>rfl
   | some a=>rw [(hown j a hq).2] at h;cases h
  .rw [R.owns] at h
   have:=(hown j b h').2
   rw [h] at this
   cases this
   exact zN _
  .rw [R.owns] at h
   obtain ⟨hji,_⟩:=hown j a h'
   refine ⟨rfl,fun m hm _=>?_⟩
   show H'.get m=w.g m
   rw [hget m (by intro hmn;subst hmn;exact hji (R.einj j i a g m h ho hm he)),R.g]
  .show H'.get m=_
   rw [R.g] at hm
   rw [hget m (by intro hmn;subst hmn;rw [hg] at hm;cases hm)]
   exact hm
 have hcn:∀ id ps,look st.cells id=some ps->w.c id≠nm:=by
  intro id ps h hc
  have:=(R.cells id ps h).2.1
  rw [hc] at this
  exact hnM this
 refine ⟨w',⟨fun n hn=>?_,R.rob,rfl,R.nx,R.b,R.Mlt,R.n,R.one,R.keeps.put hbase _,R.cl,R.cinj,fun id' ps' h'=>?_,fun _=>rfl,fun j a h=>R.ownn j a (hown j a h).2,fun j a m h hn'=>R.eta j a m (hown j a h).2 hn',
  fun j1 j2 a1 a2 m h1 h2 e1 e2=>R.einj j1 j2 a1 a2 m (hown j1 a1 h1).2 (hown j2 a2 h2).2 e1 e2,R.ce,R.known,fun gn ps' h'=>?_⟩,hle⟩
 .have hn':H.next<=n:=hn
  rw [hget n (by omega)]
  exact R.wf n hn'
 .obtain ⟨q1,q2,q5⟩:=R.cells id' ps' h'
  refine ⟨q1,q2,?_⟩
  show qa8 X sz w' id' _ (H'.get (w.c id'))
  rw [hget _ (hcn id' ps' h')]
  exact q5.mono ok.len hle (by rw [R.n];exact (R.cl id' q1).1)
 .obtain ⟨q0,vs',e',fl,fz,ex'',q1,q2,q3⟩:=R.globs gn ps' h'
  exact ⟨q0,vs',e',fl,fz,ex'',q1,q2,q3.mono ok.len hle⟩
theorem q7v (ok:CfgOk X sz C) (R:RelH X sz C base st H w) (i:Nat):∃ w',RelH X sz C base {st with owns:=qa0 st.owns i} H w'/\Le w w':=by
 have hown:∀ j a,look (qa0 st.owns i) j=some a->look st.owns j=some a:=by
  intro j a h
  rw [qeu] at h
  split at h
  .cases h
  .exact h
 have hle:Le w {w with owns:=look (qa0 st.owns i)}:=by
  refine ⟨⟨zN _,fun m cs' e' gen' floor' frz' ex'' h hM=>⟨hM,[],gen',frz',ex'',by rw [zJ];exact h⟩,fun _ _=>rfl,fun _ _=>rfl,fun j hj h=>?_,fun j a b hj h h'=>?_,fun j a hj h h'=>⟨rfl,fun _ _ _=>rfl⟩,rfl,fun _ _=>.rfl,zN _,rfl,fun _ _ h=>h,fun _ _=>rfl⟩,fun _ h=>h,rfl⟩
  .rw [R.owns] at h
   show look (qa0 st.owns i) j=none
   cases hq:look (qa0 st.owns i) j with
   | none=>rfl
   | some a=>rw [hown j a hq] at h;cases h
  .rw [R.owns] at h
   have:=hown j b h'
   rw [h] at this
   cases this
   exact zN _
 refine ⟨{w with owns:=look (qa0 st.owns i)},⟨R.wf,R.rob,R.g,R.nx,R.b,R.Mlt,R.n,R.one,R.keeps,R.cl,R.cinj,fun id' ps' h'=>?_,fun _=>rfl,fun j a h=>R.ownn j a (hown j a h),fun j a m h hn'=>R.eta j a m (hown j a h) hn',
  fun j1 j2 a1 a2 m h1 h2 e1 e2=>R.einj j1 j2 a1 a2 m (hown j1 a1 h1) (hown j2 a2 h2) e1 e2,R.ce,R.known,fun gn ps' h'=>?_⟩,hle⟩
 .obtain ⟨q1,q2,q5⟩:=R.cells id' ps' h'
  exact ⟨q1,q2,q5.mono ok.len hle (by rw [R.n];exact (R.cl id' q1).1)⟩
 .obtain ⟨q0,vs',e',fl,fz,ex'',q1,q2,q3⟩:=R.globs gn ps' h'
  exact ⟨q0,vs',e',fl,fz,ex'',q1,q2,q3.mono ok.len hle⟩
theorem qk6 {c:Nat} {s:PV K} {x:List (K c)} {k:PV K->StV K->Prop} (R:RelH X sz C base st H w) (h:qoz (qt X tbl inv meas) c s x st k) :
  ∃ l i g st',asL (qt X tbl inv meas) c s=some l/\l.length+x.length<=1000000000/\k (.list c (l++x) (some (i,g))) st'/\Bump st st' i g/\
   ((s=.nils/\look st.owns i=none)∨∃ c' l' g0,s=.list c' l' (some (i,g0))/\look st.owns i=some g0/\g=g0+2):=by
 unfold qoz at h
 cases hown:qdf st s with
 | false=>rw [hown] at h;exact absurd h id
 | true=>
  rw [hown] at h
  simp only [Bool.not_true,zQ] at h
  split at h
  .exact absurd h id
  .rename_i l hl
   split at h
   .rename_i c' l' i g0
    have hs:look st.owns i=some g0:=by
     simp only [qdf] at hown
     split at hown
     .rename_i s' hs
      rw [hs,zE hown]
     .cases hown
    refine ⟨l,i,g0+2,_,hl,h.1,h.2,⟨rfl,rfl,rfl,rfl,fun j=>qc5,zN _,R.ownn i g0 hs,fun g hg=>?_,fun hg=>?_⟩,.inr ⟨c',l',g0,rfl,hs,rfl⟩⟩
    .rw [hs] at hg;cases hg;omega
    .rw [hs] at hg;cases hg
   .rename_i hno
    have hs:s=.nils:=by
     cases s with
     | nils=>rfl
     | list c' l' own=>
      cases own with
      | none=>simp [qdf] at hown
      | some x=>exact absurd rfl (hno _ _ _ _)
     | _=>simp [qdf] at hown
    have hnone:look st.owns st.next=none:=by
     cases hl:look st.owns st.next with
     | none=>rfl
     | some g=>have:=R.ownn _ _ hl;omega
    exact ⟨l,st.next,1,_,hl,h.1,h.2,⟨rfl,rfl,rfl,rfl,fun j=>qa7,Nat.le_succ _,Nat.lt_succ_self _,fun g hg=>(by rw [hnone] at hg;cases hg),fun _=>zN _⟩,.inl ⟨hs,hnone⟩⟩
theorem qdr (ok:CfgOk X sz C) (R:RelH X sz C base st H w) {c:Nat} {e:TypeId} {ei:TI} (hc:C.codec e=some c) (hei:C.E.types e=some ei) (hby:ei.bytes<=1024) {s:PV K} {vs vx:V} {x:List (K c)} {items:List V}
  {k:PV K->StV K->Prop} (rs:Rep X sz w s vs) (hel:kp H ei.size vx=some (x.length,items)) (hit:qq X sz w (x.flatMap (X.cells c)) items) (h:qoz (qt X tbl inv meas) c s x st k) :
  ∃ p st' v H' w',k p st'/\st'.tmps=st.tmps/\st'.n=st.n/\qcn H e ei.size ei.bytes vs vx=some (v,H')/\RelH X sz C base st' H' w'/\Le w w'/\Rep X sz w' p v:=by
 obtain ⟨l,i,g,st',hl,hshort,hk,B,hi⟩:=qk6 R h
 have hsz:=ok.size e c ei hc hei
 have hz:=ok.pos e c hc
 have rl:=qc3 rs hl
 have hilen:items.length=x.length * sz c:=by rw [<-hit.1];exact qh8 ok.len
 have hx0:Nat.beq x.length 0=true->x=[]:=fun h=>List.eq_nil_of_length_eq_zero (zE h)
 have room1:∀ m,m<=1000000000->(Nat.ble (m * ei.bytes) room&&Nat.ble m room)=true:=by
  intro m hm
  simp only [zA,Nat.ble_eq,room]
  have:m * ei.bytes<=1000000000 * 1024:=Nat.mul_le_mul hm hby
  exact ⟨by omega,by omega⟩
 have fresh:∀ (fl:List V),Nat.beq x.length 0=false->qq X sz w ((l++x).flatMap (X.cells c)) fl->∃ p st' v H' w',k p st'/\st'.tmps=st.tmps/\st'.n=st.n/\(v,H')=(V.slice H.next 0 0 (l.length+x.length) (sz c) none,H.new (.row fl e 0 0 0 false))/\RelH X sz C base st' H' w'/\Le w w'/\Rep X sz w' p v:=by
  intro fl hxne hfl
  have hxp:0<x.length:=by
   cases hq:x.length with
   | zero=>rw [hq] at hxne;cases hxne
   | succ n=>omega
  obtain ⟨w',R',hle,ow,et,hM,hn⟩:=qnk (named:=true) ok R B (row:=.row fl e 0 0 0 false)
  refine ⟨_,_,_,_,w',hk,B.tmps,B.n,rfl,R',hle,?_⟩
  have hg:w'.g H.next=some (.row fl e 0 0 0 false):=by rw [R'.g];exact qbw
  have hlen:(l++x).length=l.length+x.length:=List.length_append
  rw [<-hlen]
  refine qhh ok.len hg (zN _) hM hz (fun k hk=>(by cases hk)) (hfl.mono ok.len hle) (by omega) (fun m _=>by rw [Nat.zero_add]) ⟨by rw [hn];exact B.lt,fun cur hc'=>(by rw [ow] at hc';cases hc';exact zN _),fun _=>.inr ⟨rfl,et,fl,e,0,0,false,hg,?_,Nat.zero_le _,?_⟩,fun _=>⟨rfl,rfl,by rw [hlen];omega⟩⟩
  .rw [Nat.zero_add,<-hfl.1];exact (qh8 ok.len).symm
  .rw [R'.ce];exact hc
 rcases ji rl with ⟨rfl,rfl⟩ | ⟨nm,gn,off,z,cap,cs,e',gen,floor,frz,ex,rfl,hg,hf,hM,hlen,hzz,hcap,hcell,_⟩
 .
  cases hx:Nat.beq x.length 0 with
  | true=>
   have hxe:=hx0 hx
   subst hxe
   obtain ⟨w',R',hle,ow,et,hn,_,_,_⟩:=qoj (named:=false) ok R B (fun h=>by cases h)
   refine ⟨_,_,.nils,H,w',hk,B.tmps,B.n,?_,R',hle,?_⟩
   .simp only [qcn,V.qc0,qbt,hel,zB,hx,zO]
   .rw [zJ]
    exact .nlist ⟨by rw [hn];exact B.lt,fun cur hc'=>(by rw [ow] at hc';cases hc';exact zN _),fun _=>trivial,fun _=>trivial⟩
  | false=>
   obtain ⟨p,st'',v,H',w',h1,h2,h3,h4,h5,h6,h7⟩:=fresh items hx (by rw [List.nil_append];exact hit)
   cases h4
   refine ⟨p,st'',_,_,w',h1,h2,h3,?_,h5,h6,h7⟩
   have hr:=room1 x.length (by omega)
   rw [hsz] at hel
   simp only [qcn,V.qc0,qbt,hsz,hel,zB,hx,zQ,hr,zO,List.length_nil,Nat.zero_add]
 .have hb1:Nat.beq ei.size (sz c)=true:=by rw [hsz];exact Nat.beq_refl _
  have hrz2:V.qc0 (sz c) (.slice nm gn off l.length z cap)=.slice nm gn off l.length (sz c) cap:=qmx hzz
  have hrz:V.qc0 ei.size (.slice nm gn off l.length z cap)=.slice nm gn off l.length (sz c) cap:=by rw [hsz];exact hrz2
  have hown:∃ c' l' g0,s=.list c' l' (some (i,g0))/\look st.owns i=some g0/\g=g0+2:=by
   rcases hi with ⟨rfl,_⟩ | hi
   .cases rs
   .exact hi
  obtain ⟨c',l',g0,rfl,hlo,hgg0⟩:=hown
  have hcc:c'=c:=by
   unfold asL at hl
   simp only at hl
   split at hl
   .assumption
   .cases hl
  subst hcc
  have hnb:g % 2=1->NB (.slice nm gn off l.length z cap):=by
   intro hodd
   rcases ji rs with ⟨_,hh⟩ | ⟨nm',gn',off',z',cap',cs',e2,gen',floor',frz',ex',hh,_,_,_,_,_,_,_,ho⟩
   .cases hh
   .rw [hh]
    exact ho.2.2.2 (by omega)
  have hclaim:qs7 w sz i c' (.slice nm gn off l.length z cap):=by
   rcases ji rs with ⟨_,hh⟩ | ⟨nm',gn',off',z',cap',cs',e2,gen',floor',frz',ex',hh,_,_,_,_,_,_,_,ho⟩
   .cases hh
   .rw [hh]
    exact ho.2.2.1 (by rw [R.owns];exact hlo)
  cases hx:Nat.beq x.length 0 with
  | true=>
   have hxe:=hx0 hx
   subst hxe
   obtain ⟨w',R',hle,ow,et,hn,hgg,hMM,hce⟩:=qoj (named:=true) ok R B (fun _=>⟨g0,hlo⟩)
   refine ⟨_,_,.slice nm gn off l.length (sz c') cap,H,w',hk,B.tmps,B.n,?_,R',hle,?_⟩
   .simp only [qcn,hrz,qbt,hel,zB,hb1,Bool.not_true,zQ,hx,zO]
   .rw [zJ]
    refine .list (by rw [hgg];exact hg) hf (by rw [hMM];exact hM) rfl hlen ⟨hz,.inl rfl⟩ hcap (fun i' hi' j p hp=>(hcell i' hi' j p hp).mono ok.len hle) ⟨by rw [hn];exact B.lt,fun cur hc'=>(by rw [ow] at hc';cases hc';exact zN _),fun _=>?_,hnb⟩
    simp only [qs7] at hclaim ⊢
    rw [et,hgg,hce]
    exact hclaim
  | false=>
   have hr:=room1 (l.length+x.length) hshort
   have hone:items.all V.j7=true:=hit.q5l (zgc ok)
   rw [R.g] at hg
   obtain ⟨old,hold1,hold2⟩:=qgq ok.len R.g rl hz
   rw [<-qr8,hrz2] at hold1
   rcases hclaim with hcap' | ⟨hcap',het,cs',e2,floor',frz',ex',hg',htop,hfrz,hce⟩
   .subst hcap'
    have hle':Nat.ble (l.length+x.length) l.length=false:=by
     rw [<-Bool.not_eq_true,Nat.ble_eq]
     have:x.length≠0:=by intro h0;rw [h0] at hx;simp at hx
     omega
    obtain ⟨p,st'',v,H',w',h1,h2,h3,h4,h5,h6,h7⟩:=fresh (old++items) hx (by rw [List.flatMap_append];exact hold2.append hit)
    cases h4
    refine ⟨p,st'',_,_,w',h1,h2,h3,?_,h5,h6,h7⟩
    have hb2:Nat.beq (sz c') (sz c')=true:=Nat.beq_refl _
    rw [hsz] at hel
    simp only [qcn,hsz,hrz2,qbt,hel,zB,hb2,Bool.not_true,zQ,hx,hr,hone,hg,hle',hold1,zH]
   .subst hcap'
    rw [R.g,hg] at hg'
    cases hg'
    have hee:e'=e:=ok.inj e' e c' (by rw [<-R.ce];exact hce) hc
    subst hee
    obtain ⟨hbase,hnext,hnM⟩:=R.eta i g0 nm hlo het
    have hro:H.ro<=nm:=by rw [R.keeps.ro];exact zR R.rob.1 hbase
    have hchk:(Nat.beq gn gn&&Nat.beq (off+l.length * ei.size) cs.length&&Nat.ble frz cs.length&&Nat.ble floor gn&&!Nat.beq ei.size 0&&Nat.beq e' e')=true:=by
     simp only [zA,Nat.ble_eq,Nat.beq_refl,hsz]
     refine ⟨⟨⟨⟨⟨trivial,?_⟩,hfrz⟩,hf⟩,?_⟩,trivial⟩
     .rw [htop];exact Nat.beq_refl _
     .have:Nat.beq (sz c') 0=false:=by rw [<-Bool.not_eq_true,Nat.beq_eq];omega
      rw [this];rfl
    obtain ⟨w',R',hle,ow,et,hn,hM',hce'⟩:=q74 (cs2:=items) (ex':=false) ok R B hlo het hg
    refine ⟨_,_,.slice nm (gn+1) off (l.length+x.length) (sz c') none,_,w',hk,B.tmps,B.n,?_,R',hle,?_⟩
    .simp only [qcn,hrz,qbt,hel,zB,hb1,Bool.not_true,zQ,hx,hr,hone,hg,hchk,zO,qbn hro,zH]
     rw [hsz]
    .have hgw:w'.g nm=some (.row (cs++items) e' (gn+1) floor frz false):=by rw [R'.g];exact qac
     have hlen2:(l++x).length=l.length+x.length:=List.length_append
     rw [<-hlen2]
     have hro:qq X sz w' ((l++x).flatMap (X.cells c')) (old++items):=by
      rw [List.flatMap_append]
      exact (hold2.append hit).mono ok.len hle
     have hold:old=cs.drop off:=by
      have b1:Nat.ble floor gn=true:=by rw [Nat.ble_eq];exact hf
      have b2:Nat.ble (off+l.length * sz c') (off+l.length * sz c')=true:=by rw [Nat.ble_eq];exact zN _
      have b3:Nat.ble (off+l.length * sz c') cs.length=true:=by rw [Nat.ble_eq];exact hlen
      simp only [kp,V.qju,qbu,Nat.beq_refl,zO,jk,hg,b1,b2,b3,Bool.and_self,zM,zP] at hold1
      obtain ⟨_,hold1,_,rfl⟩:=hold1
      obtain ⟨rfl,_⟩:=qkl hold1
      rw [List.take_of_length_le]
      rw [List.length_drop]
      omega
     refine qhh ok.len hgw (Nat.le_succ_of_le hf) hM' hz (fun k hk=>(by cases hk)) hro ?_ (fun m hm=>?_) ⟨by rw [hn];exact B.lt,fun cur hc'=>(by rw [ow] at hc';cases hc';exact zN _),fun _=>.inr ⟨rfl,et,cs++items,e',floor,frz,false,hgw,?_,?_,?_⟩,fun h=>⟨rfl,(hnb h).2.1,by rw [hlen2];have:=(hnb h).2.2;omega⟩⟩
     .rw [hold,List.length_append,List.length_append,List.length_drop];omega
     .have hoff:off<=cs.length:=by omega
      have:cs++items=cs.take off++(cs.drop off++items):=by rw [<-List.append_assoc,List.take_append_drop]
      rw [this,hold,List.getD_eq_getElem?_getD,List.getD_eq_getElem?_getD,List.getElem?_append_right (by rw [List.length_take];omega)]
      congr 2
      rw [List.length_take]
      omega
     .rw [List.length_append,List.length_append,Nat.add_mul,hilen];omega
     .rw [List.length_append];omega
     .rw [hce',R.ce];exact hc
end
end Go.E3
