/- A VERIFIED EVALUATOR, texts E3a, E3b, E3c, E3d, E3e, E3f, E3g, E3h, E3i, E3j, E3k in one. -/
import Derived.Test.YtpgchdcifbaioaaGreatDoorM1
import Derived.Test.YtpgchdcifbaioaaGreatDoorM2
/- THE MACHINE E3: weakest preconditions of the program's code over values without memory (lists in place of slices, variables by number). Definitions alone, over an algebra of what is known
   ('Alg'): at the plain one the answer is a proposition, at one of texts it is that proposition's text. Nothing is proved here. -/
namespace Go.E3
open Go Go.E2
inductive P (I B S Pr:Type) (L:Nat->Type) where
 | int (k:IntKind) (lit:Option Int) (n:I)
 | lit (b:Bool)
 | sb (id:Nat) (neg:Bool) (b:B) (pt pf:Pr)
 | str (s:S)
 | list (c:Nat) (l:L c) (own:Option (Nat×Nat))
 | nils
 | mlist (id c:Nat) (fx:Bool) (n:I)
 | mptr (id c:Nat) (i n:I) (off:Nat)
 | cell (id off lim:Nat)
 | eptr (cells:List (P I B S Pr L)) (off:Nat)
 | nilp
 | func (f:Nat) (first captured:List (P I B S Pr L))
 | nilf
 | yield (id:Nat)
 | iface (t:TypeId) (v:P I B S Pr L)
 | nili
 | agg (cells:List (P I B S Pr L))
 | tuple (l:List (P I B S Pr L))
 | map (id:Nat)
 | plist (es n:Nat) (fx:Bool) (cells:List (P I B S Pr L))
inductive LMode where
 | ready
 | busy
 | done (ex:Option Nat)
structure LRec (I B S Pr:Type) (L:Nat->Type) where
 tmps:Tree (P I B S Pr L)
 n:Nat
 params:List Tmp
 assign:Code
 body:Code
 fn:Nat
 pos:Nat
 mode:LMode
inductive Leaf where
 | int (k:IntKind)
 | str
 | bool
def q3d:Leaf->Leaf->Bool
 | .int k,.int a=>decide (k=a)
 | .str,.str=>true
 | .bool,.bool=>true
 | _,_=>false
inductive Cont (I B S Pr:Type) (L:Nat->Type) where
 | cs (t:Option TypeId) (ps:List (P I B S Pr L))
 | ml (c:Nat) (l:L c) (p:P I B S Pr L)
 | lp (r:LRec I B S Pr L)
 | mp (c:Nat) (lf:Leaf) (va:Bool) (l:L c)
inductive N (I B S:Type) (L:Nat->Type) where
 | i (n:I)
 | b (b:B)
 | s (s:S)
 | l (c:Nat) (l:L c)
inductive SK where
 | int (k:IntKind)
 | bool
 | str
 | list (c:Nat) (own nb:Bool)
 | grow
 | keep
inductive Sh where
 | one (k:SK)
 | agg (ks:List SK)
inductive Slot where
 | one (t:Nat) (k:SK)
 | via (t:Nat) (ks:List SK)
 | elems (t c:Nat)
inductive Ann where
 | inv (j:Nat) (slots:List Slot) (sees:List Slot)
 | unroll (n:Nat)
 | peel (j:Nat) (slots:List Slot) (sees:List Slot)
 | cut (j:Nat) (slots:List Slot) (sees:List Slot)
 | shut (t i:Nat)
variable {I B S Pr:Type} {L K:Nat->Type}
abbrev qv5 (B a:Type):=B×a×a
structure Alg (I B S Pr:Type) (L K:Nat->Type) where
 ff:String->Pr
 tt:Pr
 and:Pr->Pr->Pr
 imp:Pr->Pr->Pr
 ilit:Int->I
 iop:BinOp->IntKind->I->I->Option (Pr×I)
 icmp:BinOp->I->I->Option (qv5 B Pr)
 ineg:IntKind->I->Pr×I
 iconv:IntKind->I->Pr×I
 ibest:Bool->I->I->I
 blit:Bool->B
 bnot:B->B
 beq:B->B->qv5 B Pr
 braw:B->Pr×Pr
 ball:List (qv5 B Pr)->qv5 B Pr
 slit:List UInt8->S
 scat:S->S->Pr×S
 scmp:BinOp->S->S->Option (qv5 B Pr)
 slen:S->I
 sget:S->I->I
 ssub:S->Option I->Option I->Pr×S
 lof:(c:Nat)->List (K c)->L c
 llen:(c:Nat)->L c->I
 lget:(c:Nat)->L c->I->K c
 lsub:(c:Nat)->L c->Option I->Option I->Pr×L c
 lcat:(c:Nat)->L c->L c->Pr×L c
 lset:(c:Nat)->L c->I->K c->L c
 lrep:(c:Nat)->K c->I->L c
 leI:I->I->Pr
 sbytes:S->L 0
 bstr:L 0->S
 within:I->I->Pr
 eqI:I->I->Pr
 eqB:B->B->Pr
 eqS:S->S->Pr
 eqL:(c:Nat)->L c->L c->Pr
 allI:IntKind->(I->Pr)->Pr
 allB:(B->Pr)->Pr
 allS:(S->Pr)->Pr
 allL:(c:Nat)->(L c->Pr)->Pr
 inv:Nat->List (N I B S L)->Pr
 dec:Nat->List (N I B S L)->List (N I B S L)->Pr
 fn:Nat->Option (List Sh×(List (N I B S L)->Option (Pr×P I B S Pr L)))
 cells:(c:Nat)->K c->List (P I B S Pr L)
 pack:(c:Nat)->List (P I B S Pr L)->Option (Pr×K c)
 mhas:(c kn:Nat)->L c->K c->B
 mget:(c kn:Nat)->L c->K c->K c
 mput:(c kn:Nat)->L c->K c->L c
structure Cfg (I B S Pr:Type) (L:Nat->Type) where
 E:Env
 zm:Nat->Option (List (P I B S Pr L))
 codec:TypeId->Option Nat
 ann:Nat->Nat->Option Ann
 ans:Nat->Bool
 ng:Nat
 prim:Nat->Bool
 gobj:Nat->Option O
 mcod:TypeId->Option Nat
 born:TypeId->Bool:=λ_=>false
structure St (I B S Pr:Type) (L:Nat->Type) where
 tmps:Tree (P I B S Pr L)
 n:Nat
 cells:List (Nat×Cont I B S Pr L)
 owns:List (Nat×Nat)
 next:Nat
 known:List (Nat×Bool)
def look {α:Type}:List (Nat×α)->Nat->Option α
 | [],_=>none
 | (i,a)::l,n=>bif Nat.beq i n then some a else look l n
def qhq {α:Type}:List (Nat×α)->Nat->α->List (Nat×α)
 | [],n,a=>[(n,a)]
 | (i,b)::l,n,a=>bif Nat.beq i n then (i,a)::l else (i,b)::qhq l n a
def qck {α:Type}:List (Nat×α)->Nat->List (Nat×α)
 | [],_=>[]
 | (i,b)::l,n=>bif Nat.beq i n then qck l n else (i,b)::qck l n
def St.put (st:St I B S Pr L) (dst:Option Tmp) (p:P I B S Pr L):St I B S Pr L:=
 match dst with
 | some d=>match st with
  | ⟨t,n,c,o,x,a⟩=>bif Nat.blt d n then ⟨t.set d p,n,c,o,x,a⟩ else ⟨t,n,c,o,x,a⟩
 | none=>st
def P.cellsOf:P I B S Pr L->List (P I B S Pr L)
 | .agg cs=>cs
 | p=>[p]
def qnx:P I B S Pr L:=.tuple []
mutual
def ofV (A:Alg I B S Pr L K):V->P I B S Pr L
 | .int k n=>.int k (some n) (A.ilit n)
 | .bool b=>.lit b
 | .str s=>.str (A.slit s)
 | .ptr ..=>.tuple []
 | .nilp=>.nilp
 | .slice ..=>.tuple []
 | .nils=>.nils
 | .func d a c=>match d with
  | .func f=>.func f (ofL A a) (ofL A c)
  | _=>.tuple []
 | .nilf=>.nilf
 | .iface t v=>.iface t (ofV A v)
 | .nili=>.nili
 | .agg cs=>.agg (ofL A cs)
 | .tuple e=>.tuple (ofL A e)
 | .map _=>.tuple []
 | .nilm=>.tuple []
def ofL (A:Alg I B S Pr L K):List V->List (P I B S Pr L)
 | []=>[]
 | v::a=>ofV A v::ofL A a
end
def qmb:V->Bool
 | .int .. | .bool _ | .str _ | .nilp | .nils | .nilf | .nili=>true
 | .func (.func _) [] []=>true
 | _=>false
def q07 (A:Alg I B S Pr L K) (v:V):Option (P I B S Pr L):=
 match v with
 | .agg cs=>bif cs.all qmb then some (ofV A v) else none
 | .tuple []=>some (.tuple [])
 | v=>bif qmb v then some (ofV A v) else none
def zeroCells (A:Alg I B S Pr L K) (ti:TI):Option (List (P I B S Pr L)):=
 bif ti.zero.cells.all qmb then some (ofL A ti.zero.cells) else none
def qbo (A:Alg I B S Pr L K) (C:Cfg I B S Pr L) (st:St I B S Pr L):Operand->Option (P I B S Pr L)
 | .tmp t=>st.tmps.get t
 | .const v=>(qsu 1000 v).bind (q07 A)
 | .global g=>(C.zm g).map λcs=>.eptr cs 0
 | .func f=>some (.func f [] [])
def qhi (A:Alg I B S Pr L K) (C:Cfg I B S Pr L) (st:St I B S Pr L):List Operand->Option (List (P I B S Pr L))
 | []=>some []
 | x::a=>(qbo A C st x).bind λv=>(qhi A C st a).map λb=>v::b
def asL (A:Alg I B S Pr L K) (c:Nat):P I B S Pr L->Option (L c)
 | .nils=>some (A.lof c [])
 | .list a l _=>if h:a=c then some (h ▸ l) else none
 | _=>none
def zrf (id:Nat) (b:Bool) (l:List (Nat×Bool)):List (Nat×Bool):=bif Nat.beq id 0 then l else (id,b)::l
def br (A:Alg I B S Pr L K) (st:St I B S Pr L) (p:P I B S Pr L) (k:Bool->St I B S Pr L->Pr):Pr:=
 match p with
 | .lit b=>k b st
 | .sb id neg _ a c=>match look st.known id with
  | some v=>k (v != neg) st
  | none=>A.and (A.imp a (k true {st with known:=zrf id (!neg) st.known})) (A.imp c (k false {st with known:=zrf id neg st.known}))
 | _=>A.ff "no condition"
def qco:List (P I B S Pr L)->Nat->List (P I B S Pr L)×Nat
 | [],n=>([],n)
 | .sb 0 neg b c d::ps,n=>match qco ps (n+1) with
  | (a,m)=>(.sb n neg b c d::a,m)
 | p::ps,n=>match qco ps n with
  | (a,m)=>(p::a,m)
def qfc (p:P I B S Pr L) (st:St I B S Pr L):P I B S Pr L×St I B S Pr L:=
 match p with
 | .sb 0 neg b c d=>(.sb st.next neg b c d,{st with next:=st.next+1})
 | .agg cs=>match qco cs st.next with
  | (a,m)=>(.agg a,{st with next:=m})
 | .tuple cs=>match qco cs st.next with
  | (a,m)=>(.tuple a,{st with next:=m})
 | p=>(p,st)
def zdd (st:St I B S Pr L) (c:qv5 B Pr):P I B S Pr L×St I B S Pr L:=
 (.sb st.next false c.1 c.2.1 c.2.2,{st with next:=st.next+1})
def zvq (ti:TI) (cs:List (P I B S Pr L)) (off:Nat):Option (P I B S Pr L):=
 bif ti.isAgg then (bif Nat.ble (off+ti.size) cs.length then some (.agg ((cs.drop off).take ti.size)) else none) else cs[off]?
def qf6 (cs:List (P I B S Pr L)) (off:Nat) (a:List (P I B S Pr L)):List (P I B S Pr L):=cs.take off++a++cs.drop (off+a.length)
def q1i (place:Nat->Option (Nat×Nat)):List (P I B S Pr L)->List (Nat×P I B S Pr L)->Option (List (P I B S Pr L))
 | cells,[]=>some cells
 | cells,(i,v)::b=>match place i with
  | none=>none
  | some (off,a)=>bif Nat.beq v.cellsOf.length a&&Nat.ble (off+a) cells.length then q1i place (qf6 cells off v.cellsOf) b else none
def qqr (l:List (Nat×Cont I B S Pr L)) (id:Nat):Option (List (P I B S Pr L)):=
 match look l id with
 | some (.cs _ ps)=>some ps
 | _=>none
def qox (l:List (Nat×Cont I B S Pr L)) (id:Nat):Option TypeId:=
 match look l id with
 | some (.cs t _)=>t
 | _=>none
structure MapC (L:Nat->Type) where
 c:Nat
 lf:Leaf
 va:Bool
 l:L c
def zui (l:List (Nat×Cont I B S Pr L)) (id:Nat):Option (MapC L):=
 match look l id with
 | some (.mp c lf va l)=>some ⟨c,lf,va,l⟩
 | _=>none
def z77:Option TypeId->Option TypeId->Bool
 | none,_=>true
 | some a,some b=>Nat.beq a b
 | _,_=>false
def qu6 (l:List (Nat×Cont I B S Pr L)) (id c:Nat):Option (L c×P I B S Pr L):=
 match look l id with
 | some (.ml a l p)=>if h:a=c then some (h ▸ l,p) else none
 | _=>none
def loadAt (ti:TI) (cs:List (P I B S Pr L)) (off:Nat):Option (P I B S Pr L):=
 bif Nat.ble (off+ti.size) cs.length then (bif ti.isAgg then some (.agg ((cs.drop off).take ti.size)) else bif Nat.beq ti.size 1 then cs[off]? else none) else none
def zkt (st:St I B S Pr L) (ti:TI):P I B S Pr L->Option (P I B S Pr L)
 | .cell id off lim=>(qqr st.cells id).bind λcs=>bif Nat.ble (off+ti.size) lim&&Nat.ble lim cs.length then
   (bif ti.isAgg then some (.agg ((cs.drop off).take ti.size)) else bif Nat.beq ti.size 1 then cs[off]? else none) else none
 | .eptr cs off=>loadAt ti cs off
 | _=>none
def qa2:P I B S Pr L->Bool
 | .agg _ | .tuple _=>false
 | _=>true
def ziv (st:St I B S Pr L) (ti:TI) (a v:P I B S Pr L):Option (St I B S Pr L):=
 match a with
 | .cell id off lim=>(qqr st.cells id).bind λcs=>
  bif Nat.beq v.cellsOf.length ti.size&&Nat.ble (off+ti.size) lim&&Nat.ble lim cs.length&&v.cellsOf.all qa2 then some {st with cells:=qhq st.cells id (.cs (qox st.cells id) (qf6 cs off v.cellsOf))} else none
 | _=>none
def sel (A:Alg I B S Pr L K) (i:P I B S Pr L) (n:Nat) (k:Nat->Pr):Pr:=
 match i with
 | .int _ (some j) _=>if 0<=j/\j<n then k j.toNat else A.ff "index"
 | .int _ none x=>A.and (A.within x (A.ilit n)) ((List.range n).foldr (λ(j:Nat) r=>A.and (A.imp (A.eqI x (A.ilit (j:Int))) (k j)) r) A.tt)
 | _=>A.ff "index"
def eqP (A:Alg I B S Pr L K):P I B S Pr L->P I B S Pr L->Option (qv5 B Pr)
 | .int k _ a,.int c _ b=>if k=c then A.icmp .eql a b else none
 | .str a,.str b=>A.scmp .eql a b
 | .lit a,.lit b=>some (A.beq (A.blit a) (A.blit b))
 | .lit a,.sb _ _ b _ _=>some (A.beq (A.blit a) b)
 | .sb _ _ a _ _,.lit b=>some (A.beq a (A.blit b))
 | .sb _ _ a _ _,.sb _ _ b _ _=>some (A.beq a b)
 | _,_=>none
def zg1 (A:Alg I B S Pr L K):List (P I B S Pr L)->List (P I B S Pr L)->Option (List (qv5 B Pr))
 | [],[]=>some []
 | a::d,b::e=>(eqP A a b).bind λc=>(zg1 A d e).map λcs=>c::cs
 | _,_=>none
def z7o (A:Alg I B S Pr L K) (c:qv5 B Pr):qv5 B Pr:=(A.bnot c.1,c.2.2,c.2.1)
def zs3 (E:Env) (u:TypeDesc) (x y:P I B S Pr L):Option Bool:=
 match u,x,y with
 | .pointer _,.nilp,.nilp=>some true
 | .pointer _,.nilp,.cell .. | .pointer _,.cell ..,.nilp=>some false
 | .pointer e,.cell i o _,.cell j p _=>(E.types e).bind λa=>bif !Nat.beq a.size 0&&Nat.beq i j then some (Nat.beq o p) else none
 | .func ..,.nilf,.nilf=>some true
 | .func ..,.nilf,.func .. | .func ..,.func ..,.nilf=>some false
 | .interface _,.nili,.iface .. | .interface _,.iface ..,.nili=>some false
 | _,_,_=>none
mutual
def q33 (E:Env):Nat->TypeId->Option (List Leaf)
 | 0,_=>none
 | d+1,t=>match E.types t with
  | none=>none
  | some ti=>match ti.under with
   | .int k=>bif !ti.isAgg then some [.int k] else none
   | .string=>bif !ti.isAgg then some [.str] else none
   | .bool=>bif !ti.isAgg then some [.bool] else none
   | .struct a=>bif E.eqOk t&&ti.isAgg then (q71 E d a.toList 0).bind λl=>bif Nat.beq ti.size l.length&&Nat.blt 0 l.length then some l else none else none
   | _=>none
def q71 (E:Env):Nat->List Field->Nat->Option (List Leaf)
 | 0,_,_=>none
 | d+1,b,off=>match b with
  | []=>some []
  | f::b=>bif Nat.beq f.offset off then (q33 E d f.type).bind λa=>(q71 E d b (off+a.length)).map λr=>a++r else none
end
def tiled:List Leaf->List (P I B S Pr L)->Bool
 | [],[]=>true
 | .int k::l,.int a _ _::ps=>decide (k=a)&&tiled l ps
 | .str::l,.str _::ps=>tiled l ps
 | .bool::l,.lit _::ps=>tiled l ps
 | .bool::l,.sb ..::ps=>tiled l ps
 | _,_=>false
def qyb (st:St I B S Pr L) (bad:Pr) (c:Option (qv5 B Pr)) (k:P I B S Pr L->St I B S Pr L->Pr):Pr:=
 match c with
 | some c=>k (zdd st c).1 (zdd st c).2
 | none=>bad
def qut (A:Alg I B S Pr L K) (neg:Bool) (c:qv5 B Pr):qv5 B Pr:=bif neg then z7o A c else c
def zut (A:Alg I B S Pr L K) (neg:Bool) (x y:P I B S Pr L) (st:St I B S Pr L) (k:P I B S Pr L->St I B S Pr L->Pr):Pr:=
 match x,y with
 | .nils,.nils=>k (.lit (true != neg)) st
 | .list c l _,.nils=>A.allB λb=>A.imp (A.imp (A.braw b).1 (A.eqL c l (A.lof c []))) (qyb st (A.ff "comparison") (some (qut A neg (b,(A.braw b).1,(A.braw b).2))) k)
 | _,_=>A.ff "comparison"
def zzj (A:Alg I B S Pr L K) (E:Env) (neg:Bool) (t:TypeId) (x y:P I B S Pr L) (st:St I B S Pr L) (k:P I B S Pr L->St I B S Pr L->Pr):Pr:=
 match x,y with
 | .int d (some a) _,.int c (some b) _=>if d=c then k (.lit ((a == b) != neg)) st else A.ff "comparison"
 | .int d _ a,.int c _ b=>if d=c then qyb st (A.ff "comparison") ((A.icmp .eql a b).map (qut A neg)) k else A.ff "comparison"
 | .str a,.str b=>qyb st (A.ff "comparison") ((A.scmp .eql a b).map (qut A neg)) k
 | .agg e,.agg f=>match E.types t,q33 E 1000 t with
  | some ti,some l=>bif ti.isAgg&&(tiled l e&&tiled l f) then qyb st (A.ff "comparison") ((zg1 A e f).map λcs=>qut A neg (A.ball cs)) k else A.ff "comparison"
  | _,_=>A.ff "comparison"
 | x,y=>match E.types t with
  | none=>A.ff "comparison"
  | some ti=>match ti.under with
   | .bool=>qyb st (A.ff "comparison") ((eqP A x y).map (qut A neg)) k
   | .slice _=>zut A neg x y st k
   | u=>match zs3 E u x y with
    | some b=>k (.lit (b != neg)) st
    | none=>A.ff "comparison"
def zgi (A:Alg I B S Pr L K) (op:BinOp) (x y:P I B S Pr L) (st:St I B S Pr L) (k:P I B S Pr L->St I B S Pr L->Pr):Pr:=
 match x,y with
 | .int d (some a) _,.int e (some b) _=>if d=e then (match qis op d a b with
   | some (.int d n)=>k (.int d (some n) (A.ilit n)) st
   | some (.bool b)=>k (.lit b) st
   | _=>A.ff "operator") else A.ff "operator"
 | .int d _ a,.int e _ b=>if d=e then (match A.icmp op a b with
   | some c=>qyb st (A.ff "operator") (some c) k
   | none=>match A.iop op d a b with
    | some r=>A.and r.1 (k (.int d none r.2) st)
    | none=>A.ff "operator") else A.ff "operator"
 | .str a,.str b=>match op with
  | .add=>A.and (A.scat a b).1 (k (.str (A.scat a b).2) st)
  | op=>qyb st (A.ff "operator") (A.scmp op a b) k
 | _,_=>A.ff "operator"
def z5l (A:Alg I B S Pr L K) (x y:P I B S Pr L) (st:St I B S Pr L) (k:P I B S Pr L->St I B S Pr L->Pr):Pr:=
 match x,y with
 | .int c (some a) _,.int _ (some b) _=>if 0<=b then k (.int c (some (a.fdiv (2 ^ (min b.toNat c.bits)))) (A.ilit (a.fdiv (2 ^ (min b.toNat c.bits))))) st else A.ff "shift"
 | _,_=>A.ff "shift"
def z2y (A:Alg I B S Pr L K) (C:Cfg I B S Pr L) (op:BinOp) (t:TypeId) (x y:P I B S Pr L) (st:St I B S Pr L) (k:P I B S Pr L->St I B S Pr L->Pr):Pr:=
 match op with
 | .eql=>zzj A C.E false t x y st k
 | .neq=>zzj A C.E true t x y st k
 | .shl=>A.ff "operator"
 | .shr=>z5l A x y st k
 | op=>zgi A op x y st k
def unP (A:Alg I B S Pr L K) (op:UnOp) (x:P I B S Pr L) (st:St I B S Pr L) (k:P I B S Pr L->St I B S Pr L->Pr):Pr:=
 match op,x with
 | .neg,.int a _ n=>let r:=A.ineg a n;A.and r.1 (k (.int a none r.2) st)
 | .not,.lit b=>k (.lit !b) st
 | .not,.sb id neg b c d=>k (.sb id (!neg) (A.bnot b) d c) st
 | _,_=>A.ff "operator"
def qfh (st:St I B S Pr L):P I B S Pr L->Bool
 | .nils=>true
 | .list _ _ (some (i,s))=>match look st.owns i with
  | some a=>Nat.beq s a
  | none=>false
 | _=>false
def zuw:P I B S Pr L->Bool
 | .nils=>true
 | .list _ _ (some (_,s))=>Nat.beq (s % 2) 1
 | _=>false
def qvv (A:Alg I B S Pr L K) (st:St I B S Pr L):SK->P I B S Pr L->Option (List (N I B S L))
 | .int k,.int a _ n=>if k=a then some [.i n] else none
 | .bool,.lit b=>some [.b (A.blit b)]
 | .bool,.sb _ _ b _ _=>some [.b b]
 | .str,.str s=>some [.s s]
 | .list c own d,p=>bif (own&&!qfh st p) || (d&&!zuw p) then none else (asL A c p).map λl=>[.l c l]
 | .keep,_=>some []
 | .grow,.mlist _ _ _ n=>some [.i n]
 | _,_=>none
def qob (A:Alg I B S Pr L K) (st:St I B S Pr L):List SK->List (P I B S Pr L)->Option (List (N I B S L))
 | [],[]=>some []
 | k::ks,p::ps=>(qvv A st k p).bind λa=>(qob A st ks ps).map λr=>a++r
 | _,_=>none
def qr6 (A:Alg I B S Pr L K) (st:St I B S Pr L):List Sh->List (P I B S Pr L)->Option (List (N I B S L))
 | [],[]=>some []
 | .one k::ks,p::ps=>(qvv A st k p).bind λa=>(qr6 A st ks ps).map λr=>a++r
 | .agg l::ks,.agg cs::ps=>(qob A st l cs).bind λa=>(qr6 A st ks ps).map λr=>a++r
 | _,_=>none
def fnP (A:Alg I B S Pr L K) (st:St I B S Pr L) (g:Nat) (args:List (P I B S Pr L)):Option (Pr×P I B S Pr L):=
 (A.fn g).bind λct=>(qr6 A st ct.1 args).bind ct.2
def zj9 (A:Alg I B S Pr L K) (c sz:Nat) (s x:P I B S Pr L) (st:St I B S Pr L) (k:P I B S Pr L->St I B S Pr L->Pr):Option Pr:=
 match s,x with
 | .nils,.plist 1 1 _ [p]=>some (bif Nat.beq sz 1&&qa2 p then k (.mlist st.next c false (A.ilit 0)) {st with cells:=(st.next,.ml c (A.lof c []) p)::st.cells,next:=st.next+1} else A.ff "append")
 | .mlist id a _ n,.plist 1 1 _ [q]=>some (match qu6 st.cells id c with
   | some (l,p)=>bif Nat.beq a c&&Nat.beq sz 1&&qa2 q then (match A.pack c [p] with
    | some r=>(let t:=A.lcat c l (A.lof c [r.2])
     A.and (A.eqI n (A.llen c l)) (A.and r.1 (A.and t.1 (k (.mlist id c false (A.llen c t.2)) {st with cells:=qhq st.cells id (.ml c t.2 q)}))))
    | none=>A.ff "append") else A.ff "append"
   | none=>A.ff "append")
 | _,_=>none
def qua (A:Alg I B S Pr L K) (c:Nat) (s:P I B S Pr L) (x:L c) (st:St I B S Pr L) (k:P I B S Pr L->St I B S Pr L->Pr):Pr:=
 bif !qfh st s then A.ff "append to what is not one's own" else
 match asL A c s with
 | none=>A.ff "append"
 | some l=>let r:=A.lcat c l x
  match s with
  | .list _ _ (some (i,g))=>A.and r.1 (k (.list c r.2 (some (i,g+2))) {st with owns:=qhq st.owns i (g+2)})
  | _=>A.and r.1 (k (.list c r.2 (some (st.next,1))) {st with owns:=(st.next,1)::st.owns,next:=st.next+1})
def zc8 (A:Alg I B S Pr L K) (c:Nat):List (List (P I B S Pr L))->Option (List Pr×List (K c))
 | []=>some ([],[])
 | x::a=>(A.pack c x).bind λr=>(zc8 A c a).map λrs=>(r.1::rs.1,r.2::rs.2)
def zrk (A:Alg I B S Pr L K) (l:List Pr) (p:Pr):Pr:=l.foldr A.and p
def chunks (sz:Nat):Nat->List (P I B S Pr L)->List (List (P I B S Pr L))
 | 0,_=>[]
 | n+1,l=>l.take sz::chunks sz n (l.drop sz)
def zu3 (A:Alg I B S Pr L K) (C:Cfg I B S Pr L) (st:St I B S Pr L):Option Operand->Option (Option I)
 | none=>some none
 | some x=>match qbo A C st x with
  | some (.int _ _ n)=>some (some n)
  | _=>none
def qme (next:Nat):P I B S Pr L->P I B S Pr L
 | .list c l (some (i,_))=>.list c l (some (next+i,0))
 | p=>p
def qcr:List (P I B S Pr L)->List Nat
 | []=>[]
 | .list _ _ (some (i,_))::ps=>i::qcr ps
 | _::ps=>qcr ps
def P.parts:P I B S Pr L->List (P I B S Pr L)
 | .tuple l=>l
 | p=>[p]
def P.flat:P I B S Pr L->List (P I B S Pr L)
 | .tuple l=>l.flatMap P.cellsOf
 | p=>p.cellsOf
def qk2 (f:P I B S Pr L->P I B S Pr L):P I B S Pr L->P I B S Pr L
 | .tuple l=>.tuple (l.map λp=>match p with
  | .agg cs=>.agg (cs.map f)
  | p=>f p)
 | .agg cs=>.agg (cs.map f)
 | p=>f p
def distinct:List Nat->Bool
 | []=>true
 | i::l=>!(l.any λj=>Nat.beq i j)&&distinct l
def qbi:List (P I B S Pr L)->Nat->List (P I B S Pr L)×Nat
 | [],n=>([],n)
 | .agg cs::ps,n=>match qco cs n with
  | (c,m)=>match qbi ps m with
   | (a,m)=>(.agg c::a,m)
 | .sb 0 neg b d e::ps,n=>match qbi ps (n+1) with
  | (a,m)=>(.sb n neg b d e::a,m)
 | p::ps,n=>match qbi ps n with
  | (a,m)=>(p::a,m)
def qd8 (st:St I B S Pr L) (r:P I B S Pr L):P I B S Pr L×St I B S Pr L:=
 let c:=qcr r.flat
 let m:=c.foldl (λa i=>max a (i+1)) 0;let d:=qk2 (qme st.next) r;let b:={st with next:=st.next+m,owns:=c.map (λi=>(st.next+i,0))++st.owns}
 match d with
 | .tuple l=>match qbi l b.next with
  | (e,n)=>(.tuple e,{b with next:=n})
 | p=>qfc p b
abbrev Inl (I B S a:Type) (L:Nat->Type):=Tgt->List (P I B S a L)->St I B S a L->(P I B S a L->St I B S a L->a)->a
def zbm (A:Alg I B S Pr L K) (inl:Inl I B S Pr L) (f:P I B S Pr L) (args:List (P I B S Pr L)) (st:St I B S Pr L) (k:P I B S Pr L->St I B S Pr L->Pr):Pr:=
 match f with
 | .func g first cap=>match fnP A st g (first++args++cap) with
  | some (a,r)=>bif distinct (qcr r.flat) then (let x:=qd8 st r;A.and a (k x.1 x.2)) else A.ff "contract"
  | none=>inl (.func g) (first++args++cap) st k
 | .yield id=>inl (.round id) args st k
 | _=>A.ff "call"
def qlt (A:Alg I B S Pr L K) (C:Cfg I B S Pr L) (b:Builtin) (f:List TypeId) (args:List (P I B S Pr L)) (st:St I B S Pr L) (k:P I B S Pr L->St I B S Pr L->Pr):Pr:=
 match b,args,f with
 | .len,[x],[t]=>match C.E.types t with
  | some ti=>match ti.under,x with
   | .array n _,_=>k (.int .i64 (some n) (A.ilit n)) st
   | .string,.str s=>k (.int .i64 none (A.slen s)) st
   | .slice _,.nils=>k (.int .i64 (some 0) (A.ilit 0)) st
   | .slice _,.list c l _=>k (.int .i64 none (A.llen c l)) st
   | .slice _,.mlist _ _ _ n=>(match A.iop .add .i64 n (A.ilit 1) with
    | some r=>A.and r.1 (k (.int .i64 none r.2) st)
    | none=>A.ff "len")
   | .slice _,.plist _ n _ _=>k (.int .i64 (some n) (A.ilit n)) st
   | _,_=>A.ff "len"
  | none=>A.ff "len"
 | .append,[s,x],[t,u]=>match C.E.types t,C.E.types u with
  | some ti,some h=>match ti.under,h.under with
   | .slice e,.slice _=>match C.codec e,C.E.types e with
    | some c,some d=>bif Nat.ble d.bytes 1024&&!Nat.beq d.size 0 then (match zj9 A c d.size s x st k with
     | some r=>r
     | none=>(match asL A c x with
      | some l=>qua A c s l st k
      | none=>A.ff "append")) else A.ff "append"
    | _,_=>A.ff "append"
   | .slice e,.string=>match C.codec e,C.E.types e,x with
    | some 0,some d,.str y=>bif Nat.ble d.bytes 1024&&Nat.beq d.size 1 then qua A 0 s (A.sbytes y) st k else A.ff "append"
    | _,_,_=>A.ff "append"
   | _,_=>A.ff "append"
  | _,_=>A.ff "append"
 | .max,[.int g _ a,.int _ _ b],_=>k (.int g none (A.ibest true a b)) st
 | .min,[.int g _ a,.int _ _ b],_=>k (.int g none (A.ibest false a b)) st
 | _,_,_=>A.ff "builtin"
def onS {α:Type} (bad:Pr) (o:Option α) (k:α->Pr):Pr:=
 match o with
 | some a=>k a
 | none=>bad
def fieldPlace (E:Env) (a:Array Field) (i:Nat):Option (Nat×Nat):=(a[i]?).bind λf=>(E.types f.type).map λb=>(f.offset,b.size)
def zgn (A:Alg I B S Pr L K) (E:Env) (ti:TI) (parts:List Nat) (a:List (P I B S Pr L)) (st:St I B S Pr L) (k:P I B S Pr L->St I B S Pr L->Pr):Pr:=
 onS (A.ff "build") (zeroCells A ti) λz=>match ti.under with
  | .struct b=>bif b.toList.all (λf=>(E.types f.type).isSome) then onS (A.ff "build") (q1i (fieldPlace E b) z (parts.zip a)) λcs=>k (.agg cs) st else A.ff "build"
  | .array _ e=>onS (A.ff "build") (E.types e) λc=>onS (A.ff "build") (q1i (λi=>some (i * c.size,c.size)) z (parts.zip a)) λcs=>k (.agg cs) st
  | _=>A.ff "build"
def zrt (A:Alg I B S Pr L K) (C:Cfg I B S Pr L) (d f:TI) (p:P I B S Pr L) (st:St I B S Pr L) (k:P I B S Pr L->St I B S Pr L->Pr):Pr:=
 match d.under,f.under,p with
 | .int _,.int a,.int _ (some n) _=>k (.int a (some (a.wrap n)) (A.ilit (a.wrap n))) st
 | .int _,.int a,.int _ none n=>A.and (A.iconv a n).1 (k (.int a none (A.iconv a n).2) st)
 | .string,.string,.str s=>k (.str s) st
 | .slice e,.string,p=>onS (A.ff "convert") (C.codec e) λc=>bif Nat.beq c 0 then onS (A.ff "convert") (asL A 0 p) λl=>onS (A.ff "convert") (C.E.types e) λb=>(match b.under with
   | .int .u8=>k (.str (A.bstr l)) st
   | _=>A.ff "convert") else A.ff "convert"
 | .pointer e,.unsafePointer,.cell id off lim=>onS (A.ff "convert") (C.E.types e) λb=>onS (A.ff "convert") (qqr st.cells id) λ_=>bif Nat.blt 0 b.size&&Nat.ble (off+1) lim then k (.cell id off lim) st else A.ff "convert"
 | .unsafePointer,.pointer e,.cell id off lim=>onS (A.ff "convert") (C.E.types e) λb=>onS (A.ff "convert") (qox st.cells id) λt=>onS (A.ff "convert") (qqr st.cells id) λcs=>onS (A.ff "convert") (C.E.types t) λg=>
   bif Nat.blt 0 b.size&&C.E.lies t (cs.length / g.size) off e then k (.cell id off lim) st else A.ff "convert"
 | _,_,_=>A.ff "convert"
def zwh (A:Alg I B S Pr L K) (C:Cfg I B S Pr L) (ti:TI) (p:P I B S Pr L) (lo hi:Option I) (st:St I B S Pr L) (k:P I B S Pr L->St I B S Pr L->Pr):Pr:=
 match ti.under,p with
 | .string,.str s=>A.and (A.ssub s lo hi).1 (k (.str (A.ssub s lo hi).2) st)
 | .slice e,p=>onS (A.ff "slice") (C.codec e) λc=>onS (A.ff "slice") (C.E.types e) λ_=>onS (A.ff "slice") (asL A c p) λl=>A.and (A.lsub c l lo hi).1 (k (.list c (A.lsub c l lo hi).2 none) st)
 | _,_=>A.ff "slice"
def zke (A:Alg I B S Pr L K) (C:Cfg I B S Pr L) (ti:TI) (p i:P I B S Pr L) (st:St I B S Pr L) (k:P I B S Pr L->St I B S Pr L->Pr):Pr:=
 match ti.under with
 | .slice e=>(match p with
  | .plist b m _ cs=>onS (A.ff "indexAddr") (C.E.types e) λa=>bif Nat.beq a.size b then sel A i m λj=>k (.eptr cs (j * b)) st else A.ff "indexAddr"
  | p=>onS (A.ff "indexAddr") (C.codec e) λc=>onS (A.ff "indexAddr") (C.E.types e) λ_=>match i with
  | .int _ _ n=>(match p with
   | .mlist id d _ m=>bif Nat.beq c d then A.and (A.eqI n m) (k (.mptr id d n m 0) st) else A.ff "indexAddr"
   | p=>onS (A.ff "indexAddr") (asL A c p) λl=>A.and (A.within n (A.llen c l)) (k (.eptr (A.cells c (A.lget c l n)) 0) st))
  | _=>A.ff "indexAddr")
 | .array m e=>onS (A.ff "indexAddr") (C.E.types e) λa=>match p with
  | .cell id off lim=>sel A i m λj=>k (.cell id (off+j * a.size) lim) st
  | .eptr cs off=>sel A i m λj=>k (.eptr cs (off+j * a.size)) st
  | _=>A.ff "indexAddr"
 | _=>A.ff "indexAddr"
def ixP (A:Alg I B S Pr L K) (C:Cfg I B S Pr L) (ti:TI) (p i:P I B S Pr L) (st:St I B S Pr L) (k:P I B S Pr L->St I B S Pr L->Pr):Pr:=
 match ti.under with
 | .string=>match p,i with
  | .str s,.int _ _ n=>A.and (A.within n (A.slen s)) (k (.int .u8 none (A.sget s n)) st)
  | _,_=>A.ff "index"
 | .array m e=>match p with
  | .agg cs=>onS (A.ff "index") (C.E.types e) λa=>sel A i m λj=>onS (A.ff "index") (zvq a cs (j * a.size)) λv=>k v st
  | _=>A.ff "index"
 | _=>A.ff "index"
def zuh (A:Alg I B S Pr L K) (ti:TI) (p:P I B S Pr L) (st:St I B S Pr L) (k:P I B S Pr L->St I B S Pr L->Pr):Pr:=
 match p with
 | .mptr id c _ n _=>onS (A.ff "load") (qu6 st.cells id c) λl=>bif Nat.beq ti.size 1&&!ti.isAgg then A.and (A.eqI n (A.llen c l.1)) (k (qfc l.2 st).1 (qfc l.2 st).2) else A.ff "load"
 | p=>onS (A.ff "load") (zkt st ti p) λv=>k (qfc v st).1 (qfc v st).2
def ziu (A:Alg I B S Pr L K) (ti:TI) (a x:P I B S Pr L) (st:St I B S Pr L) (k:P I B S Pr L->St I B S Pr L->Pr):Pr:=
 match a with
 | .mptr id c _ n _=>onS (A.ff "store") (qu6 st.cells id c) λl=>
   bif Nat.beq ti.size 1&&qa2 x then A.and (A.eqI n (A.llen c l.1)) (k qnx {st with cells:=qhq st.cells id (.ml c l.1 x)}) else A.ff "store"
 | a=>onS (A.ff "store") (ziv st ti a x) λb=>k qnx b
def zgh:V->Bool
 | .agg _=>true
 | _=>false
def z2u:P I B S Pr L->Bool
 | .agg _=>true
 | _=>false
def qrg (a:TI):Option Leaf:=
 bif a.isAgg then none else match a.under with
 | .int k=>some (.int k)
 | .string=>some .str
 | .bool=>some .bool
 | _=>none
def zum (C:Cfg I B S Pr L) (st:St I B S Pr L) (t:TypeId) (id:Nat) (key:P I B S Pr L):Option (MapC L×TI):=
 (C.E.types t).bind λti=>match ti.under with
 | .map c d=>(C.E.types c).bind λe=>(C.E.types d).bind λa=>(qrg e).bind λb=>(zui st.cells id).bind λm=>
   bif q3d m.lf b&&(m.va == a.isAgg)&&(zgh a.zero == a.isAgg)&&tiled [b] [key] then some (m,a) else none
 | _=>none
def q9i (A:Alg I B S Pr L K) (C:Cfg I B S Pr L) (t:TypeId) (ok:Bool) (m key:P I B S Pr L) (st:St I B S Pr L) (k:P I B S Pr L->St I B S Pr L->Pr):Pr:=
 match m with
 | .map id=>onS (A.ff "map") (zum C st t id key) λ(a,b)=>onS (A.ff "map") (zeroCells A b) λz=>onS (A.ff "map") (A.pack a.c (key::z)) λr=>A.and r.1
   (let cs:=(A.cells a.c (A.mget a.c 1 a.l r.2)).drop 1
    onS (A.ff "map") (bif a.va then some (.agg cs) else bif Nat.beq cs.length 1 then cs[0]? else none) λv=>
    let x:=qfc v st
    bif ok then (let y:=zdd x.2 (A.mhas a.c 1 a.l r.2,A.braw (A.mhas a.c 1 a.l r.2));k (.tuple [x.1,y.1]) y.2) else k x.1 x.2)
 | _=>A.ff "map"
def qu0 (A:Alg I B S Pr L K) (C:Cfg I B S Pr L) (t:TypeId) (m key x:P I B S Pr L) (st:St I B S Pr L) (k:P I B S Pr L->St I B S Pr L->Pr):Pr:=
 match m with
 | .map id=>onS (A.ff "map") (zum C st t id key) λ(a,b)=>bif (z2u x == a.va)&&Nat.beq x.cellsOf.length b.size&&x.cellsOf.all qa2 then
   onS (A.ff "map") (A.pack a.c (key::x.cellsOf)) λr=>A.and r.1 (k qnx {st with cells:=qhq st.cells id (.mp a.c a.lf a.va (A.mput a.c 1 a.l r.2))}) else A.ff "map"
 | _=>A.ff "map"
def qdd (A:Alg I B S Pr L K) (C:Cfg I B S Pr L) (inl:Inl I B S Pr L) (o:Oper) (st:St I B S Pr L) (k:P I B S Pr L->St I B S Pr L->Pr):Pr:=
 match o.op with
 | .move x=>onS (A.ff "operand") (qbo A C st x) λp=>k p st
 | .assign x=>onS (A.ff "operand") (qbo A C st x) λp=>k p st
 | .pick c a b=>onS (A.ff "operand") (qbo A C st c) λc=>br A st c λv h=>onS (A.ff "operand") (qbo A C h (if v then a else b)) λp=>k p h
 | .alloc e=>onS (A.ff "type") (C.E.types e) λti=>onS (A.ff "alloc") (zeroCells A ti) λcs=>k (.cell st.next 0 cs.length) {st with cells:=(st.next,.cs (some e) cs)::st.cells,next:=st.next+1}
 | .box t x=>onS (A.ff "operand") (qbo A C st x) λp=>bif p.cellsOf.all qa2 then k (.cell st.next 0 p.cellsOf.length) {st with cells:=(st.next,.cs (some t) p.cellsOf)::st.cells,next:=st.next+1} else A.ff "box"
 | .build t parts=>onS (A.ff "type") (C.E.types t) λti=>onS (A.ff "operand") (qhi A C st (parts.toList.map (·.2))) λl=>zgn A C.E ti (parts.toList.map (·.1)) l st k
 | .buildSlice t len parts=>onS (A.ff "type") (C.E.types t) λti=>onS (A.ff "operand") (qhi A C st (parts.toList.map (·.2))) λl=>match ti.under with
  | .slice e=>onS (A.ff "type") (C.E.types e) λg=>onS (A.ff "buildSlice") (zeroCells A g) λz=>
    bif Nat.ble (len * g.size) 16777216 then
     onS (A.ff "buildSlice") (q1i (λi=>some (i * g.size,g.size)) (List.replicate len z).flatten ((parts.toList.map (·.1)).zip l)) λcells=>match (bif C.born t then none else C.codec e) with
      | some c=>onS (A.ff "buildSlice") (zc8 A c (chunks g.size len cells)) λr=>
       zrk A r.1 (k (.list c (A.lof c r.2) (some (st.next,0))) {st with owns:=(st.next,0)::st.owns,next:=st.next+1})
      | none=>bif Nat.blt 0 g.size&&Nat.beq cells.length (len * g.size) then k (.plist g.size len true cells) {st with owns:=(st.next,0)::st.owns,next:=st.next+1} else A.ff "buildSlice"
    else A.ff "buildSlice"
  | _=>A.ff "buildSlice"
 | .load t x=>onS (A.ff "type") (C.E.types t) λti=>onS (A.ff "operand") (qbo A C st x) λp=>zuh A ti p st k
 | .store t a x=>onS (A.ff "type") (C.E.types t) λti=>onS (A.ff "operand") (qbo A C st a) λa=>onS (A.ff "operand") (qbo A C st x) λx=>ziu A ti a x st k
 | .nilCheck x=>onS (A.ff "operand") (qbo A C st x) λp=>match p with
  | .cell ..=>k p st
  | .mptr ..=>k p st
  | _=>A.ff "nilCheck"
 | .binOp q t x y _=>onS (A.ff "operand") (qbo A C st x) λa=>onS (A.ff "operand") (qbo A C st y) λb=>z2y A C q t a b st k
 | .unOp q _ x=>onS (A.ff "operand") (qbo A C st x) λa=>unP A q a st k
 | .convert u dst x=>onS (A.ff "type") (C.E.types u) λw=>onS (A.ff "type") (C.E.types dst) λD=>onS (A.ff "operand") (qbo A C st x) λp=>zrt A C w D p st k
 | .makeFunc (.func f) first d=>onS (A.ff "operand") (qhi A C st first.toList) λa=>onS (A.ff "operand") (qhi A C st d.toList) λc=>k (.func f a c) st
 | .slice t x lo hi none=>onS (A.ff "type") (C.E.types t) λti=>onS (A.ff "operand") (qbo A C st x) λp=>onS (A.ff "operand") (zu3 A C st lo) λlo=>onS (A.ff "operand") (zu3 A C st hi) λhi=>zwh A C ti p lo hi st k
 | .makeMap t none=>onS (A.ff "type") (C.E.types t) λti=>match ti.under with
  | .map F G=>onS (A.ff "type") (C.E.types F) λH=>onS (A.ff "type") (C.E.types G) λg=>onS (A.ff "map") (C.mcod t) λc=>onS (A.ff "map") (qrg H) λJ=>
    k (.map st.next) {st with cells:=(st.next,.mp c J g.isAgg (A.lof c []))::st.cells,next:=st.next+1}
  | _=>A.ff "map"
 | .lookup t m x ok=>onS (A.ff "operand") (qbo A C st m) λm=>onS (A.ff "operand") (qbo A C st x) λx=>q9i A C t ok m x st k
 | .mapUpdate t m x y=>onS (A.ff "operand") (qbo A C st m) λm=>onS (A.ff "operand") (qbo A C st x) λx=>onS (A.ff "operand") (qbo A C st y) λy=>qu0 A C t m x y st k
 | .insert t m x y=>onS (A.ff "operand") (qbo A C st m) λm=>onS (A.ff "operand") (qbo A C st x) λx=>onS (A.ff "operand") (qbo A C st y) λy=>qu0 A C t m x y st k
 | .fieldAddr s x j=>onS (A.ff "type") (C.E.types s) λti=>onS (A.ff "fieldAddr") (qi9 ti j) λf=>onS (A.ff "type") (C.E.types f.type) λM=>bif Nat.beq M.size 0 then A.ff "fieldAddr" else onS (A.ff "operand") (qbo A C st x) λp=>match p with
  | .cell id off lim=>k (.cell id (off+f.offset) lim) st
  | .eptr cs off=>k (.eptr cs (off+f.offset)) st
  | .mptr id c i n off=>bif Nat.beq f.offset 0 then k (.mptr id c i n off) st else A.ff "fieldAddr"
  | _=>A.ff "fieldAddr"
 | .indexAddr t x i=>onS (A.ff "type") (C.E.types t) λti=>onS (A.ff "operand") (qbo A C st x) λp=>onS (A.ff "operand") (qbo A C st i) λi=>zke A C ti p i st k
 | .index t x i=>onS (A.ff "type") (C.E.types t) λti=>onS (A.ff "operand") (qbo A C st x) λp=>onS (A.ff "operand") (qbo A C st i) λi=>ixP A C ti p i st k
 | .extract x i=>onS (A.ff "operand") (qbo A C st x) λp=>match p with
  | .tuple l=>onS (A.ff "extract") l[i]? λv=>k v st
  | _=>A.ff "extract"
 | .call c=>onS (A.ff "operand") (qhi A C st c.args.toList) λargs=>match c.callee with
  | .value f=>onS (A.ff "operand") (qbo A C st f) λf=>zbm A inl f args st k
  | .builtin b=>qlt A C b c.argTypes.toList args st k
  | .invoke ..=>A.ff "invoke"
 | _=>A.ff "operation"
def zll (A:Alg I B S Pr L K) (o:Oper) (all:Array Oper) (st:St I B S Pr L) (k:Bool->St I B S Pr L->Pr):Pr:=
 match o.guard with
 | none=>k true st
 | some (j,a)=>match (all[j]?).bind (·.dst) with
  | none=>k false st
  | some d=>match st.tmps.get d with
   | some (.lit b)=>k (b == a) st
   | some (.sb id neg b e f)=>br A st (.sb id neg b e f) λv c=>k (v == a) c
   | some (.tuple [])=>k false st
   | _=>A.ff "guard"
def qul (op:Op):Bool:=match op with | .defer _=>true | _=>false
def wpOps (A:Alg I B S Pr L K) (C:Cfg I B S Pr L) (inl:Inl I B S Pr L) (all:Array Oper):List Oper->St I B S Pr L->(St I B S Pr L->Pr)->Pr
 | [],st,k=>k st
 | o::l,st,k=>bif qul o.op then A.ff "defer" else zll A o all st λw a=>
  bif w then qdd A C inl o a λp st2=>wpOps A C inl all l (st2.put o.dst p) k
  else wpOps A C inl all l (a.put o.dst qnx) k
def zrn:P I B S Pr L->Bool
 | .func _ [] [] | .nilf=>true
 | _=>false
def zbe (A:Alg I B S Pr L K):P I B S Pr L->Option (P I B S Pr L)
 | .int k l n=>some (.int k l n)
 | .lit b=>some (.lit b)
 | .sb _ _ b _ _=>some (.sb 0 false b (A.braw b).1 (A.braw b).2)
 | .str s=>some (.str s)
 | .list c l _=>some (.list c l none)
 | .func f [] []=>some (.func f [] [])
 | .nilf=>some .nilf
 | .plist a n fx cs=>bif cs.all zrn then some (.plist a n fx cs) else none
 | _=>none
def zbg (A:Alg I B S Pr L K):List (P I B S Pr L)->Option (List (P I B S Pr L))
 | []=>some []
 | p::ps=>(zbe A p).bind λq=>(zbg A ps).map λa=>q::a
def bare (A:Alg I B S Pr L K):P I B S Pr L->Option (P I B S Pr L)
 | .agg cs=>(zbg A cs).map .agg
 | p=>zbe A p
def q0p (A:Alg I B S Pr L K):List (P I B S Pr L)->Option (List (P I B S Pr L))
 | []=>some []
 | p::ps=>(bare A p).bind λq=>(q0p A ps).map λa=>q::a
def zro (A:Alg I B S Pr L K):P I B S Pr L->Option (P I B S Pr L)
 | .tuple l=>(q0p A l).map .tuple
 | p=>bare A p
def q91 (A:Alg I B S Pr L K) (inl:Inl I B S Pr L):Inl I B S Pr L:=λt args st k=>
 match t with
 | .func g=>match q0p A args with
  | some a=>inl (.func g) (qbi a 1).1 {tmps:=.nil,n:=0,cells:=[],owns:=[],next:=(qbi a 1).2,known:=[]} λp _=>match zro A p with
   | some r=>k (qd8 st r).1 (qd8 st r).2
   | none=>A.ff "value"
  | none=>A.ff "value"
 | .round _=>A.ff "round"
inductive Src where
 | any
 | calm
 | own (j:Nat)
inductive FP3 where
 | none
 | read (id:Nat)
 | write (id:Nat)
 | stable (l:List Src)
 | call (calm:Bool)
 | lone
structure Done3 where
 i:Nat
 fp:FP3
 makes:Bool
def makes (op:Op):Bool:=
 match op with
 | .alloc _ | .box .. | .buildSlice .. | .makeMap ..=>true
 | .call c=>match c.callee with
  | .builtin .append=>true
  | .builtin _=>false
  | _=>true
 | _=>false
def elemAt (st:St I B S Pr L) (t:Nat):Bool:=
 match st.tmps.get t with
 | some (.eptr ..)=>true
 | some (.list ..)=>true
 | _=>false
structure Dirt where
 dirty:List Nat
 fresh:List (Nat×Nat×Bool)
def qj5 (g:Dirt) (st:St I B S Pr L):Op->Bool
 | .move (.tmp t)=>!g.dirty.any (Nat.beq t)&&elemAt st t
 | .indexAddr _ (.tmp t) _=>!g.dirty.any (Nat.beq t)&&elemAt st t
 | .fieldAddr _ (.tmp t) _=>!g.dirty.any (Nat.beq t)&&elemAt st t
 | _=>false
def qkq (g:Dirt) (st:St I B S Pr L) (i:Nat):Op->Option (Nat×Bool)
 | .buildSlice ..=>some (i,true)
 | .move (.tmp t)=>look g.fresh t
 | .indexAddr _ (.tmp t) _=>bif elemAt st t then (look g.fresh t).map λx=>(x.1,false) else none
 | .fieldAddr _ (.tmp t) _=>bif elemAt st t then (look g.fresh t).map λx=>(x.1,false) else none
 | _=>none
def qbn (g:Dirt) (st:St I B S Pr L) (i:Nat) (o:Oper):Option (Nat×Bool):=
 match o.dst with
 | some d=>bif Nat.blt d st.n then qkq g st i o.op else none
 | none=>none
def zij (g:Dirt) (calm:Bool) (fr:Option (Nat×Bool)):Option Nat->Dirt
 | some d=>⟨bif calm then g.dirty else d::g.dirty,match fr with
  | some x=>(d,x.1,x.2)::qck g.fresh d
  | none=>qck g.fresh d⟩
 | none=>g
def z5w (g:Dirt) (t:Nat):Src:=
 bif !g.dirty.any (Nat.beq t) then .calm else match look g.fresh t with
  | some (j,_)=>.own j
  | none=>.any
def qnn (A:Alg I B S Pr L K) (C:Cfg I B S Pr L) (st:St I B S Pr L) (x:Operand):Bool:=
 match qbo A C st x with
 | some (.plist ..)=>true
 | some (.mlist ..)=>true
 | _=>false
def quf (A:Alg I B S Pr L K) (C:Cfg I B S Pr L) (g:Dirt) (st:St I B S Pr L) (x:Operand):Bool:=
 match qbo A C st x with
 | some (.int ..) | some (.str _) | some (.lit _) | some (.sb ..) | some .nils=>true
 | some (.list ..)=>(match x with
  | .tmp t=>!g.dirty.any (Nat.beq t)
  | _=>false)
 | _=>false
def fp3 (A:Alg I B S Pr L K) (C:Cfg I B S Pr L) (all:Array Oper) (b:Array Nat) (i:Nat) (o:Oper) (a:Dirt) (st:St I B S Pr L):Option FP3:=
 bif !kv C.E o.op then some .none else
 match o.op with
 | .load _ (.tmp t)=>match st.tmps.get t with
  | some (.cell id _ _)=>some (.read id)
  | some (.mptr id ..)=>some (.read id)
  | some (.eptr ..)=>some (.stable [z5w a t])
  | _=>none
 | .store _ (.tmp t) x=>match st.tmps.get t with
  | some (.cell id _ _)=>bif (qqf x).isEmpty then some (.write id) else none
  | some (.mptr id ..)=>bif (qqf x).isEmpty then some (.write id) else none
  | _=>none
 | .mapUpdate _ (.tmp t) x y=>match st.tmps.get t with
  | some (.map id)=>bif (qqf x).isEmpty&&(qqf y).isEmpty then some (.write id) else none
  | _=>none
 | .call c=>match c.callee with
  | .value f=>bif qw0 C.E all b i then some .lone else match qbo A C st f,qhi A C st c.args.toList with
   | some (.func g first cap),some args=>bif (fnP A st g (first++args++cap)).isSome || (q0p A (first++args++cap)).isSome then some (.call (first.isEmpty&&cap.isEmpty&&c.args.toList.all (quf A C a st))) else none
   | _,_=>none
  | .builtin .append=>(match c.args.toList with
   | [x,y]=>bif qnn A C st x || qnn A C st y then none else bif qw0 C.E all b i then some .lone else none
   | _=>none)
  | _=>none
 | _=>none
def goes (i:Nat):FP3->FP3->Bool
 | .none,_=>true
 | .read _,.none=>true
 | .read _,.read _=>true
 | .read _,.stable _=>true
 | .read _,.call _=>true
 | .read i,.write j=>!Nat.beq i j
 | .read _,.lone=>false
 | .stable _,.lone=>false
 | .stable _,_=>true
 | .write _,.none=>true
 | .write i,.read j=>!Nat.beq i j
 | .write i,.write j=>!Nat.beq i j
 | .write _,.stable _=>true
 | .write _,.call _=>false
 | .write _,.lone=>false
 | .call _,.none=>true
 | .call _,.read _=>true
 | .call _,.stable _=>true
 | .call _,.call _=>true
 | .call _,.write _=>false
 | .call _,.lone=>false
 | .lone,.none=>true
 | .lone,.stable l=>l.all λs=>match s with
  | .own j=>Nat.blt i j
  | _=>false
 | .lone,_=>false
def fits (old i:Nat):FP3->Bool
 | .none=>true
 | .read j=>Nat.blt j old
 | .write j=>Nat.blt j old
 | .stable l=>l.all λs=>match s with
  | .calm=>true
  | .own j=>!Nat.beq j i
  | .any=>false
 | .call c=>c
 | .lone=>false
def qnm (old:Nat) (d:Done3) (fp:FP3):Bool:=goes d.i d.fp fp&&(!d.makes || fits old d.i fp)
def ztw (A:Alg I B S Pr L K) (inl:Inl I B S Pr L):FP3->Inl I B S Pr L
 | .call _=>q91 A inl
 | _=>inl
def q4c (A:Alg I B S Pr L K) (C:Cfg I B S Pr L) (inl:Inl I B S Pr L) (all:Array Oper) (b:Array Nat) (old:Nat):Nat->List Oper->Dirt->List Done3->St I B S Pr L->(St I B S Pr L->Pr)->Pr
 | _,[],_,_,st,k=>k st
 | i,o::l,c,done,st,k=>bif qul o.op then A.ff "defer" else zll A o all st λw a=>
  bif w then (match fp3 A C all b i o c a with
   | some fp=>bif (done.filter λd=>!(b.getD i 0).testBit d.i).all (λd=>qnm old d fp) then
     qdd A C (ztw A inl fp) o a λp st2=>bif a.cells.all (λx=>(look st2.cells x.1).isSome) then q4c A C inl all b old (i+1) l (zij c (qj5 c a o.op) (qbn c a i o) o.dst) (⟨i,fp,makes o.op⟩::done) (st2.put o.dst p) k else A.ff "frozen"
    else A.ff "order"
   | none=>A.ff "footprint")
  else q4c A C inl all b old (i+1) l (zij c false none o.dst) (⟨i,.none,false⟩::done) (a.put o.dst qnx) k
def qho:Code->List Nat
 | .region _ c _=>c.toList.filterMap (·.dst)
 | .seq a b=>qho a++qho b
 | .cond _ a b=>qho a++qho b
 | .block _ a | .loop a | .scope a=>qho a
 | .rangeFunc _ ps a b=>ps.toList++qho a++qho b
 | _=>[]
def qwi {α:Type}:List Nat->Tree α->Tree α
 | [],t=>t
 | n::l,t=>qwi l (t.del n)
inductive RSlot where
 | one (t:Nat) (k:SK)
 | var (id:Nat) (ks:List SK)
 | ml (id c:Nat)
def resolve (st:St I B S Pr L):List Slot->Option (List RSlot)
 | []=>some []
 | .one t k::l=>(resolve st l).map λr=>.one t k::r
 | .via t ks::l=>match st.tmps.get t with
  | some (.cell id _ _)=>(resolve st l).map λr=>.var id ks::r
  | _=>none
 | .elems t a::l=>match st.tmps.get t with
  | some (.mlist id c _ _)=>(resolve st l).map λr=>.ml id c::r
  | some (.list c _ _)=>(resolve st l).map λr=>.one t (.list c false false)::r
  | some .nils=>(resolve st l).map λr=>.one t (.list a false false)::r
  | _=>none
def qfe (st:St I B S Pr L):RSlot->Option (List SK×List (P I B S Pr L))
 | .one t k=>(st.tmps.get t).map λp=>([k],[p])
 | .var id ks=>(qqr st.cells id).map λcs=>(ks,cs)
 | .ml ..=>none
def ztx (A:Alg I B S Pr L K) (c:Nat):Option Nat:=
 match A.cells c (A.lget c (A.lof c []) (A.ilit 0)) with
 | [.list d _ _]=>some d
 | _=>none
def qgd (A:Alg I B S Pr L K) (st:St I B S Pr L):List RSlot->Option (List (N I B S L))
 | []=>some []
 | .ml id c::l=>(qu6 st.cells id c).bind λx=>(ztx A c).bind λd=>(qvv A st (.list d true true) x.2).bind λa=>(qgd A st l).map λr=>.l c x.1::(a++r)
 | s::l=>(qfe st s).bind λx=>(qob A st x.1 x.2).bind λa=>(qgd A st l).map λr=>a++r
def qba:List SK->List (P I B S Pr L)->List Nat
 | .list _ true _::ks,.list _ _ (some (i,_))::ps=>i::qba ks ps
 | _::ks,_::ps=>qba ks ps
 | _,_=>[]
def kl (st:St I B S Pr L):List RSlot->List Nat
 | []=>[]
 | .ml id c::l=>(match qu6 st.cells id c with
  | some (_,.list _ _ (some (i,_)))=>[i]
  | _=>[])++kl st l
 | s::l=>(match qfe st s with
  | some x=>qba x.1 x.2
  | none=>[])++kl st l
def qoq (A:Alg I B S Pr L K):List SK->List (P I B S Pr L)->St I B S Pr L->(List (P I B S Pr L)->List (N I B S L)->St I B S Pr L->Pr)->Pr
 | [],[],st,g=>g [] [] st
 | k::ks,p::ps,st,g=>match k with
  | .int e=>A.allI e λn=>qoq A ks ps st λd ns a=>g (.int e none n::d) (.i n::ns) a
  | .bool=>A.allB λb=>qoq A ks ps {st with next:=st.next+1} λd ns a=>g (.sb st.next false b (A.braw b).1 (A.braw b).2::d) (.b b::ns) a
  | .str=>A.allS λs=>qoq A ks ps st λd ns a=>g (.str s::d) (.s s::ns) a
  | .list c own f=>A.allL c λl=>bif own then qoq A ks ps {st with owns:=(st.next,bif f then 1 else 0)::st.owns,next:=st.next+1} λd ns a=>g (.list c l (some (st.next,bif f then 1 else 0))::d) (.l c l::ns) a
    else qoq A ks ps st λd ns a=>g (.list c l none::d) (.l c l::ns) a
  | .keep=>qoq A ks ps st λd ns a=>g (p::d) ns a
  | .grow=>match p with
   | .mlist id c fx _=>A.allI .i64 λn=>qoq A ks ps st λd ns a=>g (.mlist id c fx n::d) (.i n::ns) a
   | _=>A.ff "slot"
 | _,_,_,_=>A.ff "slot"
def qew (A:Alg I B S Pr L K) (st0:St I B S Pr L):List RSlot->St I B S Pr L->(List (N I B S L)->St I B S Pr L->Pr)->Pr
 | [],st,g=>g [] st
 | .ml id c::l,st,g=>onS (A.ff "slot") (qu6 st0.cells id c) λ_=>onS (A.ff "slot") (ztx A c) λd=>A.allL c λx=>A.allL d λy=>qew A st0 l {st with cells:=qhq st.cells id (.ml c x (.list d y (some (st.next,1)))),owns:=(st.next,1)::st.owns,next:=st.next+1} λb st2=>g (.l c x::.l d y::b) st2
 | s::l,st,g=>match qfe st0 s with
  | none=>A.ff "slot"
  | some x=>qoq A x.1 x.2 st λe ns a=>match s with
   | .one t _=>match e with
    | [q]=>qew A st0 l {a with tmps:=a.tmps.set t q} λb st2=>g (ns++b) st2
    | _=>A.ff "slot"
   | .var id _=>qew A st0 l {a with cells:=qhq a.cells id (.cs none e)} λb st2=>g (ns++b) st2
   | .ml ..=>A.ff "slot"
def q98:Option Int->Option Int->Bool
 | some a,some b=>decide (a=b)
 | _,_=>false
mutual
def qb4 (A:Alg I B S Pr L K) (e:St I B S Pr L):P I B S Pr L->P I B S Pr L->Option (List Pr)
 | .int k l a,.int n d b=>if k=n then some (bif q98 l d then [] else [A.eqI a b]) else none
 | .lit a,.lit b=>if a=b then some [] else none
 | .sb _ _ a _ _,.sb _ _ b _ _=>some [A.eqB a b]
 | .str a,.str b=>some [A.eqS a b]
 | .list c l none,.list g d none=>if h:g=c then some [A.eqL c l (h ▸ d)] else none
 | .list c l (some (i,s)),.list g d (some (j,m))=>bif Nat.beq i j&&Nat.beq s m&&qfh e (.list g d (some (j,m))) then (if h:g=c then some [A.eqL c l (h ▸ d)] else none) else none
 | .nils,.nils=>some []
 | .cell i o l,.cell j p d=>bif Nat.beq i j&&Nat.beq o p&&Nat.beq l d then some [] else none
 | .func f a c,.func q r g=>bif Nat.beq f q then (qq4 A e a r).bind λx=>(qq4 A e c g).map λy=>x++y else none
 | _,_=>none
def qq4 (A:Alg I B S Pr L K) (c:St I B S Pr L):List (P I B S Pr L)->List (P I B S Pr L)->Option (List Pr)
 | [],[]=>some []
 | a::d,b::e=>(qb4 A c a b).bind λx=>(qq4 A c d e).map λy=>x++y
 | _,_=>none
end
def qi7:List RSlot->List Nat
 | []=>[]
 | .var id _::l=>id::qi7 l
 | .ml id _::l=>id::qi7 l
 | _::l=>qi7 l
def qiu (A:Alg I B S Pr L K) (d:St I B S Pr L):List SK->List (P I B S Pr L)->List (P I B S Pr L)->Option (List Pr)
 | [],[],[]=>some []
 | .keep::ks,a::e,b::f=>(qb4 A d a b).bind λx=>(qiu A d ks e f).map λy=>x++y
 | .grow::ks,.mlist i c x _::e,.mlist g h j _::f=>bif Nat.beq i g&&Nat.beq c h&&(x == j) then qiu A d ks e f else none
 | .grow::_,_,_=>none
 | _::ks,_::e,_::f=>qiu A d ks e f
 | _,_,_=>none
def qiv (A:Alg I B S Pr L K) (st b:St I B S Pr L):List RSlot->Option (List Pr)
 | []=>some []
 | .ml ..::l=>qiv A st b l
 | s::l=>(qfe st s).bind λx=>(qfe b s).bind λy=>(qiu A b x.1 x.2 y.2).bind λa=>(qiv A st b l).map λr=>a++r
def zec:LMode->LMode->Bool
 | .ready,.ready=>true
 | .busy,.busy=>true
 | _,_=>false
def q3c (A:Alg I B S Pr L K) (a:St I B S Pr L) (id:Nat):Cont I B S Pr L->Option (List Pr)
 | .cs t cs=>bif z77 t (qox a.cells id) then (qqr a.cells id).bind λb=>qq4 A a cs b else none
 | .lp r=>match look a.cells id with
  | some (.lp c)=>bif zec r.mode c.mode then some [] else none
  | _=>none
 | _=>none
def qlk (A:Alg I B S Pr L K) (a:List Nat) (b:St I B S Pr L):List (Nat×Cont I B S Pr L)->Option (List Pr)
 | []=>some []
 | (id,ct)::l=>bif a.any (λi=>Nat.beq i id) then qlk A a b l else
     (q3c A b id ct).bind λx=>(qlk A a b l).map λy=>x++y
def qfd (st:St I B S Pr L) (b:List Nat) (a:List RSlot):St I B S Pr L:=
 {st with tmps:=qwi b st.tmps,owns:=(kl st a).foldl qck st.owns}
def q5v (A:Alg I B S Pr L K) (j:Nat) (seen:List (N I B S L)) (c:List RSlot) (dec:Option (List (N I B S L))) (st0 d st:St I B S Pr L):Pr:=
 match qgd A st c,qiv A st0 st c,qlk A (qi7 c) st st0.cells with
 | some ns,some a,some b=>
  bif distinct (kl st c)&&(kl st c).all (λi=>!(d.owns.any λx=>Nat.beq x.1 i))&&d.owns.all (λx=>match look st.owns x.1 with
    | some s=>Nat.beq s x.2
    | none=>false) then
   zrk A a (zrk A b (A.and (A.inv j (ns++seen)) (match dec with
    | some m=>A.dec j (ns++seen) (m++seen)
    | none=>A.tt)))
  else A.ff "lists of their own"
 | _,_,_=>A.ff "state"
def ztl (A:Alg I B S Pr L K) (j:Nat) (b c:List Slot) (f:List Nat) (st:St I B S Pr L) (body:St I B S Pr L->(Ex->St I B S Pr L->Pr)->Pr) (k:Ex->St I B S Pr L->Pr):Pr:=
 onS (A.ff "slots") (resolve st b) λrs=>onS (A.ff "slots") (qgd A st rs) λd=>onS (A.ff "sees") ((resolve st c).bind (qgd A st)) λa=>
  bif distinct (kl st rs) then A.and (A.inv j (d++a)) (qew A st rs (qfd st f rs) λns e=>A.imp (A.inv j (ns++a))
   (body e λex st2=>match ex with
     | .normal=>q5v A j a rs (some ns) st (qfd st f rs) st2
     | ex=>k ex st2)) else A.ff "lists of their own"
def zc0 {σ:Type} (step:σ->(σ->Pr)->Pr) (bad:Pr):Nat->σ->Pr
 | 0,_=>bad
 | n+1,s=>step s λa=>zc0 step bad n a
def inRound (rd:Option Nat) (st:St I B S Pr L):Bool:=
 match rd with
 | none=>true
 | some id=>match look st.cells id with
  | some (.lp _)=>true
  | _=>false
def z2h (A:Alg I B S Pr L K) (st:St I B S Pr L) (id:Nat) (a:St I B S Pr L) (k:Ex->St I B S Pr L->Pr):Pr:=
 match look a.cells id with
 | some (.lp r)=>match r.mode with
  | .ready=>k .normal {a with cells:=qck a.cells id,tmps:=st.tmps,n:=st.n}
  | .done none=>k .ret {a with cells:=qck a.cells id,tmps:=st.tmps,n:=st.n}
  | .done (some i)=>k (.exit i) {a with cells:=qck a.cells id,tmps:=st.tmps,n:=st.n}
  | .busy=>A.ff "loop"
 | _=>A.ff "loop"
def zhz (A:Alg I B S Pr L K) (C:Cfg I B S Pr L) (inl:Inl I B S Pr L) (r:LRec I B S Pr L) (v:P I B S Pr L) (st:St I B S Pr L) (k:Ex->St I B S Pr L->Pr):Pr:=
 match v with
 | .func g first cap=>bif qos C.E g then
   inl (.func g) (first++[.yield (st.next+1)]++cap) {st with cells:=(st.next+1,.lp r)::st.cells,next:=st.next+2} λ_ a=>z2h A st (st.next+1) a k
  else A.ff "no body"
 | _=>A.ff "range"
def zgp (A:Alg I B S Pr L K) (st:St I B S Pr L) (t i:Nat) (k:St I B S Pr L->Pr):Pr:=
 match st.tmps.get t with
 | some (.cell a _ _)=>onS (A.ff "close") (qqr st.cells a) λcs=>match cs[i]? with
  | some (.mlist id c _ n)=>onS (A.ff "close") (qu6 st.cells id c) λl=>onS (A.ff "close") (A.pack c [l.2]) λr=>
    A.and (A.eqI n (A.llen c l.1)) (A.and r.1 (A.and (A.lcat c l.1 (A.lof c [r.2])).1 (k {st with cells:=qhq (qck st.cells id) a (.cs (qox st.cells a) (qf6 cs i [.list c (A.lcat c l.1 (A.lof c [r.2])).2 none]))})))
  | _=>k st
 | _=>k st
def qb7 (A:Alg I B S Pr L K) (C:Cfg I B S Pr L) (inl:Inl I B S Pr L) (rd:Option Nat) (fn:Nat):Nat->Code->St I B S Pr L->(Ex->St I B S Pr L->Pr)->Pr
 | _,.skip,st,k=>k .normal st
 | _,.label _,st,k=>k .normal st
 | _,.exit id,st,k=>k (.exit id) st
 | _,.ret,st,k=>k .ret st
 | p,.seq a b,st,k=>match C.ann fn p with
  | some (.cut j e h)=>onS (A.ff "cut") (resolve st e) λrs=>onS (A.ff "sees") ((resolve st h).bind (qgd A st)) λo=>
    A.and (qb7 A C inl rd fn (2 * p) a st λex d=>match ex with
     | .normal=>q5v A j o rs none st (qfd st (qho a) rs) d
     | ex=>k ex d)
    (qew A st rs (qfd st (qho a) rs) λns d=>A.imp (A.inv j (ns++o)) (qb7 A C inl rd fn (2 * p+1) b d k))
  | some (.shut t i)=>zgp A st t i λst=>qb7 A C inl rd fn (2 * p) a st λex d=>match ex with
   | .normal=>qb7 A C inl rd fn (2 * p+1) b d k
   | ex=>k ex d
  | _=>qb7 A C inl rd fn (2 * p) a st λex d=>match ex with
   | .normal=>qb7 A C inl rd fn (2 * p+1) b d k
   | ex=>k ex d
 | p,.cond c a b,st,k=>match qbo A C st c with
  | some v=>br A st v λt d=>bif t then qb7 A C inl rd fn (2 * p) a d k else qb7 A C inl rd fn (2 * p+1) b d k
  | none=>A.ff "operand"
 | p,.block id c,st,k=>qb7 A C inl rd fn (2 * p) c st λex d=>match ex with
  | .exit q=>bif Nat.beq q id then k .normal d else k (.exit q) d
  | ex=>k ex d
 | p,.scope c,st,k=>qb7 A C inl rd fn (2 * p) c st k
 | p,.loop c,st,k=>match C.ann fn p with
  | some (.inv j e h)=>ztl A j e h (qho c) st (λs g=>qb7 A C inl rd fn (2 * p) c s g) k
  | some (.peel j e h)=>qb7 A C inl rd fn (2 * p) c st λex d=>match ex with
    | .normal=>ztl A j e h (qho c) d (λs g=>qb7 A C inl rd fn (2 * p) c s g) k
    | ex=>k ex d
  | some (.unroll n)=>zc0 (λs g=>qb7 A C inl rd fn (2 * p) c s λex d=>match ex with
    | .normal=>g d
    | ex=>k ex d) (A.ff "unroll") n st
  | _=>A.ff "loop"
 | _,.region _ l r,st,k=>bif r then q4c A C inl l (Region.before l) st.next 0 l.toList ⟨[],[]⟩ [] st λd=>k .normal d
   else wpOps A C inl l l.toList st λd=>k .normal d
 | p,.rangeFunc f m a b,st,k=>bif inRound rd st then onS (A.ff "operand") (qbo A C st f) λv=>zhz A C inl (⟨st.tmps,st.n,m.toList,a,b,fn,p,.ready⟩) v st k else A.ff "round"
 | _,_,_,_=>A.ff "code"
def qj2 (A:Alg I B S Pr L K) (C:Cfg I B S Pr L) (st:St I B S Pr L):List ResultVar->Option (List (P I B S Pr L))
 | []=>some []
 | .tmp t::rs=>(st.tmps.get t).bind λv=>(qj2 A C st rs).map λb=>v::b
 | .cell a t::rs=>(C.E.types t).bind λti=>(st.tmps.get a).bind λp=>(zkt st ti p).bind λv=>(qj2 A C st rs).map λb=>v::b
def zhl:List (P I B S Pr L)->P I B S Pr L
 | [v]=>v
 | a=>.tuple a
def zvv (A:Alg I B S Pr L K) (args:List (P I B S Pr L)) (st:St I B S Pr L) (k:P I B S Pr L->St I B S Pr L->Pr):Pr:=
 match args with
 | [.cell id off lim]=>onS (A.ff "String") (qqr st.cells id) λcs=>bif Nat.ble (off+2) lim&&Nat.ble lim cs.length then (match cs[off+1]? with
  | some .nils=>k (.str (A.slit [])) st
  | some (.list c l (some (i,s)))=>if h:c=0 then (bif qfh st (.list c l (some (i,s)))&&Nat.beq (s % 2) 1 then A.and (A.leI (A.llen c l) (A.ilit 140737488355328)) (k (.str (A.bstr (h ▸ l))) {st with owns:=qck st.owns i}) else A.ff "String") else A.ff "String"
  | _=>A.ff "String") else A.ff "String"
 | _=>A.ff "String"
mutual
def P.refs:P I B S Pr L->List Nat
 | .cell id _ _=>[id]
 | .mlist id _ _ _=>[id]
 | .mptr id _ _ _ _=>[id]
 | .map id=>[id]
 | .yield id=>[id]
 | .func _ a c=>qvm a++qvm c
 | .iface _ p=>p.refs
 | .agg l=>qvm l
 | .tuple l=>qvm l
 | .plist _ _ _ l=>qvm l
 | _=>[]
def qvm:List (P I B S Pr L)->List Nat
 | []=>[]
 | p::ps=>p.refs++qvm ps
end
def Cont.refs:Cont I B S Pr L->List Nat
 | .cs _ ps=>qvm ps
 | .ml _ _ p=>p.refs
 | _=>[]
def zg7 (lo:Nat) (cells:List (Nat×Cont I B S Pr L)):Nat->List Nat->List Nat
 | 0,m=>m
 | n+1,m=>zg7 lo cells n (m++cells.flatMap λx=>bif Nat.ble lo x.1&&m.any (Nat.beq x.1) then x.2.refs else [])
def gcC (lo:Nat) (a:List (P I B S Pr L)) (cells:List (Nat×Cont I B S Pr L)):List (Nat×Cont I B S Pr L):=
 bif cells.all (λx=>Nat.blt x.1 lo) then cells else
 let m:=zg7 lo cells 3 ((qvm a++cells.flatMap λx=>bif Nat.ble lo x.1 then [] else x.2.refs).filter (Nat.ble lo))
 cells.filter λx=>!Nat.ble lo x.1 || m.any (Nat.beq x.1)
def zap (A:Alg I B S Pr L K) (C:Cfg I B S Pr L) (inl:Inl I B S Pr L) (f:Nat) (args:List (P I B S Pr L)) (st:St I B S Pr L) (k:P I B S Pr L->St I B S Pr L->Pr):Pr:=
 bif C.ans f then A.ff "answered" else bif C.prim f then zvv A args st k else
 match C.E.funcs f with
 | some b=>match b.body with
  | some c=>qb7 A C inl none f 1 c {st with tmps:=Tree.ofList args,n:=max args.length b.ntmps} λex a=>
   let out:Pr:=onS (A.ff "results") (qj2 A C a b.results) λd=>k (zhl d) {a with tmps:=st.tmps,n:=st.n,cells:=gcC st.next d a.cells}
   match ex with
   | .normal=>out
   | .ret=>out
   | _=>A.ff "way out"
  | none=>match b.ext,args with
   | 4,[x]=>k x st
   | _,_=>A.ff "no body"
 | none=>A.ff "no function"
def qg5 (n:Nat):List Tmp->List (P I B S Pr L)->Tree (P I B S Pr L)->Option (Tree (P I B S Pr L))
 | [],[],t=>some t
 | p::ps,v::a,t=>bif Nat.blt p n then qg5 n ps a (t.set p v) else none
 | _,_,_=>none
def z6f (A:Alg I B S Pr L K) (id:Nat) (r:LRec I B S Pr L) (st:St I B S Pr L) (ex:Ex) (st2:St I B S Pr L) (k:P I B S Pr L->St I B S Pr L->Pr):Pr:=
 match ex with
 | .normal=>k (.lit true) {st2 with cells:=qhq st2.cells id (.lp {r with mode:=.ready}),tmps:=st.tmps,n:=st.n}
 | .ret=>k (.lit false) {st2 with cells:=qhq st2.cells id (.lp {r with mode:=.done none}),tmps:=st.tmps,n:=st.n}
 | .exit i=>k (.lit false) {st2 with cells:=qhq st2.cells id (.lp {r with mode:=.done (some i)}),tmps:=st.tmps,n:=st.n}
 | _=>A.ff "round"
def zaq (A:Alg I B S Pr L K) (C:Cfg I B S Pr L) (inl:Inl I B S Pr L) (id:Nat) (args:List (P I B S Pr L)) (st:St I B S Pr L) (k:P I B S Pr L->St I B S Pr L->Pr):Pr:=
 match look st.cells id with
 | some (.lp r)=>match r.mode with
  | .ready=>onS (A.ff "round") (qg5 r.n r.params args r.tmps) λt=>
    qb7 A C inl (some id) r.fn (2 * r.pos) r.assign {st with tmps:=t,n:=r.n} λex a=>match ex with
     | .normal=>(match look a.cells id with
      | some (.lp b)=>(match b.mode with
       | .ready=>qb7 A C inl (some id) r.fn (2 * r.pos+1) r.body {a with cells:=qhq a.cells id (.lp {r with mode:=.busy})} λex st2=>(match look st2.cells id with
        | some (.lp _)=>z6f A id r st ex st2 k
        | _=>A.ff "round")
       | _=>A.ff "round")
      | _=>A.ff "round")
     | _=>A.ff "round"
  | _=>A.ff "round"
 | _=>A.ff "round"
def zlo (A:Alg I B S Pr L K) (C:Cfg I B S Pr L):Nat->Inl I B S Pr L
 | 0=>λ_ _ _ _=>A.ff "too deep"
 | n+1=>λt args st k=>match t with
  | .func f=>zap A C (zlo A C n) f args st k
  | .round id=>zaq A C (zlo A C n) id args st k
def meets (A:Alg I B S Pr L K) (st:St I B S Pr L):P I B S Pr L->P I B S Pr L->Option (List Pr)
 | .int k _ a,.int d _ b=>if k=d then some [A.eqI a b] else none
 | .lit a,.sb _ _ b _ _=>some [A.eqB (A.blit a) b]
 | .sb _ _ a _ _,.sb _ _ b _ _=>some [A.eqB a b]
 | .str a,.str b=>some [A.eqS a b]
 | p,.list c l own=>bif own.isSome&&!qfh st p then none else (asL A c p).map λe=>[A.eqL c e l]
 | _,_=>none
def qoz (A:Alg I B S Pr L K) (st:St I B S Pr L):List (P I B S Pr L)->List (P I B S Pr L)->Option (List Pr)
 | [],[]=>some []
 | a::c,b::d=>(meets A st a b).bind λx=>(qoz A st c d).map λy=>x++y
 | _,_=>none
def qma:List (P I B S Pr L)->List (P I B S Pr L)->List Nat
 | .list _ _ (some (i,_))::ps,.list _ _ (some _)::rs=>i::qma ps rs
 | _::ps,_::rs=>qma ps rs
 | _,_=>[]
def qog:P I B S Pr L->P I B S Pr L->Bool
 | .agg a,.agg b=>Nat.beq a.length b.length
 | .agg _,_=>false
 | .tuple _,_=>false
 | _,.agg _=>false
 | _,.tuple _=>false
 | _,_=>true
def qsv:List (P I B S Pr L)->List (P I B S Pr L)->Bool
 | [],[]=>true
 | p::ps,r::rs=>qog p r&&qsv ps rs
 | _,_=>false
def zla:P I B S Pr L->P I B S Pr L->Bool
 | .tuple a,.tuple b=>qsv a b
 | .tuple _,_=>false
 | _,.tuple _=>false
 | p,r=>qog p r
def ends (A:Alg I B S Pr L K) (r p:P I B S Pr L) (st:St I B S Pr L):Pr:=
 bif zla p r&&distinct (qma p.flat r.flat)&&distinct (qcr r.flat) then (match qoz A st p.flat r.flat with
  | some l=>zrk A l A.tt
  | none=>A.ff "answer") else A.ff "answer's shape"
def zy (A:Alg I B S Pr L K) (C:Cfg I B S Pr L) (depth f:Nat) (args:List (P I B S Pr L)) (r:P I B S Pr L):Pr:=
 let x:=qbi args 1
 zap A C (zlo A C depth) f x.1 {tmps:=.nil,n:=0,cells:=[],owns:=[],next:=x.2,known:=[]} (ends A r)
end Go.E3
/- THE PLAIN ALGEBRA of E3: numbers, bytes, lists as they are; the answer a proposition. -/
namespace Go.E3
open Go Go.E2
@[reducible] def InK (k:IntKind) (x:Int):Prop:=
 match k with
 | .i8=>-128<=x/\x<=127
 | .i16=>-32768<=x/\x<=32767
 | .i32=>-2147483648<=x/\x<=2147483647
 | .i64=>-9223372036854775808<=x/\x<=9223372036854775807
 | .u8=>0<=x/\x<=255
 | .u16=>0<=x/\x<=65535
 | .u32=>0<=x/\x<=4294967295
 | .u64=>0<=x/\x<=18446744073709551615
abbrev I64 (x:Int):Prop:=-9223372036854775808<=x/\x<=9223372036854775807
abbrev U8 (x:Int):Prop:=0<=x/\x<=255
abbrev Wn (i n:Int):Prop:=0<=i/\i<n
abbrev qh (n:Nat):Prop:=n<=1000000000
def ix {α:Type} [Inhabited α] (l:List α) (i:Int):α:=l.getD i.toNat default
def bx (s:List UInt8) (i:Int):Int:=((s.getD i.toNat 0).toNat:Int)
def fr {α:Type} (l:List α) (i:Int):List α:=l.drop i.toNat
def upto {α:Type} (l:List α) (j:Int):List α:=l.take j.toNat
def sub {α:Type} (l:List α) (i j:Int):List α:=(l.take j.toNat).drop i.toNat
abbrev ln {α:Type} (l:List α):Int:=(l.length:Int)
structure Codecs (K:Nat->Type) where
 dflt:(c:Nat)->K c
 u8:K 0=UInt8
 cells:(c:Nat)->K c->List (P Int Bool (List UInt8) Prop (λc=>List (K c)))
 pack:(c:Nat)->List (P Int Bool (List UInt8) Prop (λc=>List (K c)))->Option (Prop×K c)
abbrev PV (K:Nat->Type):=P Int Bool (List UInt8) Prop (λc=>List (K c))
abbrev NV (K:Nat->Type):=N Int Bool (List UInt8) (λc=>List (K c))
abbrev StV (K:Nat->Type):=St Int Bool (List UInt8) Prop (λc=>List (K c))
abbrev ZC (K:Nat->Type):=Cfg Int Bool (List UInt8) Prop (λc=>List (K c))
abbrev ZT (K:Nat->Type):=Cont Int Bool (List UInt8) Prop (λc=>List (K c))
abbrev ZI (K:Nat->Type):=Inl Int Bool (List UInt8) Prop (λc=>List (K c))
abbrev z2n (K:Nat->Type):=Alg Int Bool (List UInt8) Prop (λc=>List (K c)) K
abbrev Tbl (K:Nat->Type):=Nat->Option (List Sh×(List (NV K)->Option (Prop×PV K)))
def z4a (op:BinOp) (k:IntKind) (a b:Int):Option (Prop×Int):=
 match op with
 | .add=>some (InK k (a+b),a+b)
 | .sub=>some (InK k (a-b),a-b)
 | .mul=>some (InK k (a * b),a * b)
 | .quo=>some (b≠0/\InK k (a.tdiv b),a.tdiv b)
 | .rem=>some (b≠0,a.tmod b)
 | _=>none
def qyg (op:BinOp) (a b:Int):Option (Bool×Prop×Prop):=
 match op with
 | .eql=>some (decide (a=b),a=b,a≠b)
 | .neq=>some (decide (a≠b),a≠b,a=b)
 | .lss=>some (decide (a<b),a<b,b<=a)
 | .leq=>some (decide (a<=b),a<=b,b<a)
 | .gtr=>some (decide (b<a),b<a,a<=b)
 | .geq=>some (decide (b<=a),b<=a,a<b)
 | _=>none
def qyv (op:BinOp) (a b:List UInt8):Option (Bool×Prop×Prop):=
 match op with
 | .eql=>some (decide (a=b),a=b,a≠b)
 | .neq=>some (decide (a≠b),a≠b,a=b)
 | .lss=>some (qce a b,qce a b=true,qce a b=false)
 | _=>none
def qp2:List (Bool×Prop×Prop)->Bool×Prop×Prop
 | []=>(true,True,False)
 | [c]=>c
 | c::cs=>let r:=qp2 cs;(c.1&&r.1,c.2.1/\r.2.1,c.2.2∨r.2.2)
def qrz {α:Type} (l:List α) (lo hi:Option Int):Prop×List α:=
 match lo,hi with
 | none,none=>(True,l)
 | some i,none=>(0<=i/\i<=ln l,fr l i)
 | none,some j=>(0<=j/\j<=ln l,upto l j)
 | some i,some j=>(0<=i/\i<=j/\j<=ln l,sub l i j)
def qjx {K:Nat->Type}:List (PV K)->List (PV K)->Bool
 | [],[]=>true
 | .int k _ a::l,.int d _ b::c=>decide (k=d)&&(a == b)&&qjx l c
 | .str a::l,.str b::c=>(a == b)&&qjx l c
 | .lit a::l,.lit b::c=>(a == b)&&qjx l c
 | .lit a::l,.sb _ _ b _ _::c=>(a == b)&&qjx l c
 | .sb _ _ a _ _::l,.lit b::c=>(a == b)&&qjx l c
 | .sb _ _ a _ _::l,.sb _ _ b _ _::c=>(a == b)&&qjx l c
 | _,_=>false
def zhg {K:Nat->Type} (X:Codecs K) (c a:Nat) (x y:K c):Bool:=qjx ((X.cells c x).take a) ((X.cells c y).take a)
def qtc {K:Nat->Type} (X:Codecs K) (c a:Nat) (l:List (K c)) (y:K c):Bool:=l.any λx=>zhg X c a y x
def q4v {K:Nat->Type} (X:Codecs K) (c a:Nat):List (K c)->K c->K c
 | [],y=>y
 | x::l,y=>bif zhg X c a y x then x else q4v X c a l y
def q2y {K:Nat->Type} (X:Codecs K) (c a:Nat):List (K c)->K c->List (K c)
 | [],y=>[y]
 | x::l,y=>bif zhg X c a y x then y::l else x::q2y X c a l y
def qo {K:Nat->Type} (X:Codecs K) (tbl:Tbl K) (inv:Nat->List (NV K)->Prop) (meas:Nat->List (NV K)->Nat):z2n K where
 ff _:=False
 tt:=True
 and:=And
 imp p q:=p->q
 ilit n:=n
 iop:=z4a
 icmp:=qyg
 ineg k n:=(InK k (-n),-n)
 iconv k n:=(InK k n,n)
 ibest mx a b:=if mx then (if b > a then b else a) else (if b<a then b else a)
 blit b:=b
 bnot b:=!b
 beq a b:=(a == b,a=b,a≠b)
 braw b:=(b=true,b=false)
 ball:=qp2
 slit s:=s
 scat a b:=(qh (a.length+b.length),a++b)
 scmp:=qyv
 slen s:=ln s
 sget:=bx
 ssub:=qrz
 lof _ l:=l
 llen _ l:=ln l
 lget c l i:=l.getD i.toNat (X.dflt c)
 lsub _ l lo hi:=qrz l lo hi
 lcat _ l x:=(qh (l.length+x.length),l++x)
 lset _ l i x:=l.set i.toNat x
 lrep _ x n:=List.replicate n.toNat x
 leI a b:=a<=b
 sbytes s:=X.u8 ▸ s
 bstr l:=X.u8 ▸ l
 within:=Wn
 eqI a b:=a=b
 eqB a b:=a=b
 eqS a b:=a=b
 eqL _ a b:=a=b
 allI _ g:=∀ n:Int,g n
 allB g:=∀ b:Bool,g b
 allS g:=∀ s:List UInt8,g s
 allL c g:=∀ l:List (K c),g l
 inv:=inv
 dec j ns ms:=meas j ns<meas j ms
 fn:=tbl
 cells:=X.cells
 pack:=X.pack
 mhas:=qtc X
 mget:=q4v X
 mput:=q2y X
end Go.E3
/- E3: VALUES WITHOUT MEMORY AGAINST E2's: the relation, and what keeps it. -/
namespace Go.E3
open Go Go.E2
variable {K:Nat->Type}
structure LG where
 lt:Tree V
 ln:Nat
 lp:List Tmp
 la:Code
 lb:Code
 ld:Nat
structure Wd where
 g:Nat->Option O
 M:Nat->Prop
 c:Nat->Nat
 nu:Nat->Bool
 n:Nat
 owns:Nat->Option Nat
 eta:Nat->Option Nat
 ce:TypeId->Option Nat
 cl:Nat->Prop
 nx:Nat
 b:Nat
 lp:Nat->Option LG
 fl:Nat
def za2 (w:Wd) (sz:Nat->Nat) (i c:Nat):V->Prop
 | .nils=>True
 | .slice nm gn off len _ cap=>cap=some len∨(cap=none/\w.eta i=some nm/\∃ cs e a b ex,w.g nm=some (.row cs e gn a b ex)/\off+len * sz c=cs.length/\b<=cs.length/\w.ce e=some c)
 | _=>False
def NB:V->Prop
 | .nils=>True
 | .slice _ _ off len _ cap=>cap=none/\off=0/\0<len
 | _=>False
def qpu (w:Wd) (sz:Nat->Nat) (c:Nat) (own:Option (Nat×Nat)) (v:V):Prop:=
 match own with
 | none=>True
 | some (i,s)=>i<w.n/\(∀ a,w.owns i=some a->s<=a)/\(w.owns i=some s->za2 w sz i c v)/\(s % 2=1->NB v)
inductive Rep (X:Codecs K) (sz:Nat->Nat) (w:Wd):PV K->V->Prop
 | int {k:IntKind} {lit:Option Int} {n:Int} (h:∀ m,lit=some m->m=n):Rep X sz w (.int k lit n) (.int k n)
 | lit {b:Bool}:Rep X sz w (.lit b) (.bool b)
 | sb {id:Nat} {neg b:Bool} {pt pf:Prop} (h1:pt↔b=true) (h2:pf↔b=false) (h3:id≠0->id<w.n/\b=(w.nu id != neg)):Rep X sz w (.sb id neg b pt pf) (.bool b)
 | str {s:List UInt8}:Rep X sz w (.str s) (.str s)
 | nils:Rep X sz w .nils .nils
 | nlist {c:Nat} {own:Option (Nat×Nat)} (h:qpu w sz c own .nils):Rep X sz w (.list c [] own) .nils
 | list {c:Nat} {l:List (K c)} {own:Option (Nat×Nat)} {nm gn off len z:Nat} {cap:Option Nat} {cs:List V} {e:TypeId} {gen floor frz:Nat} {ex:Bool}
   (hg:w.g nm=some (.row cs e gen floor frz ex)) (hf:floor<=gn) (hM:¬ w.M nm) (hlen:len=l.length) (hb:off+len * sz c<=cs.length) (hz:0<sz c/\(z=sz c∨(0<z/\l=[]/\cap=some 0))) (hcap:∀ k,cap=some k->len<=k)
   (hc:∀ i (h:i<l.length) (j:Nat) (p:PV K),(X.cells c (l[i]'h))[j]? = some p->Rep X sz w p (cs.getD (off+i * sz c+j) j8))
   (ho:qpu w sz c own (.slice nm gn off len z cap)):Rep X sz w (.list c l own) (.slice nm gn off len z cap)
 | cell {id off lim:Nat} (h:id<w.n):Rep X sz w (.cell id off lim) (.ptr (w.c id) 0 off lim)
 | eptr {ps:List (PV K)} {off nm gn d lim:Nat} {cs:List V} {e:TypeId} {gen floor frz:Nat} {ex:Bool}
   (hg:w.g nm=some (.row cs e gen floor frz ex)) (hf:floor<=gn) (hM:¬ w.M nm) (h1:d+ps.length<=lim) (h2:lim<=cs.length)
   (hc:∀ (j:Nat) (p:PV K),ps[j]? = some p->Rep X sz w p (cs.getD (d+j) j8)):Rep X sz w (.eptr ps off) (.ptr nm gn (d+off) lim)
 | mlist {id c:Nat} {fx:Bool} {n:Int} {g:Nat} {cs:List V} {e:TypeId} {gen fl fz:Nat} {ex:Bool} (h:id<w.n) (hcl:w.cl id) (h0:0<=n) (hz:sz c=1) (hg:w.g (w.c id)=some (.row cs e gen fl fz ex)) (hl:n.toNat+1<=cs.length) (hs:n.toNat+1=cs.length->g=gen) :
   Rep X sz w (.mlist id c fx n) (.slice (w.c id) g 0 (n.toNat+1) 1 none)
 | mptr {id c:Nat} {i n:Int} {off g:Nat} {cs:List V} {e:TypeId} {gen fl fz:Nat} {ex:Bool} (h:id<w.n) (hcl:w.cl id) (h0:0<=n) (hg:w.g (w.c id)=some (.row cs e gen fl fz ex)) (hl:n.toNat+1<=cs.length) (hs:n.toNat+1=cs.length->g=gen) :
   Rep X sz w (.mptr id c i n off) (.ptr (w.c id) g n.toNat (n.toNat+1))
 | nilp:Rep X sz w .nilp .nilp
 | map {id:Nat} (h:id<w.n):Rep X sz w (.map id) (.map (w.c id))
 | func {f:Nat} {a c:List (PV K)} {va vc:List V} (ha:a.length=va.length) (hc:c.length=vc.length)
   (h1:∀ (j:Nat) (p:PV K),a[j]? = some p->Rep X sz w p (va.getD j j8)) (h2:∀ (j:Nat) (p:PV K),c[j]? = some p->Rep X sz w p (vc.getD j j8)):Rep X sz w (.func f a c) (.func (.func f) va vc)
 | nilf:Rep X sz w .nilf .nilf
 | yield {id:Nat} (h:id<w.n):Rep X sz w (.yield id) (.func (.yield (w.c id)) [] [])
 | iface {t:TypeId} {p:PV K} {v:V} (h:Rep X sz w p v):Rep X sz w (.iface t p) (.iface t v)
 | nili:Rep X sz w .nili .nili
 | agg {ps:List (PV K)} {vs:List V} (hl:ps.length=vs.length) (h:∀ (j:Nat) (p:PV K),ps[j]? = some p->Rep X sz w p (vs.getD j j8)):Rep X sz w (.agg ps) (.agg vs)
 | tuple {ps:List (PV K)} {vs:List V} (hl:ps.length=vs.length) (h:∀ (j:Nat) (p:PV K),ps[j]? = some p->Rep X sz w p (vs.getD j j8)):Rep X sz w (.tuple ps) (.tuple vs)
 | plist {es n:Nat} {fx:Bool} {ps:List (PV K)} {nm gn d:Nat} {cs:List V} {e:TypeId} {gen floor frz:Nat} {ex:Bool}
   (hg:w.g nm=some (.row cs e gen floor frz ex)) (hf:floor<=gn) (hM:¬ w.M nm) (h0:0<es) (h1:ps.length=n * es) (h2:d+ps.length<=cs.length)
   (hc:∀ (j:Nat) (p:PV K),ps[j]? = some p->Rep X sz w p (cs.getD (d+j) j8)):Rep X sz w (.plist es n fx ps) (.slice nm gn d n es (bif fx then some n else none))
def qu (X:Codecs K) (sz:Nat->Nat) (w:Wd) (ps:List (PV K)) (a:List V):Prop:=
 ps.length=a.length/\∀ (j:Nat) (p:PV K),ps[j]? = some p->Rep X sz w p (a.getD j j8)
structure LeB (w w':Wd):Prop where
 n:w.n<=w'.n
 mem:∀ nm cs e gen floor frz ex,w.g nm=some (.row cs e gen floor frz ex)->¬ w.M nm->¬ w'.M nm/\∃ cs2 gen' frz' ex',w'.g nm=some (.row (cs++cs2) e gen' floor frz' ex')
 c:∀ id,id<w.n->w'.c id=w.c id
 nu:∀ id,id<w.n->w'.nu id=w.nu id
 o1:∀ i,i<w.n->w.owns i=none->w'.owns i=none
 o2:∀ i s s',i<w.n->w.owns i=some s->w'.owns i=some s'->s<=s'
 o3:∀ i s,i<w.n->w.owns i=some s->w'.owns i=some s->w'.eta i=w.eta i/\∀ nm,w.eta i=some nm->w.g nm≠some .dfr->w'.g nm=w.g nm
 ce:w'.ce=w.ce
 cl:∀ id,id<w.n->(w'.cl id↔w.cl id)
 nx:w.nx<=w'.nx
 b:w'.b=w.b
 Mu:∀ n,n<w.b->w.M n->w'.M n
 lp:∀ id,id<w.n->w'.lp id=w.lp id
 gm:∀ id,id<w.n->w.cl id->∀ cs e gen fl fz ex,w.g (w.c id)=some (.row cs e gen fl fz ex)->∃ cs' gen' fl' fz' ex',w'.g (w.c id)=some (.row cs' e gen' fl' fz' ex')/\cs.length<=cs'.length/\(cs.length=cs'.length->gen'=gen)
structure Le (w w':Wd):Prop extends LeB w w' where
 df:∀ m,w.g m=some .dfr->w'.g m=some .dfr
 fl:w'.fl=w.fl
theorem LeB.refl (w:Wd):LeB w w:=
 ⟨zN _,λnm cs e gen a b ex h d=>⟨d,[],gen,b,ex,by rw [zJ];exact h⟩,λ_ _=>rfl,λ_ _=>rfl,λ_ _ h=>h,
  λ_ _ _ _ h c=>by rw [h] at c;cases c;exact zN _,λ_ _ _ _ _=>⟨rfl,λ_ _ _=>rfl⟩,rfl,λ_ _=>.rfl,zN _,rfl,λ_ _ h=>h,λ_ _=>rfl,λ_ _ _ _ _ _ _ _ _ h=>⟨_,_,_,_,_,h,zN _,λ_=>rfl⟩⟩
theorem qor {w w':Wd} (h:∀ id,id<w.n->w.cl id->w'.g (w.c id)=w.g (w.c id)):∀ id,id<w.n->w.cl id->∀ cs e gen fl fz ex,w.g (w.c id)=some (.row cs e gen fl fz ex)->∃ b a d f ex',w'.g (w.c id)=some (.row b e a d f ex')/\cs.length<=b.length/\(cs.length=b.length->a=gen):=
 λid hi i _ _ _ _ _ _ j=>⟨_,_,_,_,_,(h id hi i).trans j,zN _,λ_=>rfl⟩
theorem Le.refl (w:Wd):Le w w:=⟨.refl w,λ_ h=>h,rfl⟩
theorem LeB.trans {w w' o:Wd} (h:LeB w w') (d:LeB w' o):LeB w o where
 n:=zR h.n d.n
 mem nm cs e gen floor frz ex hg hM:=by
  obtain ⟨v,cs2,p,q,ex',x⟩:=h.mem nm cs e gen floor frz ex hg hM;obtain ⟨r,y,j,k,t,u⟩:=d.mem nm _ e p floor q ex' x v;exact ⟨r,cs2++y,j,k,t,by rw [<-List.append_assoc];exact u⟩
 c id hi:=(d.c id (zL hi h.n)).trans (h.c id hi)
 nu id hi:=(d.nu id (zL hi h.n)).trans (h.nu id hi)
 o1 i hi h0:=d.o1 i (zL hi h.n) (h.o1 i hi h0)
 o2 i s s' hi h0 h2:=by
  cases f:w'.owns i with
  | none=>rw [d.o1 i (zL hi h.n) f] at h2;cases h2
  | some g=>exact zR (h.o2 i s g hi h0 f) (d.o2 i g s' (zL hi h.n) f h2)
 o3 i s hi h0 h2:=by
  have l:=zL hi h.n;cases f:w'.owns i with
  | none=>rw [d.o1 i l f] at h2;cases h2
  | some g=>
   have a:=h.o2 i s g hi h0 f;have b:=d.o2 i g s l f h2;obtain rfl:g=s:=by omega
   obtain ⟨C,g1⟩:=h.o3 i g hi h0 f;obtain ⟨E,z⟩:=d.o3 i g l f h2;refine ⟨E.trans C,λnm m A=>?_⟩;rw [z nm (by rw [C];exact m) (by rw [g1 nm m A];exact A),g1 nm m A]
 ce:=d.ce.trans h.ce
 cl id hi:=(d.cl id (zL hi h.n)).trans (h.cl id hi)
 nx:=zR h.nx d.nx
 b:=d.b.trans h.b
 Mu n m hm:=d.Mu n (by rw [h.b];exact m) (h.Mu n m hm)
 lp id hi:=(d.lp id (zL hi h.n)).trans (h.lp id hi)
 gm id hi hc cs e gen fl fz ex hg:=by
  obtain ⟨B,g1,_,_,_,F,G,a3⟩:=h.gm id hi hc cs e gen fl fz ex hg;obtain ⟨cs2,z,_,_,_,D,H,I⟩:=d.gm id (zL hi h.n) ((h.cl id hi).2 hc) B e g1 _ _ _ (by rw [h.c id hi];exact F);rw [h.c id hi] at D;exact ⟨cs2,z,_,_,_,D,zR G H,λJ=>(I (by omega)).trans (a3 (by omega))⟩
theorem Le.trans {w w' a:Wd} (h:Le w w') (b:Le w' a):Le w a:=⟨h.toLeB.trans b.toLeB,λm c=>b.df m (h.df m c),b.fl.trans h.fl⟩
theorem qpu.qfi {w w':Wd} (h:LeB w w') {sz:Nat->Nat} {c:Nat} {own:Option (Nat×Nat)} {v:V} (B:qpu w sz c own v):qpu w' sz c own v:=by
 cases own with
 | none=>trivial
 | some x=>
  obtain ⟨i,s⟩:=x;obtain ⟨k,u,C,D⟩:=B;have l:∀ d,w'.owns i=some d->s<=d:=by
   intro d q;cases f:w.owns i with
   | none=>rw [h.o1 i k f] at q;cases q
   | some g=>exact zR (u g f) (h.o2 i g d k f q)
  refine ⟨zL k h.n,l,λo=>?_,D⟩;cases f:w.owns i with
  | none=>rw [h.o1 i k f] at o;cases o
  | some g=>
   have a:=u g f;have b:=h.o2 i g s k f o;obtain rfl:g=s:=by omega
   have p:=C f;obtain ⟨E,g1⟩:=h.o3 i g k f o;cases v with
   | nils=>trivial
   | slice nm gn off len z cap=>
    rcases p with p | ⟨m,y,cs,e,j,r,ex,A,t⟩
    .exact .inl p
    .exact .inr ⟨m,by rw [E];exact y,cs,e,j,r,ex,by rw [g1 nm y (by rw [A];simp)];exact A,t.1,t.2.1,by rw [h.ce];exact t.2.2⟩
   | _=>exact p
theorem qcz {α:Type} {l a:List α} {n:Nat} {d:α} (h:n<l.length):(l++a).getD n d=l.getD n d:=by
 simp only [List.getD_eq_getElem?_getD,List.getElem?_append_left h]
theorem qpu.mono {w w':Wd} (h:Le w w') {sz:Nat->Nat} {c:Nat} {own:Option (Nat×Nat)} {v:V} (a:qpu w sz c own v):qpu w' sz c own v:=a.qfi h.toLeB
theorem Rep.qfi {X:Codecs K} {sz:Nat->Nat} {w w':Wd} (U:∀ c x,(X.cells c x).length=sz c) (h:LeB w w') {p:PV K} {v:V} (r:Rep X sz w p v):Rep X sz w' p v:=by
 induction r with
 | int h=>exact .int h
 | lit=>exact .lit
 | sb B H J=>exact .sb B H λq=>⟨zL (J q).1 h.n,by rw [h.nu _ (J q).1];exact (J q).2⟩
 | str=>exact .str
 | nils=>exact .nils
 | nlist L=>exact .nlist (L.qfi h)
 | @list c l own nm gn off len z cap cs e gen a b ex s C D E Z M F I L f=>
  obtain ⟨k,cs2,t,u,ex',m⟩:=h.mem nm cs e gen a b ex s D;refine .list m C k E (by rw [List.length_append];omega) M F (λi hi j p y=>?_) (L.qfi h);have T:j<sz c:=by
   rw [<-U c (l[i]'hi)];exact (List.getElem?_eq_some_iff.1 y).1
  have N:off+i * sz c+j<cs.length:=by
   have:(i+1) * sz c<=len * sz c:=zU _ (by omega);rw [Nat.add_mul,Nat.one_mul] at this;omega
  rw [qcz N];exact f i hi j p y
 | @cell id off lim hi=>
  rw [<-h.c id hi];exact .cell (zL hi h.n)
 | @eptr ps off nm gn d lim cs e gen a b ex s C D B H I f=>
  obtain ⟨k,cs2,t,u,ex',m⟩:=h.mem nm cs e gen a b ex s D;refine .eptr m C k B (by rw [List.length_append];omega) (λj p y=>?_);have T:=(List.getElem?_eq_some_iff.1 y).1;rw [qcz (by omega)];exact f j p y
 | @plist es n fx ps nm gn d cs e gen a b ex s C D q B H I f=>
  obtain ⟨k,cs2,t,u,ex',m⟩:=h.mem nm cs e gen a b ex s D;refine .plist m C k q B (by rw [List.length_append];omega) (λj p y=>?_);have T:=(List.getElem?_eq_some_iff.1 y).1;rw [qcz (by omega)];exact f j p y
 | @mlist id c fx n g cs e gen fl fz ex hi o q M s A O=>
  obtain ⟨P,g1,_,_,_,G,Q,a3⟩:=h.gm id hi o cs e gen fl fz ex s;rw [<-h.c id hi] at G ⊢;exact .mlist (zL hi h.n) ((h.cl id hi).2 o) q M G (zR A Q) λW=>(O (by omega)).trans (a3 (by omega)).symm
 | @mptr id c i n off g cs e gen fl fz ex hi o q s A O=>
  obtain ⟨P,g1,_,_,_,G,Q,a3⟩:=h.gm id hi o cs e gen fl fz ex s;rw [<-h.c id hi] at G ⊢;exact .mptr (zL hi h.n) ((h.cl id hi).2 o) q G (zR A Q) λW=>(O (by omega)).trans (a3 (by omega)).symm
 | nilp=>exact .nilp
 | @map id hi=>
  rw [<-h.c id hi];exact .map (zL hi h.n)
 | func Y I B H R S=>exact .func Y I R S
 | nilf=>exact .nilf
 | @yield id hi=>
  rw [<-h.c id hi];exact .yield (zL hi h.n)
 | iface _ f=>exact .iface f
 | nili=>exact .nili
 | agg A _ f=>exact .agg A f
 | tuple A _ f=>exact .tuple A f
theorem Rep.mono {X:Codecs K} {sz:Nat->Nat} {w w':Wd} (a:∀ c x,(X.cells c x).length=sz c) (h:Le w w') {p:PV K} {v:V} (r:Rep X sz w p v):Rep X sz w' p v:=r.qfi a h.toLeB
theorem qu.qfi {X:Codecs K} {sz:Nat->Nat} {w w':Wd} (b:∀ c x,(X.cells c x).length=sz c) (h:LeB w w') {ps:List (PV K)} {a:List V} (r:qu X sz w ps a):qu X sz w' ps a:=
 ⟨r.1,λj p d=>(r.2 j p d).qfi b h⟩
theorem qu.mono {X:Codecs K} {sz:Nat->Nat} {w w':Wd} (b:∀ c x,(X.cells c x).length=sz c) (h:Le w w') {ps:List (PV K)} {a:List V} (r:qu X sz w ps a):qu X sz w' ps a:=
 ⟨r.1,λj p d=>(r.2 j p d).mono b h⟩
section
variable {X:Codecs K} {sz:Nat->Nat} {w:Wd}
theorem Rep.z9b {p:PV K} {v:V} (r:Rep X sz w p v):¬ ZS v:=by
 rintro ⟨nm,g,off,len,cap,b⟩;cases r with
 | list c d e a k f=>grind
 | mlist h i j f=>simp_all
 | plist c d e j=>simp_all
 | _=>cases b
theorem Rep.qw5 {p:PV K} {v:V} (r:Rep X sz w p v):isHole v=false:=by
 rw [<-Bool.not_eq_true];intro h;obtain ⟨u,rfl,a⟩:=qtg.1 h;cases r with
 | @tuple ps d b c=>
  cases ps with
  | nil=>simp at b
  | cons q ps=>exact (c 0 q rfl).z9b a
theorem qu.qw5 {ps:List (PV K)} {a:List V} (r:qu X sz w ps a):∀ v ∈ a,isHole v=false:=by
 intro v b;obtain ⟨i,hi,rfl⟩:=List.mem_iff_getElem.1 b;have c:i<ps.length:=by rw [r.1];exact hi
 have:=r.2 i _ (List.getElem?_eq_getElem c);rw [List.getD_eq_getElem?_getD,List.getElem?_eq_getElem hi] at this;exact this.qw5
theorem qu.nil:qu X sz w [] []:=⟨rfl,λj p h=>by simp at h⟩
theorem qu.cons {p:PV K} {ps:List (PV K)} {v:V} {a:List V} (h:Rep X sz w p v) (b:qu X sz w ps a):qu X sz w (p::ps) (v::a):=by
 refine ⟨by simp [b.1],λj q c=>?_⟩;cases j with
 | zero=>simp_all
 | succ j=>simp at c;simpa using b.2 j q c
theorem qu.z7 {p:PV K} {ps:List (PV K)} {b:List V} (h:qu X sz w (p::ps) b):∃ v a,b=v::a/\Rep X sz w p v/\qu X sz w ps a:=by
 cases b with
 | nil=>have:=h.1;simp at this
 | cons v a=>
  refine ⟨v,a,rfl,?_,?_,λj q c=>?_⟩
  .simpa using h.2 0 p rfl
  .have:=h.1;simpa using this
  .simpa using h.2 (j+1) q (by simpa using c)
theorem qu.jb {a:List V} (h:qu X sz w [] a):a=[]:=by
 have:=h.1;exact List.eq_nil_of_length_eq_zero this.symm
theorem qu.append {ps b:List (PV K)} {a us:List V} (h:qu X sz w ps a) (c:qu X sz w b us):qu X sz w (ps++b) (a++us):=by
 induction ps generalizing a with
 | nil=>rw [h.jb];exact c
 | cons p ps d=>
  obtain ⟨v,e,rfl,f,g⟩:=h.z7;exact .cons f (d g)
theorem qu.take {ps:List (PV K)} {b:List V} (n:Nat) (h:qu X sz w ps b):qu X sz w (ps.take n) (b.take n):=by
 refine ⟨by simp [h.1],λj p a=>?_⟩;rw [List.getElem?_take] at a;split at a
 .rename_i c;have:=h.2 j p a;rw [List.getD_eq_getElem?_getD] at this ⊢;rw [List.getElem?_take,zT c];exact this
 .cases a
theorem qu.drop {ps:List (PV K)} {a:List V} (n:Nat) (h:qu X sz w ps a):qu X sz w (ps.drop n) (a.drop n):=by
 refine ⟨by simp [h.1],λj p b=>?_⟩;rw [List.getElem?_drop] at b;have:=h.2 _ p b;rw [List.getD_eq_getElem?_getD] at this ⊢;rw [List.getElem?_drop];exact this
theorem qu.get {ps:List (PV K)} {b:List V} {j:Nat} {p:PV K} (h:qu X sz w ps b) (c:ps[j]? = some p):∃ v,b[j]? = some v/\Rep X sz w p v:=by
 have d:=(List.getElem?_eq_some_iff.1 c).1;have a:j<b.length:=by rw [<-h.1];exact d
 refine ⟨b[j],List.getElem?_eq_getElem a,?_⟩;have:=h.2 j p c;rw [List.getD_eq_getElem?_getD,List.getElem?_eq_getElem a] at this;exact this
theorem Rep.qy4 {ps:List (PV K)} {a:List V} (h:qu X sz w ps a):Rep X sz w (.agg ps) (.agg a):=.agg h.1 h.2
theorem Rep.tuple' {ps:List (PV K)} {a:List V} (h:qu X sz w ps a):Rep X sz w (.tuple ps) (.tuple a):=.tuple h.1 h.2
theorem Rep.qi8 {ps:List (PV K)} {v:V} (h:Rep X sz w (.agg ps) v):∃ a,v=.agg a/\qu X sz w ps a:=by
 cases h with
 | agg b h=>exact ⟨_,rfl,b,h⟩
theorem Rep.qi6 {ps:List (PV K)} {v:V} (h:Rep X sz w (.tuple ps) v):∃ a,v=.tuple a/\qu X sz w ps a:=by
 cases h with
 | tuple b h=>exact ⟨_,rfl,b,h⟩
theorem Rep.undef:Rep X sz w qnx j8:=.tuple' .nil
theorem Rep.cellsOf {p:PV K} {v:V} (h:Rep X sz w p v) (a:(∀ ps,p≠.agg ps)):p.cellsOf=[p]/\v.cells=[v]:=by
 cases h with
 | agg=>simp_all
 | _=>exact ⟨rfl,rfl⟩
theorem Rep.cells {p:PV K} {v:V} (h:Rep X sz w p v):qu X sz w p.cellsOf v.cells:=by
 cases p with
 | agg ps=>
  obtain ⟨c,rfl,a⟩:=h.qi8;exact a
 | _=>
  have:=h.cellsOf (by intro ps b;cases b);rw [this.1,this.2];exact .cons h .nil
theorem Rep.qay {p:PV K} {v:V} (h:Rep X sz w p v) (a:qa2 p=true):v.qay=true:=by
 cases h<;>first | rfl | (simp [qa2] at a)
theorem qu.qvd {ps:List (PV K)} {a:List V} (h:qu X sz w ps a) (b:ps.all qa2=true):a.all V.qay=true:=by
 induction ps generalizing a with
 | nil=>rw [h.jb];rfl
 | cons p ps c=>
  obtain ⟨v,d,rfl,e,f⟩:=h.z7;simp only [List.all_cons,zA] at b ⊢;exact ⟨e.qay b.1,c f b.2⟩
theorem Rep.bool {p:PV K} {b:Bool} (h:Rep X sz w p (.bool b)):p=.lit b∨∃ id neg a c,p=.sb id neg b a c/\(a↔b=true)/\(c↔b=false)/\(id≠0->id<w.n/\b=(w.nu id != neg)):=by
 cases h with
 | lit=>exact .inl rfl
 | sb d e f=>grind
end
end Go.E3
/- E3: STATES AGAINST E2's MEMORY: the relation; operands, conditions, cells. -/
namespace Go.E3
open Go Go.E2
variable {K:Nat->Type}
structure CfgOk (X:Codecs K) (sz:Nat->Nat) (C:ZC K):Prop where
 len:∀ c x,(X.cells c x).length=sz c
 pos:∀ e c,C.codec e=some c->0<sz c
 size:∀ e c ti,C.codec e=some c->C.E.types e=some ti->ti.size=sz c
 inj:∀ e e' c,C.codec e=some c->C.codec e'=some c->e=e'
 one:∀ c x,(X.cells c x).all qa2=true
 u8:∀ x:K 0,X.cells 0 x=[.int .u8 none (((X.u8 ▸ x:UInt8).toNat:Nat):Int)]
 pack:∀ c cs pre x,X.pack c cs=some (pre,x)->pre->∀ w vs,qu X sz w cs vs->qu X sz w (X.cells c x) vs
def qs1 (X:Codecs K):ZT K->List (PV K)
 | .cs _ ps=>ps
 | .ml c l p=>l.flatMap (X.cells c)++[p]
 | .lp _=>[]
 | .mp ..=>[]
def q8i (ct:ZT K) (e:TypeId) (ex:Bool):Prop:=
 match ct with
 | .cs (some t) _=>e=t/\ex=true
 | _=>True
theorem zli {t:Option TypeId} {ps b:List (PV K)} {e:TypeId} {ex:Bool} (h:q8i (.cs t ps) e ex):q8i (.cs t b) e ex:=by
 cases t with
 | none=>trivial
 | some a=>exact h
def qga (g:LG):LMode->O
 | .ready=>.loop .ready none g.lt g.ln g.lp g.la g.lb g.ld
 | .busy=>.loop .busy none g.lt g.ln g.lp g.la g.lb g.ld
 | .done none=>.loop .done (some .ret) g.lt g.ln g.lp g.la g.lb g.ld
 | .done (some i)=>.loop .done (some (.exit i)) g.lt g.ln g.lp g.la g.lb g.ld
def jn:List Leaf->List V->Prop
 | [],[]=>True
 | .int k::l,.int b _::a=>k=b/\jn l a
 | .str::l,.str _::a=>jn l a
 | .bool::l,.bool _::a=>jn l a
 | _,_=>False
def zqa (X:Codecs K) (sz:Nat->Nat) (w:Wd) (c:Nat) (a:Leaf) (b:Bool) (x:K c) (e:V×V×Nat):Prop:=
 qu X sz w ((X.cells c x).take 1) [e.1]/\jn [a] [e.1]/\qu X sz w ((X.cells c x).drop 1) e.2.1.cells/\zgh e.2.1=b
def qfa (X:Codecs K) (sz:Nat->Nat) (w:Wd) (id:Nat) (ct:ZT K) (o:Option O):Prop:=
 match ct with
 | .cs t ps=>∃ b e ex,o=some (.row b e 0 0 0 ex)/\q8i (.cs t ps:ZT K) e ex/\qu X sz w (qs1 X (.cs t ps)) b
 | .ml c l p=>∃ b e gen fl ex,o=some (.row b e gen fl 0 ex)/\fl<=gen/\w.ce e=some c/\sz c=1/\qu X sz w (qs1 X (.ml c l p)) b
 | .mp c f h l=>∃ d a,o=some (.map d a)/\d.length=l.length/\∀ (i:Nat) (x:K c) (e:V×V×Nat),l[i]? = some x->d[i]? = some e->zqa X sz w c f h x e
 | .lp r=>∃ g,w.lp id=some g/\o=some (qga g r.mode)/\r.n=g.ln/\r.params=g.lp/\r.assign=g.la/\r.body=g.lb/\∀ i p,r.tmps.get i=some p->∃ v,g.lt.get i=some v/\Rep X sz w p v
def zkd:ZT K->Bool
 | .cs ..=>true
 | _=>false
theorem qfa.qfi {X:Codecs K} {sz:Nat->Nat} {w w':Wd} (m:∀ c x,(X.cells c x).length=sz c) (h:LeB w w') {id:Nat} (hi:id<w.n) {ct:ZT K} {o:Option O} (r:qfa X sz w id ct o):qfa X sz w' id ct o:=by
 cases ct with
 | cs t ps=>
  obtain ⟨q,e,ex,f,j,d⟩:=r;exact ⟨q,e,ex,f,j,d.qfi m h⟩
 | ml c l p=>
  obtain ⟨q,e,gen,fl,ex,f,u,j,d,s⟩:=r;exact ⟨q,e,gen,fl,ex,f,u,by rw [h.ce];exact j,d,s.qfi m h⟩
 | mp c D E l=>
  obtain ⟨y,k,f,j,d⟩:=r;exact ⟨y,k,f,j,λi x e a b=>⟨(d i x e a b).1.qfi m h,(d i x e a b).2.1,(d i x e a b).2.2.1.qfi m h,(d i x e a b).2.2.2⟩⟩
 | lp F=>
  obtain ⟨g,f,j,d,s,z,A,B⟩:=r;refine ⟨g,by rw [h.lp id hi];exact f,j,d,s,z,A,λi p C=>?_⟩;obtain ⟨v,a,b⟩:=B i p C;exact ⟨v,a,b.qfi m h⟩
theorem qfa.mono {X:Codecs K} {sz:Nat->Nat} {w w':Wd} (a:∀ c x,(X.cells c x).length=sz c) (h:Le w w') {id:Nat} (hi:id<w.n) {ct:ZT K} {o:Option O} (r:qfa X sz w id ct o):qfa X sz w' id ct o:=r.qfi a h.toLeB hi
theorem qfa.row {X:Codecs K} {sz:Nat->Nat} {w:Wd} {id:Nat} {ct:ZT K} (a:zkd ct=true) {b:List V} {e:TypeId} {ex:Bool} (d:q8i ct e ex) (f:qu X sz w (qs1 X ct) b):qfa X sz w id ct (some (.row b e 0 0 0 ex)):=by
 cases ct with
 | cs t ps=>exact ⟨b,e,ex,rfl,d,f⟩
 | ml c l p=>cases a
 | lp r=>cases a
 | mp c g h l=>cases a
theorem qfa.some {X:Codecs K} {sz:Nat->Nat} {w:Wd} {id:Nat} {ct:ZT K} {o:Option O} (r:qfa X sz w id ct o):o≠some .dfr/\o≠none:=by
 cases ct with
 | cs t ps=>
  obtain ⟨h,e,ex,a,b,f⟩:=r;rw [a];exact ⟨by simp,by simp⟩
 | ml c l p=>
  obtain ⟨h,e,gen,fl,ex,a,b,f⟩:=r;rw [a];exact ⟨by simp,by simp⟩
 | mp c i j l=>
  obtain ⟨k,d,a,b,f⟩:=r;rw [a];exact ⟨by simp,by simp⟩
 | lp m=>
  obtain ⟨g,a,b,_⟩:=r;rw [b];unfold qga
  split<;>exact ⟨by simp,by simp⟩
def zqp (C:ZC K):Prop:=∀ f,C.ans f=false->C.E.spec f=none
def zf7 (C:ZC K):Prop:=
 ∀ f,C.prim f=true->∀ (H:Heap) (nm off lim:Nat) (d:List V) (e:TypeId) (ex:Bool),(∀ n,H.next<=n->H.get n=none)->H.get nm=some (.row d e 0 0 0 ex)->off+2<=lim->lim<=d.length->
  (d[off+1]? = some .nils->qdv C.E (.func f) [.ptr nm 0 off lim] H λv H'=>v=.str []/\H'=H)/\
  ∀ (b g len:Nat) (cells:List V) (h:TypeId) (a c:Nat) (i:Bool) (l:List UInt8),d[off+1]? = some (.slice b g 0 len 1 none)->H.get b=some (.row cells h g a c i)->cells.length=len->a<=g->0<len->len<=140737488355328->
   C.codec h=some 0->qd0 cells=some l->(∀ v ∈ cells,isHole v=false)->H.ro<=b->b≠nm->qdv C.E (.func f) [.ptr nm 0 off lim] H λv H'=>v=.str l/\H'=H.put b (.row cells h g a (max c len) i)
def qd (C:ZC K):Prop:=zqp C/\zf7 C
structure RelH (X:Codecs K) (sz:Nat->Nat) (C:ZC K) (base:Heap) (st:StV K) (H:Heap) (w:Wd):Prop where
 wf:∀ n,H.next<=n->H.get n=none
 rob:base.ro<=base.next/\base.zm=C.ng/\∀ gn o,C.gobj gn=some o->base.get gn=some o/\gn<base.next
 g:w.g=H.get
 nx:w.nx=H.next
 b:w.b=base.next
 Mlt:∀ n,w.M n->n<H.next
 n:w.n=st.next
 one:1<=st.next
 keeps:Keeps base H
 cl:∀ id,w.cl id->id<st.next/\w.c id<H.next/\base.next<=w.c id
 cinj:∀ id id',w.cl id->w.cl id'->w.c id=w.c id'->id=id'
 cells:∀ id ct,look st.cells id=some ct->w.cl id/\w.M (w.c id)/\qfa X sz w id ct (H.get (w.c id))
 owns:∀ i,w.owns i=look st.owns i
 ownn:∀ i s,look st.owns i=some s->i<st.next
 eta:∀ i s nm,look st.owns i=some s->w.eta i=some nm->base.next<=nm/\nm<H.next/\¬ w.M nm
 einj:∀ i j s s' nm,look st.owns i=some s->look st.owns j=some s'->w.eta i=some nm->w.eta j=some nm->i=j
 ce:w.ce=C.codec
 known:∀ id b,look st.known id=some b->id≠0/\id<st.next/\w.nu id=b
 globs:∀ gn ps,C.zm gn=some ps->gn<base.zm/\∃ vs e fl fz ex,base.get gn=some (.row vs e 0 fl fz ex)/\gn<base.next/\Rep X sz w (.eptr ps 0) (.ptr gn 0 0 vs.length)
def za6 (X:Codecs K) (sz:Nat->Nat) (w:Wd) (t:Tree (PV K)) (fr:Fr):Prop:=∀ i p,t.get i=some p->∃ v,fr.tmp i=some v/\Rep X sz w p v
def zaw (b:Nat) (w:Wd) (a:List Dfr):Prop:=(∀ x ∈ a,∃ m,x=.mark m/\b<=m/\w.fl<=m/\w.g m=some .dfr)/\a.Nodup/\w.fl<=w.nx
theorem zaw.mono {b:Nat} {w w':Wd} (h:Le w w') {ds:List Dfr} (a:zaw b w ds):zaw b w' ds:=by
 refine ⟨λx c=>?_,a.2.1,by rw [h.fl];exact zR a.2.2 h.nx⟩;obtain ⟨m,d,e,f,g⟩:=a.1 x c;exact ⟨m,d,e,by rw [h.fl];exact f,h.df m g⟩
theorem zaw.nil {b:Nat} {w:Wd} (h:w.fl<=w.nx):zaw b w []:=⟨λx a=>(by cases a),List.nodup_nil,h⟩
structure Rel (X:Codecs K) (sz:Nat->Nat) (C:ZC K) (base:Heap) (st:StV K) (fr:Fr) (H:Heap) (w:Wd):Prop where
 h:RelH X sz C base st H w
 f:za6 X sz w st.tmps fr
 n:fr.n=st.n
 ds:zaw base.next w fr.defers
structure Near (st st':StV K):Prop where
 tmps:st'.tmps=st.tmps
 n:st'.n=st.n
 cells:st'.cells=st.cells
 owns:st'.owns=st.owns
theorem Near.refl (st:StV K):Near st st:=⟨rfl,rfl,rfl,rfl⟩
theorem Near.trans {st b a:StV K} (h:Near st b) (c:Near b a):Near st a:=
 ⟨c.tmps.trans h.tmps,c.n.trans h.n,c.cells.trans h.cells,c.owns.trans h.owns⟩
section
variable {X:Codecs K} {sz:Nat->Nat} {C:ZC K} {base H:Heap} {st:StV K} {fr:Fr} {w:Wd}
theorem znz {id:Nat} {b:Bool} {l:List (Nat×Bool)} {j:Nat} {a:Bool} (h:look (zrf id b l) j=some a):(id≠0/\j=id/\a=b)∨look l j=some a:=by
 unfold zrf at h;by_cases c:id=0
 .simp_all
 .have:Nat.beq id 0=false:=by rw [<-Bool.not_eq_true,Nat.beq_eq];exact c
  rw [this] at h;simp only [zQ,look] at h;by_cases d:id=j
  .simp_all
  .have:Nat.beq id j=false:=by rw [<-Bool.not_eq_true,Nat.beq_eq];exact d
   rw [this] at h;exact .inr h
theorem qfx {l:List (Nat×ZT K)} {id:Nat} {ps:List (PV K)} (h:qqr l id=some ps):look l id=some (.cs (qox l id) ps):=by
 unfold qqr at h;split at h
 .rename_i t a e;cases h;rw [qox,e]
 .cases h
theorem qli {l:List (Nat×ZT K)} {id c:Nat} {x:List (K c)×PV K} (h:qu6 l id c=some x):look l id=some (.ml c x.1 x.2):=by
 unfold qu6 at h;split at h
 .grind
 .cases h
theorem RelH.ext (ok:CfgOk X sz C) (R:RelH X sz C base st H w) {m:Nat} {nu':Nat->Bool} (hm:st.next<=m) (f:∀ id,id<st.next->nu' id=w.nu id) :
  Le w {w with n:=m,nu:=nu'}/\RelH X sz C base {st with next:=m} H {w with n:=m,nu:=nu'}:=by
 have c:Le w {w with n:=m,nu:=nu'}:=
  ⟨⟨by rw [R.n];exact hm,λnm cs e gen k l ex h q=>⟨q,[],gen,l,ex,by rw [zJ];exact h⟩,λ_ _=>rfl,λid hi=>f id (by rw [<-R.n];exact hi),λ_ _ h=>h,
   λ_ _ _ _ h p=>by rw [h] at p;cases p;exact zN _,λ_ _ _ _ _=>⟨rfl,λ_ _ _=>rfl⟩,rfl,λ_ _=>.rfl,zN _,rfl,λ_ _ h=>h,λ_ _=>rfl,qor λ_ _ _=>rfl⟩,λ_ h=>h,rfl⟩
 refine ⟨c,⟨R.wf,R.rob,R.g,R.nx,R.b,R.Mlt,rfl,zR R.one hm,R.keeps,λid h=>?_,R.cinj,λid ps h=>?_,R.owns,λi s h=>zL (R.ownn i s h) hm,R.eta,R.einj,R.ce,λid b h=>?_,λgn ps h=>?_⟩⟩
 .obtain ⟨a,d,j⟩:=R.cl id h;exact ⟨zL a hm,d,j⟩
 .obtain ⟨a,d,j⟩:=R.cells id ps h;exact ⟨a,d,j.mono ok.len c (by rw [R.n];exact (R.cl id a).1)⟩
 .obtain ⟨o,a,d⟩:=R.known id b h;exact ⟨o,zL a hm,(f id a).trans d⟩
 .obtain ⟨o,r,e,fl,fz,ex,a,d,j⟩:=R.globs gn ps h;exact ⟨o,r,e,fl,fz,ex,a,d,j.mono ok.len c⟩
theorem RelH.zt4 (R:RelH X sz C base st H w) {id:Nat} {b:Bool} (hi:id≠0->id<st.next/\w.nu id=b):RelH X sz C base {st with known:=zrf id b st.known} H w:=
 ⟨R.wf,R.rob,R.g,R.nx,R.b,R.Mlt,R.n,R.one,R.keeps,R.cl,R.cinj,R.cells,R.owns,R.ownn,R.eta,R.einj,R.ce,λj c h=>by
  rcases znz h with ⟨a,rfl,rfl⟩ | h
  .exact ⟨a,hi a⟩
  .exact R.known j c h,R.globs⟩
variable {tbl:Tbl K} {inv:Nat->List (NV K)->Prop} {meas:Nat->List (NV K)->Nat}
theorem q0v {p:PV K} {b:Bool} {k:Bool->StV K->Prop} (R:RelH X sz C base st H w) (j:Rep X sz w p (.bool b)) (h:br (qo X tbl inv meas) st p k) :
  ∃ a,k b a/\Near st a/\a.next=st.next/\RelH X sz C base a H w:=by
 rcases j.bool with rfl | ⟨id,neg,r,s,rfl,l,m,d⟩
 .exact ⟨st,h,.refl st,rfl,R⟩
 .simp only [br] at h;cases f:look st.known id with
  | some v=>
   rw [f] at h;obtain ⟨c,o,g⟩:=R.known _ _ f;have e:=(d c).2;rw [g] at e;simp only [<-e] at h;exact ⟨st,h,.refl st,rfl,R⟩
  | none=>
   rw [f] at h;obtain ⟨q,e⟩:=h;have i:id≠0->id<st.next:=λc=>by have:=(d c).1;rw [R.n] at this;exact this
   cases b with
   | true=>
    refine ⟨_,q (l.2 rfl),⟨rfl,rfl,rfl,rfl⟩,rfl,R.zt4 λc=>⟨i c,?_⟩⟩;have:=(d c).2;revert this;cases w.nu id<;>cases neg<;>simp
   | false=>
    refine ⟨_,e (m.2 rfl),⟨rfl,rfl,rfl,rfl⟩,rfl,R.zt4 λc=>⟨i c,?_⟩⟩;have:=(d c).2;revert this;cases w.nu id<;>cases neg<;>simp
theorem zk1 {v:V} (h:qmb v=true):Rep X sz w (ofV (qo X tbl inv meas) v) v:=by
 unfold qmb at h;split at h
 .simp only [ofV];exact .int λm a=>by cases a;rfl
 .simp only [ofV];exact .lit
 .simp only [ofV];exact .str
 .simp only [ofV];exact .nilp
 .simp only [ofV];exact .nils
 .simp only [ofV];exact .nilf
 .simp only [ofV];exact .nili
 .simp only [ofV,ofL];exact .func rfl rfl (λj p h=>by simp at h) (λj p h=>by simp at h)
 .cases h
theorem zk0 {l:List V} (h:l.all qmb=true):qu X sz w (ofL (qo X tbl inv meas) l) l:=by
 induction l with
 | nil=>simp only [ofL];exact .nil
 | cons v l a=>
  simp only [List.all_cons,zA] at h;exact .cons (zk1 h.1) (a h.2)
theorem zgq {v:V} {p:PV K} (h:q07 (qo X tbl inv meas) v=some p):Rep X sz w p v:=by
 unfold q07 at h;split at h
 .rename_i cs;cases a:cs.all qmb with
  | true=>
   rw [a] at h;simp only [zO,zS] at h;subst h;exact .qy4 (zk0 a)
  | false=>simp_all
 .simp only [zS] at h;subst h;exact .undef
 .cases a:qmb v with
  | true=>
   simp only [a,zO,zS] at h;subst h;exact zk1 a
  | false=>simp_all
theorem qjo {ti:TI} {ps:List (PV K)} (h:zeroCells (qo X tbl inv meas) ti=some ps):qu X sz w ps ti.zero.cells:=by
 unfold zeroCells at h;cases a:ti.zero.cells.all qmb with
 | true=>
  rw [a] at h;simp only [zO,zS] at h;subst h;exact zk0 a
 | false=>simp_all
theorem zc (R:Rel X sz C base st fr H w) {x:Operand} {p:PV K} (h:qbo (qo X tbl inv meas) C st x=some p):∃ v,opd fr H x=some v/\Rep X sz w p v:=by
 cases x with
 | tmp t=>exact R.f t p h
 | const c=>
  obtain ⟨u,a,b⟩:=zI.1 h;exact ⟨u,a,zgq b⟩
 | global gn=>
  obtain ⟨ps,a,b⟩:=zM.1 h;subst b;obtain ⟨d,m,e,fl,fz,ex,g,i,k⟩:=R.h.globs gn ps a;refine ⟨_,?_,k⟩;have l:Nat.blt gn H.zm=true:=by rw [Nat.blt_eq,R.h.keeps.zm];exact d
  simp only [opd,l,zO,R.h.keeps.old gn i,g]
 | func f=>
  simp only [qbo,zS] at h;subst h;exact ⟨_,rfl,.func rfl rfl (λj p h=>by simp at h) (λj p h=>by simp at h)⟩
theorem qej (R:Rel X sz C base st fr H w):∀ {l:List Operand} {ps:List (PV K)},qhi (qo X tbl inv meas) C st l=some ps->∃ a,qdm fr H l=some a/\qu X sz w ps a
 | [],ps,h=>by
  simp only [qhi,zS] at h;subst h;exact ⟨[],rfl,.nil⟩
 | x::l,ps,h=>by
  simp only [qhi] at h;obtain ⟨p,b,c⟩:=zI.1 h;obtain ⟨d,e,f⟩:=zM.1 c;subst f;obtain ⟨v,g,i⟩:=zc R b;obtain ⟨a,j,k⟩:=qej R e;exact ⟨v::a,qw7 g j,.cons i k⟩
theorem qhj {fr':Fr} {H':Heap}:∀ {l:List Operand},(∀ x ∈ l,opd fr' H' x=opd fr H x)->qdm fr' H' l=qdm fr H l
 | [],_=>rfl
 | x::l,h=>by
  simp only [qdm,h x zC,qhj λy a=>h y (zG _ a)]
theorem zdz {ti:TI} {ps:List (PV K)} {a:List V} {off:Nat} {p:PV K} (r:qu X sz w ps a) (h:zvq ti ps off=some p):∃ v,qph ti a off=some v/\Rep X sz w p v:=by
 unfold zvq at h;unfold qph;cases b:ti.isAgg with
 | true=>
  rw [b] at h;rw [<-r.1];cases c:Nat.ble (off+ti.size) ps.length with
  | true=>
   rw [c] at h;simp only [zO,zS] at h ⊢;subst h;exact ⟨_,rfl,.qy4 ((r.drop off).take ti.size)⟩
  | false=>simp_all
 | false=>
  rw [b] at h;exact r.get h
theorem qle {ps a:List (PV K)} {b us:List V} (r:qu X sz w ps b) (c:qu X sz w a us) (off:Nat):qu X sz w (qf6 ps off a) (setCells b off us):=by
 unfold qf6 setCells;rw [c.1];exact ((r.take off).append c).append (r.drop _)
theorem qmu {place:Nat->Option (Nat×Nat)}:∀ {parts:List (Nat×PV K)} {vparts:List (Nat×V)} {ps d:List (PV K)} {c:List V},
  parts.map (·.1)=vparts.map (·.1)->qu X sz w (parts.map (·.2)) (vparts.map (·.2))->qu X sz w ps c->q1i place ps parts=some d->∃ us,qih place c vparts=some us/\qu X sz w d us
 | [],vparts,ps,d,c,b,e,r,h=>by
  cases vparts with
  | nil=>
   simp only [q1i,zS] at h;subst h;exact ⟨c,rfl,r⟩
  | cons _ _=>simp at b
 | (i,p)::parts,vparts,ps,d,c,b,e,r,h=>by
  cases vparts with
  | nil=>simp at b
  | cons x vparts=>
   obtain ⟨j,v⟩:=x;simp only [List.map_cons,List.cons.injEq] at b;obtain ⟨rfl,b⟩:=b;simp only [List.map_cons] at e;obtain ⟨q,m,g,n,o⟩:=e.z7;simp only [List.cons.injEq] at g;obtain ⟨rfl,rfl⟩:=g;simp only [q1i] at h;split at h
   .cases h
   .rename_i off a f;have k:=n.cells;simp only [qih,f];rw [<-k.1,<-r.1];cases l:(Nat.beq p.cellsOf.length a&&Nat.ble (off+a) ps.length) with
    | false=>rw [l] at h;cases h
    | true=>
     rw [l] at h;simp only [zO] at h ⊢;exact qmu b o (qle r k off) h
end
end Go.E3
/- E3: OPERATORS AND COMPARISONS against E2's. -/
namespace Go.E3
open Go Go.E2
variable {K:Nat->Type}
theorem qoc {k:IntKind} {x:Int} (h:InK k x):k.wrap x=x:=by
 cases k<;>simp only [InK] at h<;>simp only [IntKind.wrap,IntKind.bits,IntKind.signed]<;>
 first
  | omega
  | (simp;omega)
  | (rw [Int.bmod_eq_of_le]<;>omega)
def qkf (c:Bool×Prop×Prop):Prop:=(c.2.1↔c.1=true)/\(c.2.2↔c.1=false)
theorem qte {op:BinOp} {a b:Int} {c:Bool×Prop×Prop} (h:qyg op a b=some c):qkf c:=by
 cases op<;>simp only [qyg,zS,reduceCtorEq] at h<;>subst h<;>constructor<;>simp<;>omega
theorem zkb {op:BinOp} {k:IntKind} {a b:Int} {c:Bool×Prop×Prop} (h:qyg op a b=some c):qis op k a b=some (.bool c.1):=by
 cases op<;>simp only [qyg,zS,reduceCtorEq] at h<;>subst h<;>simp only [qis,zS,V.bool.injEq]<;>first | rfl | (rw [Bool.eq_iff_iff];simp)
theorem z4b {op:BinOp} {k:IntKind} {a b:Int} {r:Prop×Int} (h:z4a op k a b=some r) (c:r.1):qis op k a b=some (.int k r.2):=by
 cases op<;>simp only [z4a,zS,reduceCtorEq] at h<;>subst h<;>simp only [qis]
 .rw [qoc c]
 .rw [qoc c]
 .rw [qoc c]
 .rw [zF c.1,qoc c.2]
 .rw [zF c]
theorem qtr {op:BinOp} {a b:List UInt8} {c:Bool×Prop×Prop} (h:qyv op a b=some c):qkf c:=by
 cases op<;>simp only [qyv,zS,reduceCtorEq] at h<;>subst h<;>constructor<;>simp
theorem zk9 {op:BinOp} {a b:List UInt8} {c:Bool×Prop×Prop} (h:qyv op a b=some c):qnw op a b=some (.bool c.1):=by
 cases op<;>simp only [qyv,zS,reduceCtorEq] at h<;>subst h<;>simp only [qnw,zS,V.bool.injEq]
 .rw [Bool.eq_iff_iff];simp
 .rw [Bool.eq_iff_iff];simp
theorem qkf.not {c:Bool×Prop×Prop} (h:qkf c):qkf (!c.1,c.2.2,c.2.1):=by
 refine ⟨?_,?_⟩
 .rw [h.2];simp
 .rw [h.1];simp
theorem q0o:∀ {l:List (Bool×Prop×Prop)},(∀ c ∈ l,qkf c)->qkf (qp2 l)/\(qp2 l).1=l.all (·.1)
 | [],_=>by simp [qp2,qkf]
 | [c],h=>by simp [qp2,h c zC]
 | c::d::l,h=>by
  have a:=h c zC;obtain ⟨b,f⟩:=q0o (l:=d::l) λx g=>h x (zG _ g);have e:qp2 (c::d::l)=(c.1&&(qp2 (d::l)).1,c.2.1/\(qp2 (d::l)).2.1,c.2.2∨(qp2 (d::l)).2.2):=rfl;rw [e];refine ⟨⟨?_,?_⟩,?_⟩
  .rw [a.1,b.1];simp
  .rw [a.2,b.2];cases c.1<;>simp
  .rw [List.all_cons,f]
def qj6:V->V->Bool
 | .int _ a,.int _ b=>a == b
 | .str a,.str b=>a == b
 | .bool a,.bool b=>a == b
 | _,_=>false
def qgp:List V->List V->Bool
 | [],[]=>true
 | a::c,b::d=>qj6 a b&&qgp c d
 | _,_=>false
section
variable {X:Codecs K} {sz:Nat->Nat} {w:Wd} {tbl:Tbl K} {inv:Nat->List (NV K)->Prop} {meas:Nat->List (NV K)->Nat}
theorem q57 {x y:PV K} {a b:V} {c:Bool×Prop×Prop} (rx:Rep X sz w x a) (e:Rep X sz w y b) (h:eqP (qo X tbl inv meas) x y=some c):qkf c/\c.1=qj6 a b/\
  ((∃ k i j,a=.int k i/\b=.int k j)∨(∃ s t,a=.str s/\b=.str t)∨(∃ s t,a=.bool s/\b=.bool t)):=by
 unfold eqP at h;split at h
 .rename_i k g n l o m;cases rx;cases e;split at h
  .rename_i f;subst f;have d:qyg .eql n m=some c:=h;refine ⟨qte d,?_,.inl ⟨k,n,m,rfl,rfl⟩⟩;simp only [qyg,zS] at d;subst d;simp only [qj6];rw [Bool.eq_iff_iff];simp
  .cases h
 .rename_i s t;cases rx;cases e;have d:qyv .eql s t=some c:=h;refine ⟨qtr d,?_,.inr (.inl ⟨s,t,rfl,rfl⟩)⟩;simp only [qyv,zS] at d;subst d;simp only [qj6];rw [Bool.eq_iff_iff];simp
 all_goals first
  | (cases h;done)
  | (cases rx;cases e
     have d:=Option.some.inj h;subst d;exact ⟨⟨by simp [qo],by simp [qo]⟩,rfl,.inr (.inr ⟨_,_,rfl,rfl⟩)⟩)
theorem q1d:∀ {j k:List (PV K)} {e f:List V} {cs:List (Bool×Prop×Prop)},qu X sz w j e->qu X sz w k f->zg1 (qo X tbl inv meas) j k=some cs->
  (∀ c ∈ cs,qkf c)/\cs.all (·.1)=qgp e f
 | [],[],e,f,cs,g,i,h=>by
  rw [g.jb,i.jb];simp only [zg1,zS] at h;subst h;exact ⟨λc q=>(by cases q),rfl⟩
 | [],y::k,e,f,cs,g,i,h=>by simp [zg1] at h
 | x::j,[],e,f,cs,g,i,h=>by simp [zg1] at h
 | x::j,y::k,e,f,cs,g,i,h=>by
  obtain ⟨a,r,rfl,l,m⟩:=g.z7;obtain ⟨b,s,rfl,n,o⟩:=i.z7;simp only [zg1] at h;obtain ⟨c,t,u⟩:=zI.1 h;obtain ⟨v,z,A⟩:=zM.1 u;subst A;obtain ⟨B,C,_⟩:=q57 l n t;obtain ⟨D,E⟩:=q1d m o z;refine ⟨λd p=>?_,?_⟩
  .rcases zD.1 p with rfl | p
   .exact B
   .exact D d p
  .simp only [List.all_cons,qgp,C,E]
theorem qhn:∀ {l:List Leaf} {ps:List (PV K)} {a:List V},qu X sz w ps a->tiled l ps=true->jn l a
 | l,[],a,r,h=>by
  rw [r.jb];cases l with
  | nil=>trivial
  | cons _ _=>simp [tiled] at h
 | l,p::ps,a,r,h=>by
  obtain ⟨v,c,rfl,d,b⟩:=r.z7;cases l with
  | nil=>simp [tiled] at h
  | cons k l=>
   cases k<;>cases d<;>first
    | (simp [tiled] at h;done)
    | (simp only [tiled,zA,decide_eq_true_eq] at h
       simp only [jn]
       first
        | exact ⟨h.1,qhn b h.2⟩
        | exact qhn b h)
end
theorem qdu:∀ {l:List Leaf} {a:List V},jn l a->a.length=l.length
 | [],[],_=>rfl
 | [],_::_,h=>by simp [jn] at h
 | k::l,[],h=>by simp [jn] at h
 | k::l,v::a,h=>by
  cases k<;>cases v<;>first
   | (simp [jn] at h;done)
   | (simp only [jn] at h
      simp only [List.length_cons]
      first
       | rw [qdu h.2]
       | rw [qdu h])
theorem qgn:∀ {l a:List Leaf} {b:List V},jn (l++a) b->jn l (b.take l.length)/\jn a (b.drop l.length)
 | [],a,b,h=>by simpa [jn] using h
 | k::l,a,[],h=>by simp [jn] at h
 | k::l,a,v::b,h=>by
  rw [List.cons_append] at h;simp only [List.length_cons,List.take_succ_cons,List.drop_succ_cons];cases k<;>cases v<;>first
   | (simp [jn] at h;done)
   | (simp only [jn] at h ⊢
      first
       | exact ⟨⟨h.1,(qgn h.2).1⟩,(qgn h.2).2⟩
       | exact qgn h)
theorem q01 {f d c e:List V} (h:f.length=c.length):qgp (f++d) (c++e)=(qgp f c&&qgp d e):=by
 induction f generalizing c with
 | nil=>
  cases c with
  | nil=>simp [qgp]
  | cons _ _=>simp at h
 | cons a f g=>
  cases c with
  | nil=>simp at h
  | cons b c=>
   simp only [List.length_cons,Nat.add_right_cancel_iff] at h;simp only [List.cons_append,qgp,g h,Bool.and_assoc]
mutual
theorem zcj (E:Env):∀ (d:Nat) (t:TypeId) (l:List Leaf),q33 E d t=some l->
  ∀ ti,E.types t=some ti->(ti.isAgg=true->0<l.length/\ti.size=l.length/\∀ j m,jn l j->jn l m->eqV E d t (.agg j) (.agg m)=some (qgp j m))/\
   (ti.isAgg=false->l.length=1/\∀ a b,jn l [a]->jn l [b]->eqV E d t a b=some (qj6 a b))
 | 0,_,_,h=>by simp [q33] at h
 | d+1,t,l,h=>by
  intro ti e;simp only [q33,e] at h;split at h
  .rename_i k i;cases f:ti.isAgg with
   | true=>rw [f] at h;cases h
   | false=>
    rw [f] at h;simp only [Bool.not_false,zO,zS] at h;subst h;refine ⟨λh=>(by cases h),λ_=>⟨rfl,λa b g c=>?_⟩⟩;cases a<;>simp only [jn] at g;cases b<;>simp only [jn] at c;obtain ⟨rfl,_⟩:=g;obtain ⟨rfl,_⟩:=c;simp only [eqV,e,i,if_true,qj6]
  .rename_i i;cases f:ti.isAgg with
   | true=>rw [f] at h;cases h
   | false=>
    rw [f] at h;simp only [Bool.not_false,zO,zS] at h;subst h;refine ⟨λh=>(by cases h),λ_=>⟨rfl,λa b g c=>?_⟩⟩;cases a<;>simp only [jn] at g;cases b<;>simp only [jn] at c;simp only [eqV,e,i,qj6]
  .rename_i i;cases f:ti.isAgg with
   | true=>rw [f] at h;cases h
   | false=>
    rw [f] at h;simp only [Bool.not_false,zO,zS] at h;subst h;refine ⟨λh=>(by cases h),λ_=>⟨rfl,λa b g c=>?_⟩⟩;cases a<;>simp only [jn] at g;cases b<;>simp only [jn] at c;simp only [eqV,e,i,qj6]
  .rename_i q i;cases n:(E.eqOk t&&ti.isAgg) with
   | false=>rw [n] at h;cases h
   | true=>
    rw [n] at h;simp only [zO] at h;simp only [zA] at n;obtain ⟨p,g,c⟩:=zI.1 h;cases o:(Nat.beq ti.size p.length&&Nat.blt 0 p.length) with
    | false=>rw [o] at c;cases c
    | true=>
     rw [o] at c;simp only [zO,zS] at c;subst c;rw [zA,Nat.beq_eq,Nat.blt_eq] at o;refine ⟨λ_=>⟨o.2,o.1,λj m r s=>?_⟩,λh=>(by rw [n.2] at h;cases h)⟩;simp only [eqV,e,i,n.1,zO];have:=zcg E d q.toList 0 p g j m (by simpa using r) (by simpa using s);simpa using this
  .cases h
theorem zcg (E:Env):∀ (d:Nat) (v:List Field) (off:Nat) (l:List Leaf),q71 E d v off=some l->
  ∀ b c:List V,jn l (b.drop off)->jn l (c.drop off)->eqFields E d v b c=some (qgp (b.drop off) (c.drop off))
 | 0,_,_,_,h=>by simp [q71] at h
 | d+1,[],off,l,h=>by
  intro b c w x;simp only [q71,zS] at h;subst h;have L:=List.eq_nil_of_length_eq_zero (qdu w);have M:=List.eq_nil_of_length_eq_zero (qdu x);rw [L,M];rfl
 | d+1,f::v,off,l,h=>by
  intro b c w x;simp only [q71] at h;cases n:Nat.beq f.offset off with
  | false=>rw [n] at h;cases h
  | true=>
   rw [n] at h;simp only [zO] at h;rw [Nat.beq_eq] at n;obtain ⟨a,o,N⟩:=zI.1 h;obtain ⟨r,O,P⟩:=zM.1 N;subst P;obtain ⟨g,p⟩:=qgn w;obtain ⟨i,q⟩:=qgn x;rw [List.drop_drop] at p q;have la:=qdu w;have lb:=qdu x;rw [List.length_append,List.length_drop] at la lb;have A:=qdu g;have B:=qdu i;rw [List.length_take,List.length_drop] at A B;have C:∃ ti,E.types f.type=some ti:=by
    cases d with
    | zero=>simp [q33] at o
    | succ d=>
     simp only [q33] at o;split at o
     .cases o
     .rename_i ti j;exact ⟨ti,j⟩
   obtain ⟨ti,j⟩:=C;have k:=zcg E d v (off+a.length) r O b c p q;have e:∀ y:List V,y.drop off=(y.drop off).take a.length++y.drop (off+a.length):=by
    intro y;rw [<-List.drop_drop];exact (List.take_append_drop _ _).symm
   have s:((b.drop off).take a.length).length=((c.drop off).take a.length).length:=by
    rw [qdu g,qdu i]
   simp only [eqFields,j];rw [e b,e c,q01 s];have key:=zcj E d f.type a o ti j;cases z:ti.isAgg with
   | true=>
    obtain ⟨D,t,m⟩:=key.1 z;have F:Nat.ble (off+ti.size) b.length=true:=by rw [Nat.ble_eq];omega
    have G:Nat.ble (off+ti.size) c.length=true:=by rw [Nat.ble_eq];omega
    rw [t] at F G;simp only [qph,z,zO,n,t,F,G,zB];rw [m _ _ g i];simp only [zB];cases Q:qgp ((b.drop off).take a.length) ((c.drop off).take a.length) with
    | true=>simp only [zO,Bool.true_and,k]
    | false=>simp only [zQ,Bool.false_and]
   | false=>
    obtain ⟨u,m⟩:=key.2 z;have H:off<b.length:=by omega
    have I:off<c.length:=by omega
    have J:(b.drop off).take a.length=[b[off]]:=by rw [u,List.drop_eq_getElem_cons H];rfl
    have K:(c.drop off).take a.length=[c[off]]:=by rw [u,List.drop_eq_getElem_cons I];rfl
    simp only [qph,z,zQ,n,List.getElem?_eq_getElem H,List.getElem?_eq_getElem I,zB];rw [J] at g;rw [K] at i;rw [J,K];rw [m _ _ g i];simp only [zB,qgp,Bool.and_true];cases Q:qj6 b[off] c[off] with
    | true=>simp only [zO,Bool.true_and,k]
    | false=>simp only [zQ,Bool.false_and]
end
end Go.E3
/- E3: OPERATIONS ON VALUES ALONE against E2's. -/
namespace Go.E3
open Go Go.E2
variable {K:Nat->Type}
section
variable {X:Codecs K} {sz:Nat->Nat} {C:ZC K} {base H:Heap} {st:StV K} {fr:Fr} {w:Wd}
variable {tbl:Tbl K} {inv:Nat->List (NV K)->Prop} {meas:Nat->List (NV K)->Nat}
def Res (X:Codecs K) (sz:Nat->Nat) (C:ZC K) (base H:Heap) (st:StV K) (w:Wd) (k:PV K->StV K->Prop) (b:V->Prop):Prop:=
 ∃ p a v w',k p a/\Near st a/\RelH X sz C base a H w'/\Le w w'/\Rep X sz w' p v/\b v
theorem Res.here {k:PV K->StV K->Prop} {a:V->Prop} {p:PV K} {v:V} (R:RelH X sz C base st H w) (b:k p st) (r:Rep X sz w p v) (he:a v):Res X sz C base H st w k a:=
 ⟨p,st,v,w,b,.refl st,R,.refl w,r,he⟩
theorem Res.cond (ok:CfgOk X sz C) {k:PV K->StV K->Prop} {b:V->Prop} {c:Bool×Prop×Prop} (R:RelH X sz C base st H w) (d:qkf c) (e:k (zdd st c).1 (zdd st c).2) (he:b (.bool c.1)):Res X sz C base H st w k b:=by
 obtain ⟨a,f⟩:=R.ext ok (m:=st.next+1) (nu':=λid=>if id=st.next then c.1 else w.nu id) (Nat.le_succ _) (λid hi=>by rw [zF (by omega)]);refine ⟨_,_,_,_,e,⟨rfl,rfl,rfl,rfl⟩,f,a,.sb d.1 d.2 λg=>⟨Nat.lt_succ_self _,?_⟩,he⟩;simp
theorem qio {neg:Bool} {c:Bool×Prop×Prop} (h:qkf c):qkf (qut (qo X tbl inv meas) neg c)/\(qut (qo X tbl inv meas) neg c).1=(c.1 != neg):=by
 cases neg with
 | false=>simp only [qut,zQ];exact ⟨h,by simp⟩
 | true=>simp only [qut,zO];exact ⟨h.not,by simp [z7o,qo]⟩
def quq (E:Env) (neg:Bool) (t:TypeId) (a b:V) (r:Bool):Prop:=qcd E (if neg=true then .neq else .eql) t a b=some (.bool (r != neg))
theorem qn1 {E:Env} {neg:Bool} {t:TypeId} {a b:V} {r:Bool} (hi:∀ k i d j,a=.int k i->b≠.int d j) (c:∀ x y,a=.str x->b≠.str y) (h:eqV E 1000 t a b=some r):quq E neg t a b r:=by
 unfold quq;cases neg
 .simp only [Bool.false_eq_true,if_false];cases a<;>cases b<;>first
   | (exact absurd rfl (hi _ _ _ _ rfl))
   | (exact absurd rfl (c _ _ rfl))
   | (simp only [qcd,h,zH];simp)
 .simp only [if_true];cases a<;>cases b<;>first
   | (exact absurd rfl (hi _ _ _ _ rfl))
   | (exact absurd rfl (c _ _ rfl))
   | (simp only [qcd,h,zH];simp)
theorem zch {E:Env} {t:TypeId} {ti:TI} {x y:PV K} {a b:V} {r:Bool} (l:E.types t=some ti) (rx:Rep X sz w x a) (m:Rep X sz w y b) (h:zs3 E ti.under x y=some r):(∀ k i n j,a=.int k i->b≠.int n j)/\(∀ s q,a=.str s->b≠.str q)/\eqV E 1000 t a b=some r/\¬ (a=.nili/\b=.nili):=by
 unfold zs3 at h;split at h
 all_goals first
  | (cases h;done)
  | (rename_i f
     cases rx;cases m;simp only [zS] at h;subst h;refine ⟨by simp,by simp,?_,by simp⟩;simp only [eqV,l,f]
     done)
  | (rename_i e i o z j p A f
     cases rx;cases m;obtain ⟨u,v,c⟩:=zI.1 h;cases d:(!Nat.beq u.size 0&&Nat.beq i j) with
     | false=>rw [d] at c;cases c
     | true=>
      rw [d] at c;simp only [zO,zS] at c;subst c;simp only [zA] at d;have g:i=j:=zE d.2;subst g;refine ⟨by simp,by simp,?_,by simp⟩;simp only [eqV,l,f,v,zB,Nat.beq_refl,d.1,Bool.and_self,zO])
theorem qea (ok:CfgOk X sz C) {k:PV K->StV K->Prop} {a:V->Prop} {c:Option (Bool×Prop×Prop)} (R:RelH X sz C base st H w) (h:qyb st False c k) (b:∀ d,c=some d->qkf d/\a (.bool d.1)):Res X sz C base H st w k a:=by
 cases c with
 | none=>exact absurd h id
 | some d=>exact .cond ok R (b d rfl).1 h (b d rfl).2
theorem zde (ok:CfgOk X sz C) (R:RelH X sz C base st H w) {neg:Bool} {t e:TypeId} {ti:TI} (f:C.E.types t=some ti) (hu:ti.under=.slice e) {x y:PV K} {a b:V} {k:PV K->StV K->Prop} (rx:Rep X sz w x a) (m:Rep X sz w y b)
  (h:zut (qo X tbl inv meas) neg x y st k):Res X sz C base H st w k λv=>∃ r,quq C.E neg t a b r/\v=.bool (r != neg)/\¬ (a=.nili/\b=.nili):=by
 unfold zut at h;have n:∀ r:Bool,qkf (r,r=true,r=false):=λr=>⟨Iff.rfl,Iff.rfl⟩;split at h
 .cases rx;cases m;refine .here R h .lit ⟨true,qn1 (by simp) (by simp) ?_,rfl,by simp⟩;simp only [eqV,f,hu]
 .rename_i c l own;cases m;cases rx with
  | nlist p=>
   have i:=h true (λ_=>rfl);refine qea ok R i λd j=>?_;cases j;have g:=qio (X:=X) (tbl:=tbl) (inv:=inv) (meas:=meas) (neg:=neg) (n true);refine ⟨g.1,true,qn1 (by simp) (by simp) ?_,congrArg V.bool g.2,by simp⟩;simp only [eqV,f,hu]
  | list=>
   have i:=h false (λo=>Bool.noConfusion o);refine qea ok R i λd j=>?_;cases j;have g:=qio (X:=X) (tbl:=tbl) (inv:=inv) (meas:=meas) (neg:=neg) (n false);refine ⟨g.1,false,qn1 (by simp) (by simp) ?_,congrArg V.bool g.2,by simp⟩;simp only [eqV,f,hu]
 .exact absurd h id
theorem q1f (ok:CfgOk X sz C) (R:RelH X sz C base st H w) {neg:Bool} {t:TypeId} {x y:PV K} {a b:V} {k:PV K->StV K->Prop} (rx:Rep X sz w x a) (q:Rep X sz w y b)
  (h:zzj (qo X tbl inv meas) C.E neg t x y st k):Res X sz C base H st w k λv=>∃ r,quq C.E neg t a b r/\v=.bool (r != neg)/\¬ (a=.nili/\b=.nili):=by
 unfold zzj at h;split at h
 .rename_i S i n J j m;cases rx with | int G=>cases q with | int I=>
  split at h
  .rename_i L;subst L;have:=G i rfl;subst this;have:=I j rfl;subst this;refine .here R h .lit ⟨i == j,?_,rfl,by simp⟩;cases neg<;>simp [quq,qcd,qis,bne]
  .exact absurd h id
 .rename_i S l1 i J l2 j _;cases rx with | int G=>cases q with | int I=>
  split at h
  .rename_i L;subst L;refine qea ok R h λd u=>?_;obtain ⟨c,f,rfl⟩:=zM.1 u
   replace f:qyg .eql i j=some c:=f
   have g:=qio (X:=X) (tbl:=tbl) (inv:=inv) (meas:=meas) (neg:=neg) (qte f);refine ⟨g.1,c.1,?_,by rw [g.2],by simp⟩;have:=zkb (k:=S) f;simp only [qis,zS,V.bool.injEq] at this;cases neg<;>simp [quq,qcd,qis,<-this,bne]
  .exact absurd h id
 .rename_i s A;cases rx;cases q;refine qea ok R h λd u=>?_;obtain ⟨c,f,rfl⟩:=zM.1 u
  replace f:qyv .eql s A=some c:=f
  have g:=qio (X:=X) (tbl:=tbl) (inv:=inv) (meas:=meas) (neg:=neg) (qtr f);refine ⟨g.1,c.1,?_,by rw [g.2],by simp⟩;have:=zk9 f;simp only [qnw,zS,V.bool.injEq] at this;cases neg<;>simp [quq,qcd,qnw,<-this]
 .rename_i T U;obtain ⟨W,rfl,B⟩:=rx.qi8;obtain ⟨us,rfl,D⟩:=q.qi8;split at h
  .rename_i ti l o Y;cases z:(ti.isAgg&&(tiled l T&&tiled l U)) with
   | false=>rw [z] at h;exact absurd h id
   | true=>
    rw [z] at h;simp only [zO] at h;simp only [zA] at z;refine qea ok R h λd u=>?_;obtain ⟨cs,f,rfl⟩:=zM.1 u;obtain ⟨M,F⟩:=q1d B D f;obtain ⟨N,O⟩:=q0o M;have g:=qio (X:=X) (tbl:=tbl) (inv:=inv) (meas:=meas) (neg:=neg) N;refine ⟨g.1,(qp2 cs).1,?_,?_,by simp⟩
    .refine qn1 (by simp) (by simp) ?_;have:=((zcj C.E 1000 t l Y ti o).1 z.1).2.2 W us (qhn B z.2.1) (qhn D z.2.2);rw [this,O,F]
    .exact congrArg V.bool g.2
  .exact absurd h id
 .rename_i x y _ _ _ _;split at h
  .exact absurd h id
  .rename_i ti o;split at h
   .rename_i P;refine qea ok R h λd u=>?_;obtain ⟨c,f,rfl⟩:=zM.1 u;obtain ⟨M,Q,p⟩:=q57 rx q f;have g:=qio (X:=X) (tbl:=tbl) (inv:=inv) (meas:=meas) (neg:=neg) M;refine ⟨g.1,c.1,?_,by rw [g.2],?_⟩
    .rcases p with ⟨Z,i,j,rfl,rfl⟩ | ⟨s,A,rfl,rfl⟩ | ⟨s,A,rfl,rfl⟩
     .cases neg<;>simp [quq,qcd,qis,Q,qj6,bne]
     .cases neg<;>simp [quq,qcd,qnw,Q,qj6]
     .refine qn1 (by simp) (by simp) ?_;simp only [eqV,o,P,Q,qj6]
    .rcases p with ⟨Z,i,j,rfl,rfl⟩ | ⟨s,A,rfl,rfl⟩ | ⟨s,A,rfl,rfl⟩<;>simp
   .rename_i e P;exact zde ok R o P rx q h
   .split at h
    .rename_i r hr;obtain ⟨G,I,h3,h4⟩:=zch o rx q hr;exact .here R h .lit ⟨r,qn1 G I h3,rfl,h4⟩
    .exact absurd h id
theorem q8l (ok:CfgOk X sz C) (R:RelH X sz C base st H w) {op:BinOp} {t:TypeId} {x y:PV K} {a b:V} {k:PV K->StV K->Prop} (G:op≠.shl/\op≠.shr) (rx:Rep X sz w x a) (u:Rep X sz w y b)
  (h:zgi (qo X tbl inv meas) op x y st k):Res X sz C base H st w k λv=>qcd C.E op t a b=some v/\¬ (a=.nili/\b=.nili):=by
 unfold zgi at h;have e:∀ f i j,qcd C.E op t (.int f i) (.int f j)=qis op f i j:=by
  intro f i j;cases op<;>simp_all [qcd]
 split at h
 .rename_i f i n z j m;cases rx with | int l=>cases u with | int o=>
  split at h
  .rename_i A;subst A;have:=l i rfl;subst this;have:=o j rfl;subst this;split at h
   .rename_i I n B;exact .here R h (.int λm D=>by cases D;rfl) ⟨by rw [e,B];rfl,by simp⟩
   .rename_i r B;exact .here R h .lit ⟨by rw [e,B],by simp⟩
   .exact absurd h id
  .exact absurd h id
 .rename_i f M i z N j _;cases rx with | int l=>cases u with | int o=>
  split at h
  .rename_i A;subst A;split at h
   .rename_i c F;refine qea ok R h λd p=>?_;cases p;exact ⟨qte F,by rw [e,zkb F],by simp⟩
   .split at h
    .rename_i r J;exact .here R h.2 (.int λm D=>by cases D) ⟨by rw [e,z4b J h.1],by simp⟩
    .exact absurd h id
  .exact absurd h id
 .rename_i s q;cases rx;cases u;have g:qcd C.E op t (.str s) (.str q)=qnw op s q:=by
   cases op<;>simp_all [qcd]
  split at h
  .obtain ⟨l,o⟩:=h;refine .here R o .str ⟨?_,by simp⟩;have L:s.length+q.length<=1000000000:=l;have:Nat.ble (s.length+q.length) room=true:=by rw [Nat.ble_eq];unfold room;omega
   rw [g];simp only [qnw,this,zO];rfl
  .refine qea ok R h λd p=>?_;exact ⟨qtr p,by rw [g,zk9 p],by simp⟩
 .exact absurd h id
theorem zie (R:RelH X sz C base st H w) {t:TypeId} {x y:PV K} {a b:V} {k:PV K->StV K->Prop} (rx:Rep X sz w x a) (c:Rep X sz w y b)
  (h:z5l (qo X tbl inv meas) x y st k):Res X sz C base H st w k λv=>qcd C.E .shr t a b=some v/\¬ (a=.nili/\b=.nili):=by
 unfold z5l at h;split at h
 .rename_i l o n d m p;cases rx with | int e=>cases c with | int f=>
  have g:=e _ rfl;subst g;have i:=f m rfl;subst i;split at h
  .rename_i q;refine .here R h (.int λm j=>by cases j;rfl) ⟨?_,by simp⟩;simp only [qcd,q3i,zF (show ¬ m<0 by omega)];rfl
  .exact absurd h id
 .exact absurd h id
theorem zgl (ok:CfgOk X sz C) (R:RelH X sz C base st H w) {op:BinOp} {t:TypeId} {x y:PV K} {a b:V} {k:PV K->StV K->Prop} (rx:Rep X sz w x a) (f:Rep X sz w y b)
  (h:z2y (qo X tbl inv meas) C op t x y st k):Res X sz C base H st w k λv=>qcd C.E op t a b=some v/\¬ (a=.nili/\b=.nili):=by
 unfold z2y at h;split at h
 .obtain ⟨p,c,v,w',g,i,d,e,j,r,l,rfl,m⟩:=q1f ok R rx f h;exact ⟨p,c,_,w',g,i,d,e,j,l,m⟩
 .obtain ⟨p,c,v,w',g,i,d,e,j,r,l,rfl,m⟩:=q1f ok R rx f h;exact ⟨p,c,_,w',g,i,d,e,j,l,m⟩
 .exact absurd h id
 .exact zie R rx f h
 .rename_i n g i d e;exact q8l ok R ⟨d,e⟩ rx f h
theorem zp0 (R:RelH X sz C base st H w) {op:UnOp} {x:PV K} {a:V} {k:PV K->StV K->Prop} (rx:Rep X sz w x a) (h:unP (qo X tbl inv meas) op x st k):Res X sz C base H st w k λv=>ze1 op a=some v:=by
 unfold unP at h;split at h
 .rename_i g l n;cases rx with | int e=>
  obtain ⟨d,c⟩:=h;refine .here R c (.int λm i=>by cases i) ?_;have:g.wrap (0-n) = -n:=by rw [Int.zero_sub];exact qoc d
  simp only [ze1,this];rfl
 .cases rx;exact .here R h .lit rfl
 .rename_i id neg b j o;cases rx with | sb e d c=>
  refine .here R h (.sb (b:=!b) (by rw [d];simp) (by rw [e];simp) λf=>⟨(c f).1,?_⟩) rfl;rw [(c f).2];cases w.nu id<;>cases neg<;>rfl
 .exact absurd h id
end
end Go.E3
/- E3: OPERATIONS ON VALUES ALONE against E2's, one by one. -/
namespace Go.E3
open Go Go.E2
variable {K:Nat->Type}
section
variable {X:Codecs K} {sz:Nat->Nat} {C:ZC K} {base H:Heap} {st:StV K} {fr:Fr} {w:Wd}
variable {tbl:Tbl K} {inv:Nat->List (NV K)->Prop} {meas:Nat->List (NV K)->Nat}
theorem qe {α:Type} {o:Option α} {k:α->Prop} (h:onS False o k):∃ a,o=some a/\k a:=by
 cases o with
 | none=>exact absurd h id
 | some a=>exact ⟨a,rfl,h⟩
theorem Res.pass {k:PV K->StV K->Prop} {c a:V->Prop} (h:Res X sz C base H st w k c) (he:∀ v,c v->a v):Res X sz C base H st w k a:=by
 obtain ⟨p,b,v,w',d,e,f,g,i,j⟩:=h;exact ⟨p,b,v,w',d,e,f,g,i,he v j⟩
def qg4 (op:Op):Bool:=
 match op with
 | .move _ | .assign _ | .pick .. | .build .. | .nilCheck _ | .binOp .. | .unOp .. | .convert .. | .makeInterface .. | .slice .. | .fieldAddr .. | .field .. | .indexAddr .. | .index .. | .extract ..=>true
 | .makeFunc ..=>true
 | .call c=>match c.callee with
  | .builtin .len | .builtin .max | .builtin .min=>true
  | _=>false
 | _=>false
theorem q9g {i:PV K} {v:V} (h:Rep X sz w i v):∀ k l n,i=.int k l n->v=.int k n:=by
 rintro k l n rfl;cases h;rfl
theorem qrq {i:PV K} {n:Nat} {k:Nat->Prop} {v:V} (r:Rep X sz w i v) (h:sel (qo X tbl inv meas) i n k):∃ c j,v=.int c (j:Nat)/\j<n/\k j:=by
 unfold sel at h;split at h
 .rename_i c j x;cases r with | int e=>
  have:=e j rfl;subst this;split at h
  .rename_i b;refine ⟨c,j.toNat,?_,by omega,h⟩;congr 1;omega
  .exact absurd h id
 .rename_i c x;cases r with | int e=>
  obtain ⟨m,h⟩:=h;have o:0<=x/\x<(n:Int):=m;refine ⟨c,x.toNat,by congr 1;omega,by omega,?_⟩;have d:∀ (l:List Nat),(l.foldr (λ(j:Nat) (r:Prop)=>((x=(j:Int))->k j)/\r) True)->∀ j ∈ l,x=(j:Int)->k j:=by
   intro l
   induction l with
   | nil=>intro _ j b;cases b
   | cons a l p=>
    intro f j b g;rcases zD.1 b with rfl | b
    .exact f.1 g
    .exact p f.2 j b g
  exact d (List.range n) h x.toNat (List.mem_range.2 (by omega)) (by omega)
 .exact absurd h id
theorem qe5 {c:Nat} {p:PV K} {l:List (K c)} {v:V} (r:Rep X sz w p v) (h:asL (qo X tbl inv meas) c p=some l):Rep X sz w (.list c l none) v:=by
 unfold asL at h;split at h
 .cases r;have e:some []=some l:=h;cases e;exact .nlist trivial
 .rename_i m n own;split at h
  .rename_i d;subst d;cases h;cases r with
   | nlist=>exact .nlist trivial
   | list f g i a j k b d o=>exact .list f g i a j k b d trivial
  .cases h
 .cases h
theorem qav {c:Nat} {l:List (K c)} {own:Option (Nat×Nat)} {v:V} (r:Rep X sz w (.list c l own) v):(l=[]/\v=.nils)∨
  ∃ nm gn off z cap cs e gen a f ex,v=.slice nm gn off l.length z cap/\w.g nm=some (.row cs e gen a f ex)/\a<=gn/\¬ w.M nm/\off+l.length * sz c<=cs.length/\(0<sz c/\(z=sz c∨(0<z/\l=[]/\cap=some 0)))/\(∀ k,cap=some k->l.length<=k)/\
   (∀ i (h:i<l.length) (j:Nat) (p:PV K),(X.cells c (l[i]'h))[j]? = some p->Rep X sz w p (cs.getD (off+i * sz c+j) j8))/\qpu w sz c own (.slice nm gn off l.length z cap):=by
 cases r with
 | nlist=>exact .inl ⟨rfl,rfl⟩
 | list m n o b q s d t u=>
  subst b;exact .inr ⟨_,_,_,_,_,_,_,_,_,_,_,rfl,m,n,o,q,s,d,t,u⟩
theorem qxd {c nm gn off z:Nat} {cap:Option Nat} {l:List (K c)} (a:0<sz c/\(z=sz c∨(0<z/\l=[]/\cap=some 0))):V.qfn (sz c) (.slice nm gn off l.length z cap)=.slice nm gn off l.length (sz c) cap:=by
 rcases a.2 with rfl | ⟨_,_,rfl⟩
 .exact V.qi2
 .rfl
theorem q2n (R:Rel X sz C base st fr H w) {x:Option Operand} {n:Option Int} (h:zu3 (qo X tbl inv meas) C st x=some n):∃ v,qo5 fr H x=some v/\(∀ i,n=some i->∃ k,v=some (.int k i))/\(n=none->v=none):=by
 cases x with
 | none=>
  simp only [zu3,zS] at h;subst h;exact ⟨none,rfl,(λi hi=>(by cases hi)),λ_=>rfl⟩
 | some x=>
  simp only [zu3] at h;split at h
  .rename_i k l m a;simp only [zS] at h;subst h;obtain ⟨v,b,r⟩:=zc R a;have:=q9g r k l m rfl;subst this;exact ⟨_,zoe b,(λi hi=>⟨k,(by cases hi;rfl)⟩),λc=>(by cases c)⟩
  .cases h
theorem qdi {n:Option Int} {v:Option V} {lo hi d:Nat} (a:∀ i,n=some i->∃ k,v=some (.int k i)) (b:n=none->v=none) (c:∀ i,n=some i->(lo:Int)<=i/\i<=hi):qbp lo hi v d=some ((n.map Int.toNat).getD d):=by
 cases n with
 | none=>rw [b rfl];rfl
 | some i=>
  obtain ⟨k,rfl⟩:=a i rfl;exact zbl (c i rfl)
theorem z1j {c:Nat} {l:List (K c)} {v:V} {lo hi:Option Int} {f g:Option V} (r:Rep X sz w (.list c l none) v)
  (H:∀ i,lo=some i->∃ k,f=some (.int k i)) (I:lo=none->f=none) (J:∀ i,hi=some i->∃ k,g=some (.int k i)) (L:hi=none->g=none) (y:(qrz l lo hi).1) :
  ∃ u,qi5 (sz c) v f g none=some u/\Rep X sz w (.list c (qrz l lo hi).2 none) u:=by
 have S:∃ a b:Nat,a<=b/\b<=l.length/\(lo.map Int.toNat).getD 0=a/\(hi.map Int.toNat).getD l.length=b/\(∀ i,lo=some i->0<=i/\i<=(b:Int))/\(∀ i,hi=some i->0<=i/\i<=(l.length:Int))/\(qrz l lo hi).2=(l.take b).drop a:=by
  cases lo with
  | none=>cases hi with
   | none=>exact ⟨0,l.length,by omega,by omega,rfl,rfl,by simp,by simp,by simp [qrz]⟩
   | some j=>
    have A:0<=j/\j<=(l.length:Int):=y;refine ⟨0,j.toNat,by omega,by omega,rfl,rfl,by simp,?_,by simp [qrz,upto]⟩;intro i hi;cases hi;exact A
  | some i=>cases hi with
   | none=>
    have A:0<=i/\i<=(l.length:Int):=y;refine ⟨i.toNat,l.length,by omega,by omega,rfl,rfl,?_,by simp,by simp [qrz,Go.E3.fr]⟩;intro j T;cases T;omega
   | some j=>
    have A:0<=i/\i<=j/\j<=(l.length:Int):=y;refine ⟨i.toNat,j.toNat,by omega,by omega,rfl,rfl,?_,?_,by simp [qrz,Go.E3.sub]⟩
    .intro m o;cases o;omega
    .intro m o;cases o;omega
 obtain ⟨a,b,U,q,M,B,s,t,W⟩:=S;rw [W];unfold qi5;rcases qav r with ⟨rfl,rfl⟩ | ⟨nm,gn,off,z,cap,cs,e,gen,C,Y,ex,rfl,Z,hf,hM,N,O,n,hc,ho⟩
 .have D:b=0:=by simpa using q
  subst D;have E:a=0:=by omega
  subst E;have F:qbp 0 0 g 0=some 0:=by
   have:=qdi (lo:=0) (hi:=0) (d:=0) J L (λi hi=>by have:=t i hi;simpa using this);rw [this];simp only [List.length_nil] at B;rw [B]
  have G:qbp 0 0 f 0=some 0:=by
   have:=qdi (lo:=0) (hi:=0) (d:=0) H I (λi hi=>by have:=s i hi;simpa using this);rw [this,M]
  refine ⟨.nils,?_,?_⟩
  .have o:qbp 0 0 none 0=some 0:=rfl;simp only [V.qfn,qlf,o,zB,F,G];rfl
  .simp only [List.take_nil,List.drop_nil];exact .nlist trivial
 .have a1:l.length<=cap.getD l.length:=by
   cases cap with
   | none=>exact zN _
   | some k=>exact n k rfl
  have F:qbp 0 (cap.getD l.length) g l.length=some b:=by
   have:=qdi (lo:=0) (hi:=cap.getD l.length) (d:=l.length) J L (λi hi=>by have:=t i hi;omega);rw [this,B]
  have G:qbp 0 b f 0=some a:=by
   have:=qdi (lo:=0) (hi:=b) (d:=0) H I (λi hi=>by have:=s i hi;omega);rw [this,M]
  have h:((l.take b).drop a).length=b-a:=by
   rw [List.length_drop,List.length_take];omega
  refine ⟨.slice nm gn (off+a * sz c) (b-a) (sz c) (cap.map (· - a)),?_,?_⟩
  .rw [qxd O];simp only [qlf,Nat.beq_refl,Bool.not_true,zQ];rw [F];simp only [zB];rw [G];rfl
  .refine .list Z hf hM h.symm ?_ ⟨O.1,.inl rfl⟩ ?_ ?_ trivial
   .have:a * sz c+(b-a) * sz c=b * sz c:=by rw [<-Nat.add_mul];congr 1;omega
    have:b * sz c<=l.length * sz c:=zU _ q;omega
   .intro k P;cases cap with
    | none=>cases P
    | some Q=>
     cases P;have:=n Q rfl;show b-a<=Q-a;omega
   .intro i hi j p R;have x:a+i<l.length:=by rw [h] at hi;omega
    have he:((l.take b).drop a)[i]'hi=l[a+i]'x:=by
     rw [List.getElem_drop,List.getElem_take]
    rw [he] at R;have:=hc (a+i) x j p R;have e3:off+a * sz c+i * sz c+j=off+(a+i) * sz c+j:=by rw [Nat.add_mul];omega
    rw [e3];exact this
theorem qjr (s:∀ c x,(X.cells c x).length=sz c) (t:w.g=H.get) {c:Nat} {l:List (K c)} {own:Option (Nat×Nat)} {v:V} (r:Rep X sz w (.list c l own) v) (I:0<sz c):∃ cs,js H (sz c) v=some (l.length,cs)/\qu X sz w (l.flatMap (X.cells c)) cs:=by
 unfold js;rcases qav r with ⟨rfl,rfl⟩ | ⟨nm,gn,off,z,cap,cs,e,gen,i,J,ex,rfl,B,L,Q,d,m,n,C,M⟩
 .exact ⟨[],rfl,.nil⟩
 .rw [qxd m];rw [t] at B;have N:Nat.ble i gn=true:=by rw [Nat.ble_eq];exact L
  have D:Nat.ble (off+l.length * sz c) (off+l.length * sz c)=true:=by rw [Nat.ble_eq];exact zN _
  have E:Nat.ble (off+l.length * sz c) cs.length=true:=by rw [Nat.ble_eq];exact d
  suffices f:qu X sz w (l.flatMap (X.cells c)) ((cs.drop off).take (l.length * sz c)) from
   ⟨_,by simp only [qdx,Nat.beq_refl,zO,jz,B,N,D,E,Bool.and_self,qjy f.qw5,zH],f⟩
  .have o:(l.flatMap (X.cells c)).length=l.length * sz c:=by
    clear d D E C n r M m
    induction l with
    | nil=>simp
    | cons x l u=>rw [List.flatMap_cons,List.length_append,s,u,List.length_cons,Nat.add_mul];omega
   refine ⟨by rw [o,List.length_take,List.length_drop];omega,λj p b=>?_⟩;have F:=(List.getElem?_eq_some_iff.1 b).1;rw [o] at F;have y:∀ (k:List (K c)) (j:Nat) (p:PV K),(k.flatMap (X.cells c))[j]? = some p->∃ (h:j / sz c<k.length),(X.cells c (k[j / sz c]'h))[j % sz c]? = some p:=by
    intro k
    induction k with
    | nil=>intro j p b;simp at b
    | cons x k u=>
     intro j p b;rw [List.flatMap_cons] at b;by_cases a:j<sz c
     .rw [List.getElem?_append_left (by rw [s];exact a)] at b;have q:j / sz c=0:=Nat.div_eq_of_lt a;refine ⟨by rw [q];simp,?_⟩;simp only [q,List.getElem_cons_zero,Nat.mod_eq_of_lt a];exact b
     .rw [List.getElem?_append_right (by rw [s];omega),s] at b;obtain ⟨G,A⟩:=u _ _ b;have q:j / sz c=(j-sz c) / sz c+1:=by
       rw [<-Nat.sub_add_cancel (Nat.le_of_not_lt a),Nat.add_div_right _ I,Nat.add_sub_cancel]
      have O:j % sz c=(j-sz c) % sz c:=by
       rw [Nat.mod_eq_sub_mod (Nat.le_of_not_lt a)]
      refine ⟨by rw [q,List.length_cons];omega,?_⟩;simp only [q,List.getElem_cons_succ,O];exact A
   obtain ⟨G,A⟩:=y l j p b;have:=C _ G _ p A;have P:off+j / sz c * sz c+j % sz c=off+j:=by
    rw [Nat.mul_comm,Nat.add_assoc,Nat.div_add_mod]
   rw [P] at this;rw [List.getD_eq_getElem?_getD] at this ⊢;rw [List.getElem?_take,zT F,List.getElem?_drop];exact this
theorem Rel.z7n (ok:CfgOk X sz C) (R:Rel X sz C base st fr H w) {a:StV K} {w':Wd} (b:Near st a) (d:RelH X sz C base a H w') (hle:Le w w'):Rel X sz C base a fr H w':=
 ⟨d,λi p c=>by
  rw [b.tmps] at c;obtain ⟨v,e,g⟩:=R.f i p c;exact ⟨v,e,g.mono ok.len hle⟩,by rw [b.n];exact R.n,R.ds.mono hle⟩
theorem Res.mono {a:StV K} {w1:Wd} {k:PV K->StV K->Prop} {c:V->Prop} (d:Near st a) (hle:Le w w1) (h:Res X sz C base H a w1 k c):Res X sz C base H st w k c:=by
 obtain ⟨p,b,v,w',e,f,g,i,j,l⟩:=h;exact ⟨p,b,v,w',e,d.trans f,g,hle.trans i,j,l⟩
theorem zip_fst {α β γ:Type}:∀ {l:List α} {a:List β} {b:List γ},a.length=b.length->(l.zip a).map (·.1)=(l.zip b).map (·.1)
 | [],_,_,_=>by simp
 | x::l,[],[],_=>by simp
 | x::l,[],_::_,h=>by simp at h
 | x::l,_::_,[],h=>by simp at h
 | x::l,y::a,z::b,h=>by
  simp only [List.zip_cons_cons,List.map_cons,zip_fst (l:=l) (a:=a) (b:=b) (by simpa using h)]
theorem zar {α:Type}:∀ {l:List α} {ps:List (PV K)} {a:List V},qu X sz w ps a->qu X sz w ((l.zip ps).map (·.2)) ((l.zip a).map (·.2))
 | [],_,_,_=>by simpa using qu.nil
 | x::l,[],a,h=>by rw [h.jb];simpa using qu.nil
 | x::l,p::ps,a,h=>by
  obtain ⟨v,b,rfl,c,d⟩:=h.z7;simp only [List.zip_cons_cons,List.map_cons];exact .cons c (zar d)
theorem q8n {E:Env} {ti:TI} {parts:List Nat} {ps:List (PV K)} {c:List V} {k:PV K->StV K->Prop} (R:RelH X sz C base st H w) (r:qu X sz w ps c) (h:zgn (qo X tbl inv meas) E ti parts ps st k) :
  Res X sz C base H st w k λv=>(match ti.under with
   | .struct d=>bif !d.toList.all (λf=>(E.types f.type).isSome) then none else ((qih (λi=>(d[i]?).bind λf=>(E.types f.type).map λg=>(f.offset,g.size)) ti.zero.cells (parts.zip c)).map V.agg)
   | .array _ e=>(E.types e).bind λj=>((qih (λi=>some (i * j.size,j.size)) ti.zero.cells (parts.zip c)).map V.agg)
   | _=>none)=some v:=by
 unfold zgn at h;obtain ⟨z,u,h⟩:=qe h;have q:=qjo (X:=X) (sz:=sz) (w:=w) u;have s:∀ {l:List (PV K)} {us:List V},qu X sz w l us->(parts.zip l).map (·.1)=(parts.zip us).map (·.1):=by
  intro l us x;exact zip_fst x.1
 have t:qu X sz w ((parts.zip ps).map (·.2)) ((parts.zip c).map (·.2)):=by
  exact zar r
 split at h
 .rename_i d m;cases o:d.toList.all (λf=>(E.types f.type).isSome) with
  | false=>rw [o] at h;exact absurd h id
  | true=>
   rw [o] at h;simp only [zO] at h;obtain ⟨cs,p,h⟩:=qe h;obtain ⟨us,a,b⟩:=qmu (s r) t q p;refine .here R h (.qy4 b) ?_;simp only [m,o,Bool.not_true,zQ];have:qih (λi=>(d[i]?).bind λf=>(E.types f.type).map λg=>(f.offset,g.size)) ti.zero.cells (parts.zip c)=some us:=a;rw [this];rfl
 .rename_i n e m;obtain ⟨j,y,h⟩:=qe h;obtain ⟨cs,p,h⟩:=qe h;obtain ⟨us,a,b⟩:=qmu (s r) t q p;refine .here R h (.qy4 b) ?_;simp only [m,y,zB,a,zH]
 .exact absurd h id
theorem qrd {α β:Type} (h:α=β) (l:List α):(h ▸ l:List β)=l.map λx=>(h ▸ x:β):=by
 subst h;simp
theorem qp4 (ok:CfgOk X sz C):∀ {l:List (K 0)} {cs:List V},qu X sz w (l.flatMap (X.cells 0)) cs->qd0 cs=some (X.u8 ▸ l:List UInt8)
 | [],cs,r=>by
  rw [r.jb,qrd];rfl
 | x::l,cs,r=>by
  rw [List.flatMap_cons,ok.u8,List.singleton_append] at r;obtain ⟨v,e,rfl,b,c⟩:=r.z7;cases b;have a:=qp4 ok c;rw [qrd] at a ⊢;have d:(0:Int)<=(((X.u8 ▸ x:UInt8).toNat:Nat):Int)/\(((X.u8 ▸ x:UInt8).toNat:Nat):Int)<256:=by
   have:=(X.u8 ▸ x:UInt8).toNat_lt;omega
  simp only [qd0,zT d,a,zH,List.map_cons,Int.toNat_natCast,UInt8.ofNat_toNat]
theorem zbx (ok:CfgOk X sz C) (R:RelH X sz C base st H w) {B D:TI} {p:PV K} {v:V} {k:PV K->StV K->Prop} (r:Rep X sz w p v) (h:zrt (qo X tbl inv meas) C B D p st k) :
  Res X sz C base H st w k λu=>((∃ F y j n,B.under=.int F/\D.under=.int y/\v=.int j n/\u=.int y (y.wrap n))∨(∃ s,B.under=.string/\D.under=.string/\v=.str s/\u=.str s)∨
   (∃ e a n cs l,B.under=.slice e/\D.under=.string/\(∀ s,v≠.str s)/\C.E.types e=some a/\a.under=.int .u8/\js H 1 v=some (n,cs)/\qd0 cs=some l/\u=.str l)∨
   (∃ e a nm off lim i o ex,B.under=.pointer e/\D.under=.unsafePointer/\C.E.types e=some a/\(Nat.blt 0 a.size&&Nat.ble (off+1) lim)=true/\v=.ptr nm 0 off lim/\H.get nm=some (.row i o 0 0 0 ex)/\u=.ptr nm 0 off lim)∨
   (∃ e a G nm off lim i o,B.under=.unsafePointer/\D.under=.pointer e/\C.E.types e=some a/\C.E.types o=some G/\(Nat.blt 0 a.size&&C.E.lies o (i.length / G.size) off e)=true/\v=.ptr nm 0 off lim/\H.get nm=some (.row i o 0 0 0 true)/\u=.ptr nm 0 off lim)):=by
 unfold zrt at h;split at h
 .rename_i F y j n x b d;cases r with | int Q=>
  have:=Q n rfl;subst this;exact .here R h (.int λm M=>by cases M;rfl) (.inl ⟨F,y,j,n,b,d,rfl,rfl⟩)
 .rename_i F y j n b d;cases r with | int Q=>
  refine .here R h.2 (.int λm M=>by cases M) (.inl ⟨F,y,j,n,b,d,rfl,?_⟩);rw [qoc h.1];rfl
 .rename_i s b d;cases r;exact .here R h .str (.inr (.inl ⟨s,b,d,rfl,rfl⟩))
 .rename_i e b d;obtain ⟨c,Y,h⟩:=qe h;cases z:Nat.beq c 0 with
  | false=>rw [z] at h;exact absurd h id
  | true=>
   rw [z] at h;simp only [zO] at h;have:=zE z;subst this;obtain ⟨l,Z,h⟩:=qe h;obtain ⟨a,f,h⟩:=qe h;split at h
   .rename_i hu;have S:=qe5 r Z;have hz:=ok.pos e 0 Y;obtain ⟨cs,T,e2⟩:=qjr ok.len R.g S hz;have hs:sz 0=1:=by rw [<-ok.len 0 (X.dflt 0),ok.u8];rfl
    rw [hs] at T;refine .here R h .str (.inr (.inr (.inl ⟨e,a,_,cs,_,b,d,?_,f,hu,T,qp4 ok e2,rfl⟩)));intro s N;subst N;cases S
   .exact absurd h id
 .rename_i e id off lim b d;obtain ⟨a,f,h⟩:=qe h;obtain ⟨ps,A,h⟩:=qe h;cases q:(Nat.blt 0 a.size&&Nat.ble (off+1) lim) with
  | false=>rw [q] at h;exact h.elim
  | true=>
   rw [q] at h;simp only [zO] at h;cases r with
   | cell hi=>
    obtain ⟨_,_,i,o,ex,O,_⟩:=R.cells _ _ (qfx A);exact .here R h (.cell hi) (.inr (.inr (.inr (.inl ⟨e,a,_,off,lim,i,o,ex,b,d,f,q,rfl,O,rfl⟩))))
 .rename_i e id off lim b d;obtain ⟨a,f,g1⟩:=qe h;obtain ⟨t,ht,U⟩:=qe g1;obtain ⟨ps,A,W⟩:=qe U;obtain ⟨G,P,I⟩:=qe W;clear h g1 U W;cases q:(Nat.blt 0 a.size&&C.E.lies t (ps.length / G.size) off e) with
  | false=>rw [q] at I;exact I.elim
  | true=>
   rw [q] at I;simp only [zO] at I;cases r with
   | cell hi=>
    obtain ⟨_,_,i,o,ex,O,J,hr⟩:=R.cells _ _ (qfx A);rw [ht] at J;obtain ⟨rfl,rfl⟩:=J;have L:ps.length=i.length:=hr.1;rw [L] at q;exact .here R I (.cell hi) (.inr (.inr (.inr (.inr ⟨e,a,G,_,off,lim,i,_,b,d,f,P,q,rfl,O,rfl⟩))))
 .exact absurd h id
end
end Go.E3
/- E3: OPERATIONS ON VALUES ALONE against E2's: the theorem. -/
namespace Go.E3
open Go Go.E2
variable {K:Nat->Type}
section
variable {X:Codecs K} {sz:Nat->Nat} {C:ZC K} {base H:Heap} {st:StV K} {fr:Fr} {w:Wd}
variable {tbl:Tbl K} {inv:Nat->List (NV K)->Prop} {meas:Nat->List (NV K)->Nat}
theorem zjd {p:PV K} {v:V} {k:Bool->StV K->Prop} (r:Rep X sz w p v) (h:br (qo X tbl inv meas) st p k):∃ b,v=.bool b:=by
 cases r with
 | lit=>exact ⟨_,rfl⟩
 | sb=>exact ⟨_,rfl⟩
 | _=>exact absurd h id
theorem z1k {s:List UInt8} {lo hi:Option Int} {c e:Option V}
  (m:∀ i,lo=some i->∃ k,c=some (.int k i)) (n:lo=none->c=none) (o:∀ i,hi=some i->∃ k,e=some (.int k i)) (p:hi=none->e=none) (f:(qrz s lo hi).1) :
  qi5 1 (.str s) c e none=some (.str (qrz s lo hi).2):=by
 have q:∃ a b:Nat,a<=b/\b<=s.length/\(lo.map Int.toNat).getD 0=a/\(hi.map Int.toNat).getD s.length=b/\(∀ i,lo=some i->0<=i/\i<=(b:Int))/\(∀ i,hi=some i->0<=i/\i<=(s.length:Int))/\(qrz s lo hi).2=(s.take b).drop a:=by
  cases lo with
  | none=>cases hi with
   | none=>exact ⟨0,s.length,by omega,by omega,rfl,rfl,by simp,by simp,by simp [qrz]⟩
   | some j=>
    have g:0<=j/\j<=(s.length:Int):=f;refine ⟨0,j.toNat,by omega,by omega,rfl,rfl,by simp,?_,by simp [qrz,upto]⟩;intro i hi;cases hi;exact g
  | some i=>cases hi with
   | none=>
    have g:0<=i/\i<=(s.length:Int):=f;refine ⟨i.toNat,s.length,by omega,by omega,rfl,rfl,?_,by simp,by simp [qrz,Go.E3.fr]⟩;intro j r;cases r;omega
   | some j=>
    have g:0<=i/\i<=j/\j<=(s.length:Int):=f;refine ⟨i.toNat,j.toNat,by omega,by omega,rfl,rfl,?_,?_,by simp [qrz,Go.E3.sub]⟩
    .grind
    .grind
 obtain ⟨a,b,t,u,v,w,h,l,x⟩:=q;rw [x];have y:qbp 0 s.length e s.length=some b:=by
  have:=qdi (lo:=0) (hi:=s.length) (d:=s.length) o p (λi hi=>by have:=l i hi;omega);rw [this,w]
 have z:qbp 0 b c 0=some a:=by
  have:=qdi (lo:=0) (hi:=b) (d:=0) m n (λi hi=>by have:=h i hi;omega);rw [this,v]
 simp only [qi5,V.qfn,qlf,y,z,zB,zH]
theorem q68 {fr':Fr} {H':Heap} {x:Option Operand} (h:∀ y,x=some y->opd fr' H' y=opd fr H y):qo5 fr' H' x=qo5 fr H x:=by
 cases x with
 | none=>rfl
 | some y=>simp only [qo5,h y rfl]
theorem q59 (ok:CfgOk X sz C) (R:Rel X sz C base st fr H w) {inl:ZI K} {o:Oper} {k:PV K->StV K->Prop} {fr':Fr} {H':Heap} (hp:qg4 o.op=true)
  (F:∀ x ∈ o.op.operands.toList,opd fr' H' x=opd fr H x)
  (af:∀ s d x,o.op=.convert s d x->H'=H∨(∃ p,qbo (qo X tbl inv meas) C st x=some p/\((∃ k l n,p=.int k l n)∨∃ s,p=.str s)))
  (h:qdd (qo X tbl inv meas) C inl o st k):Res X sz C base H st w k λv=>jk C.E o fr' H'=some (.val v,H'):=by
 cases B:o.op with
 | move x=>
  simp only [qdd,B] at h;obtain ⟨p,M,A⟩:=qe h;clear h;have h:=A;clear A;obtain ⟨v,e,r⟩:=zc R M;have G:=(F x (by simp [B,Op.operands])).trans e;exact .here R.h h r (by simp only [jk,B,G,zH])
 | assign x=>
  simp only [qdd,B] at h;obtain ⟨p,M,A⟩:=qe h;clear h;have h:=A;clear A;obtain ⟨v,e,r⟩:=zc R M;have G:=(F x (by simp [B,Op.operands])).trans e;exact .here R.h h r (by simp only [jk,B,G,zH])
 | pick c a b=>
  simp only [qdd,B] at h;obtain ⟨p,M,A⟩:=qe h;clear h;have h:=A;clear A;obtain ⟨v,e,r⟩:=zc R M;obtain ⟨t,rfl⟩:=zjd r h;obtain ⟨az,h,hn,aO,R'⟩:=q0v R.h r h;obtain ⟨q,h2,A⟩:=qe h;clear h;have h:=A;clear A;obtain ⟨u,Y,r2⟩:=zc (R.z7n ok hn R' (.refl w)) h2;have G:=(F c (by simp [B,Op.operands])).trans e;have e3:opd fr' H' (if t then a else b)=some u:=by
   rw [<-Y];cases t
   .exact F b (by simp [B,Op.operands])
   .exact F a (by simp [B,Op.operands])
  refine ⟨q,az,u,w,h,hn,R',.refl w,r2,?_⟩;simp only [jk,B,G,e3,zH]
 | build t parts=>
  simp only [qdd,B] at h;obtain ⟨ti,D,A⟩:=qe h;clear h;have h:=A;clear A;obtain ⟨ps,M,A⟩:=qe h;clear h;have h:=A;clear A;obtain ⟨vs,e,r⟩:=qej R M;have G:qdm fr' H' (parts.toList.map (·.2))=some vs:=by
   rw [qhj λx hx=>F x ?_]
   .exact e
   .simpa [B,Op.operands] using hx
  refine (q8n R.h r h).pass λv hv=>?_;simp only [jk,B,D,zB,G];split at hv
  .rename_i fs L;simp only [L];cases hf:(!fs.toList.all λf=>(C.E.types f.type).isSome) with
   | true=>rw [hf] at hv;cases hv
   | false=>
    rw [hf] at hv;simp only [zQ] at hv ⊢;rw [hv];rfl
  .rename_i n e' L;simp only [L];obtain ⟨ei,h2,h3⟩:=zI.1 hv;simp only [h2,zB];rw [h3];rfl
  .cases hv
 | nilCheck x=>
  simp only [qdd,B] at h;obtain ⟨p,M,A⟩:=qe h;clear h;have h:=A;clear A;obtain ⟨v,e,r⟩:=zc R M;have G:=(F x (by simp [B,Op.operands])).trans e;split at h
  .cases r with
   | cell hi=>exact .here R.h h (.cell hi) (by simp only [jk,B,G])
  .have r0:=r;cases r;exact .here R.h h r0 (by simp only [jk,B,G])
  .exact absurd h id
 | binOp op t x y u=>
  simp only [qdd,B] at h;obtain ⟨p,M,A⟩:=qe h;clear h;have h:=A;clear A;obtain ⟨q,h2,A⟩:=qe h;clear h;have h:=A;clear A;obtain ⟨a,T,J⟩:=zc R M;obtain ⟨b,eb,rb⟩:=zc R h2;have G:=(F x (by simp [B,Op.operands])).trans T;have Y:=(F y (by simp [B,Op.operands])).trans eb;refine (zgl ok R.h J rb h).pass λv hv=>?_;obtain ⟨hv,hn⟩:=hv;simp only [jk,B,G,Y,zB];split
  .exact absurd ⟨rfl,rfl⟩ hn
  .rw [hv];rfl
 | unOp op t x=>
  simp only [qdd,B] at h;obtain ⟨p,M,A⟩:=qe h;clear h;have h:=A;clear A;obtain ⟨a,T,J⟩:=zc R M;have G:=(F x (by simp [B,Op.operands])).trans T;refine (zp0 R.h J h).pass λv hv=>?_;simp only [jk,B,G,zB,hv,zH]
 | convert s d x=>
  simp only [qdd,B] at h;obtain ⟨si,aA,A⟩:=qe h;clear h;have h:=A;clear A;obtain ⟨di,aB,A⟩:=qe h;clear h;have h:=A;clear A;obtain ⟨p,M,A⟩:=qe h;clear h;have h:=A;clear A;obtain ⟨a,T,J⟩:=zc R M;have G:=(F x (by simp [B,Op.operands])).trans T;refine (zbx ok R.h J h).pass λv hv=>?_;simp only [jk,B,aA,aB,G,zB];rcases hv with ⟨k0,kd,j,n,u1,u2,rfl,rfl⟩ | ⟨s',u1,u2,rfl,rfl⟩ | ⟨e,ei,n,cs,l,u1,u2,an,he,aC,ao,aD,rfl⟩ | ⟨e,ei,nm,off,lim,vs,el,ex,u1,u2,I,hb,rfl,hg,rfl⟩ | ⟨e,ei,li,nm,off,lim,vs,el,u1,u2,I,aE,hb,rfl,hg,rfl⟩
  .simp only [u1,u2]
  .simp only [u1,u2]
  .have aq:js H' 1 a=some (n,cs):=by
    rcases af s d x B with O | ⟨q,hq,P⟩
    .rw [O];exact ao
    .rw [M] at hq;cases hq;rcases P with ⟨k,l',m,rfl⟩ | ⟨s',rfl⟩
     .cases J;simp [js,V.qfn,qdx] at ao
     .cases J;exact absurd rfl (an _)
   simp only [u1,u2];cases a with
   | str s'=>exact absurd rfl (an s')
   | _=>simp only [he,zB,aC,aq,aD,zH]
  .have ag:H'=H:=by
    rcases af s d x B with O | ⟨q,hq,P⟩
    .exact O
    .rw [M] at hq;cases hq;rcases P with ⟨k',l',n',rfl⟩ | ⟨s',rfl⟩<;>cases J
   subst ag;simp only [zA] at hb;simp only [u1,u2,I,zB,hg,hb.1,hb.2,show Nat.ble 0 0=true from rfl,Bool.and_self,zO]
  .have ag:H'=H:=by
    rcases af s d x B with O | ⟨q,hq,P⟩
    .exact O
    .rw [M] at hq;cases hq;rcases P with ⟨k',l',n',rfl⟩ | ⟨s',rfl⟩<;>cases J
   subst ag;simp only [zA] at hb;simp only [u1,u2,I,aE,zB,hg,hb.1,hb.2,show Nat.ble 0 0=true from rfl,Bool.and_self,zO]
 | makeInterface t x=>simp only [qdd,B] at h;exact absurd h id
 | makeFunc fn first a6=>
  cases fn with
  | func f=>
   simp only [qdd,B] at h;obtain ⟨a,M,A⟩:=qe h;clear h;have h:=A;clear A;obtain ⟨c,h2,A⟩:=qe h;clear h;have h:=A;clear A;obtain ⟨va,T,J⟩:=qej R M;obtain ⟨vc,ec,rc⟩:=qej R h2;have G:qdm fr' H' first.toList=some va:=by
    rw [qhj λx hx=>F x ?_]
    .exact T
    .simp [B,Op.operands,hx]
   have Y:qdm fr' H' a6.toList=some vc:=by
    rw [qhj λx hx=>F x ?_]
    .exact ec
    .simp [B,Op.operands,hx]
   refine .here R.h h (.func J.1 rc.1 J.2 rc.2) ?_;simp only [jk,B,G,Y,zB,zH]
  | _=>simp only [qdd,B] at h;exact absurd h id
 | slice t x lo hi mx=>
  cases mx with
  | some m=>simp only [qdd,B] at h;exact absurd h id
  | none=>
   simp only [qdd,B] at h;obtain ⟨ti,D,A⟩:=qe h;clear h;have h:=A;clear A;obtain ⟨p,M,A⟩:=qe h;clear h;have h:=A;clear A;obtain ⟨aP,h2,A⟩:=qe h;clear h;have h:=A;clear A;obtain ⟨aQ,h3,A⟩:=qe h;clear h;have h:=A;clear A;obtain ⟨a,T,J⟩:=zc R M;obtain ⟨aF,aG,l1,l2⟩:=q2n R h2;obtain ⟨aH,aI,r1,r2⟩:=q2n R h3;have G:=(F x (by simp [B,Op.operands])).trans T;have Y:qo5 fr' H' lo=some aF:=by
    rw [q68 λy hy=>F y ?_]
    .exact aG
    .subst hy;simp [B,Op.operands]
   have e3:qo5 fr' H' hi=some aH:=by
    rw [q68 λy hy=>F y ?_]
    .exact aI
    .subst hy;simp [B,Op.operands]
   unfold zwh at h;split at h
   .rename_i s L;cases J;refine .here R.h h.2 .str ?_;have:=z1k l1 l2 r1 r2 h.1;simp only [jk,B,D,G,Y,e3,zB,L,this,zH];rfl
   .rename_i e L;obtain ⟨c,hc,A⟩:=qe h;clear h;have h:=A;clear A;obtain ⟨ei,I,A⟩:=qe h;clear h;have h:=A;clear A;obtain ⟨l,hl,A⟩:=qe h;clear h;have h:=A;clear A;have rl:=qe5 J hl;obtain ⟨u,ar,aJ⟩:=z1j rl l1 l2 r1 r2 h.1;refine .here R.h h.2 aJ ?_;have ab:=ok.size e c ei hc I;rw [<-ab] at ar;simp only [jk,B,D,G,Y,e3,zB,L];cases a with
    | str s=>cases rl
    | _=>simp only [I,zB,ar,zH]
   .exact absurd h id
 | fieldAddr s x j=>
  simp only [qdd,B] at h;obtain ⟨ti,D,A⟩:=qe h;clear h;have h:=A;clear A;obtain ⟨f,hf,A⟩:=qe h;clear h;have h:=A;clear A;obtain ⟨fi,ah,A⟩:=qe h;clear h;have h:=A;clear A;cases hz:Nat.beq fi.size 0 with
  | true=>rw [hz] at h;exact absurd h id
  | false=>
   rw [hz] at h;simp only [zQ] at h;obtain ⟨p,M,A⟩:=qe h;clear h;have h:=A;clear A;obtain ⟨a,T,J⟩:=zc R M;have G:=(F x (by simp [B,Op.operands])).trans T;split at h
   .cases J with
    | cell hi=>exact .here R.h h (.cell hi) (by simp only [jk,B,D,hf,ah,zB,hz,zQ,G])
   .cases J with
    | @eptr ps off nm gn d lim cs e gen U ad ex hg a8 hM q1 q2 hc=>
     refine .here R.h h (.eptr hg a8 hM q1 q2 hc) ?_;simp only [jk,B,D,hf,ah,zB,hz,zQ,G,Nat.add_assoc]
   .cases J with
    | @mptr id c i n off g _ _ _ _ _ _ hi ae h0 q1 q2 q3=>
     cases ai:Nat.beq f.offset 0 with
     | false=>rw [ai] at h;exact absurd h id
     | true=>
      rw [ai] at h;refine .here R.h h (.mptr (g:=g) hi ae h0 q1 q2 q3) ?_;simp only [jk,B,D,hf,ah,zB,hz,zQ,G,zE ai,Nat.add_zero]
   .exact absurd h id
 | field t x j=>simp only [qdd,B] at h;exact absurd h id
 | indexAddr t x i=>
  simp only [qdd,B] at h;obtain ⟨ti,D,A⟩:=qe h;clear h;have h:=A;clear A;obtain ⟨p,M,A⟩:=qe h;clear h;have h:=A;clear A;obtain ⟨q,h2,A⟩:=qe h;clear h;have h:=A;clear A;obtain ⟨a,T,J⟩:=zc R M;obtain ⟨b,eb,rb⟩:=zc R h2;have G:=(F x (by simp [B,Op.operands])).trans T;have Y:=(F i (by simp [B,Op.operands])).trans eb;unfold zke at h;split at h
  .rename_i e L;split at h
   .rename_i es m _ aR;obtain ⟨ei,I,A⟩:=qe h;clear h;have h:=A;clear A;cases hz:Nat.beq ei.size es with
    | false=>rw [hz] at h;exact h.elim
    | true=>
     rw [hz] at h;simp only [zO] at h;have:=zE hz;subst this;obtain ⟨kd,j,rfl,hj,h⟩:=qrq rb h;cases J with
     | @plist _ _ _ _ nm gn d cs e' gen U ad ex hg hf hM h0 q1 q2 hc=>
      refine .here R.h h (.eptr (off:=j * ei.size) (d:=d) (lim:=d+m * ei.size) hg hf hM (by omega) (by omega) hc) ?_;have Q:Nat.beq ei.size ei.size=true/\(0:Int)<=(j:Int)/\(j:Int)<(m:Int):=⟨Nat.beq_refl _,by omega,by omega⟩;simp only [jk,B,D,G,Y,L,I,zB,qgy,zT Q,zH,Int.toNat_natCast]
   .obtain ⟨c,hc,A⟩:=qe h;clear h;have h:=A;clear A;obtain ⟨ei,I,A⟩:=qe h;clear h;have h:=A;clear A;have ab:=ok.size e c ei hc I;split at h
    .rename_i kd lt n;have hb:=q9g rb kd lt n rfl;subst hb;split at h
     .rename_i id c' fx m _;cases aj:Nat.beq c c' with
      | false=>
       rw [aj] at h;exact h.elim
      | true=>
       rw [aj] at h;simp only [zO] at h;have:=zE aj;subst this;obtain ⟨hw,h⟩:=h;have a7:n=m:=hw;subst a7;cases J with
       | @mlist _ _ _ _ g _ _ _ _ _ _ hi ae h0 aK q1 q2 q3=>
        refine .here R.h h (.mptr (g:=g) hi ae h0 q1 q2 q3) ?_;have Q:Nat.beq 1 1=true/\0<=n/\n<((n.toNat+1:Nat):Int):=⟨rfl,by omega⟩;simp only [jk,B,D,G,Y,L,I,zB,qgy,ab,aK,Nat.zero_add,Nat.mul_one];rw [zT Q];rfl
     obtain ⟨l,hl,A⟩:=qe h;clear h;have h:=A;clear A;have rl:=qe5 J hl;obtain ⟨hw,h⟩:=h;have a7:0<=n/\n<(l.length:Int):=hw;rcases qav rl with ⟨rfl,rfl⟩ | ⟨nm,gn,off,z,cap,cs,e',gen,U,ad,ex,rfl,hg,a8,hM,au,hz,aN,a1,_⟩
     .simp at a7;omega
     .have hi:n.toNat<l.length:=by omega
      obtain rfl:z=sz c:=by
       rcases hz.2 with h | ⟨_,rfl,_⟩
       .exact h
       .simp at hi
      have he:l.getD n.toNat (X.dflt c)=l[n.toNat]'hi:=by rw [List.getD_eq_getElem?_getD,List.getElem?_eq_getElem hi];rfl
      have av:(n.toNat+1) * sz c<=l.length * sz c:=zU _ (by omega);rw [Nat.add_mul,Nat.one_mul] at av;refine .here R.h h (v:=.ptr nm gn (off+n.toNat * sz c+0) (off+l.length * sz c)) (.eptr hg a8 hM ?_ au ?_) ?_
      .show off+n.toNat * sz c+(X.cells c (l.getD n.toNat (X.dflt c))).length<=_;rw [ok.len];omega
      .intro j p hp;have aw:(X.cells c (l.getD n.toNat (X.dflt c)))[j]? = some p:=hp;rw [he] at aw;exact a1 _ hi j p aw
      .have Q:Nat.beq ei.size (sz c)=true/\0<=n/\n<(l.length:Int):=⟨by rw [ab,Nat.beq_refl],a7⟩;simp only [jk,B,D,G,Y,L,I,zB,qgy,zT Q,zH,Nat.add_zero]
    .exact absurd h id
  .rename_i m e L;obtain ⟨ei,I,A⟩:=qe h;clear h;have h:=A;clear A;split at h
   .obtain ⟨kd,j,rfl,hj,h⟩:=qrq rb h;cases J with
    | cell hi=>
     refine .here R.h h (.cell hi) ?_;have Q:(0:Int)<=(j:Int)/\(j:Int)<(m:Int):=by omega
     simp only [jk,B,D,G,Y,L,I,zB,zT Q,Int.toNat_natCast]
   .obtain ⟨kd,j,rfl,hj,h⟩:=qrq rb h;cases J with
    | @eptr ps off nm gn d lim cs e' gen U ad ex hg a8 hM q1 q2 a1=>
     refine .here R.h h (.eptr hg a8 hM q1 q2 a1) ?_;have Q:(0:Int)<=(j:Int)/\(j:Int)<(m:Int):=by omega
     simp only [jk,B,D,G,Y,L,I,zB,zT Q,Int.toNat_natCast,Nat.add_assoc]
   .exact absurd h id
  .exact absurd h id
 | index t x i=>
  simp only [qdd,B] at h;obtain ⟨ti,D,A⟩:=qe h;clear h;have h:=A;clear A;obtain ⟨p,M,A⟩:=qe h;clear h;have h:=A;clear A;obtain ⟨q,h2,A⟩:=qe h;clear h;have h:=A;clear A;obtain ⟨a,T,J⟩:=zc R M;obtain ⟨b,eb,rb⟩:=zc R h2;have G:=(F x (by simp [B,Op.operands])).trans T;have Y:=(F i (by simp [B,Op.operands])).trans eb;unfold ixP at h;split at h
  .rename_i L;split at h
   .rename_i s kd lt n;have hb:=q9g rb kd lt n rfl;subst hb;cases J;obtain ⟨hw,h⟩:=h;have a7:0<=n/\n<(s.length:Int):=hw;refine .here R.h h (.int λm Z=>by cases Z) ?_;have hi:n.toNat<s.length:=by omega
    simp only [jk,B,D,G,Y,L,zB,zT a7.1,List.getElem?_eq_getElem hi,zH];have:(qo X tbl inv meas).sget s n=((s[n.toNat]'hi).toNat:Int):=by
     show bx s n=_;unfold bx;rw [List.getD_eq_getElem?_getD,List.getElem?_eq_getElem hi];rfl
    rw [this]
   .exact absurd h id
  .rename_i m e L;split at h
   .obtain ⟨vs,rfl,rl⟩:=J.qi8;obtain ⟨ei,I,A⟩:=qe h;clear h;have h:=A;clear A;obtain ⟨kd,j,rfl,hj,h⟩:=qrq rb h;obtain ⟨q,hq,A⟩:=qe h;clear h;have h:=A;clear A;obtain ⟨u,aL,ru⟩:=zdz rl hq;have Q:(0:Int)<=(j:Int)/\(j:Int)<(m:Int):=by omega
    exact .here R.h h ru (by simp only [jk,B,D,G,Y,L,I,zB,zT Q,Int.toNat_natCast,aL,zH])
   .exact absurd h id
  .exact absurd h id
 | extract x i=>
  simp only [qdd,B] at h;obtain ⟨p,M,A⟩:=qe h;clear h;have h:=A;clear A;obtain ⟨a,T,J⟩:=zc R M;have G:=(F x (by simp [B,Op.operands])).trans T;split at h
  .obtain ⟨vs,rfl,rl⟩:=J.qi6;obtain ⟨q,hq,A⟩:=qe h;clear h;have h:=A;clear A;obtain ⟨u,L,ru⟩:=rl.get hq;exact .here R.h h ru (by simp only [jk,B,G,zB,L,zH])
  .exact absurd h id
 | call c=>
  simp only [qdd,B] at h;obtain ⟨ps,M,A⟩:=qe h;clear h;have h:=A;clear A;obtain ⟨vs,T,J⟩:=qej R M;have G:qdm fr' H' c.args.toList=some vs:=by
   rw [qhj λx hx=>F x ?_]
   .exact T
   .simp only [B,Op.operands,Call.operands,Array.toList_append,List.mem_append];exact .inr hx
  simp only [qg4,B] at hp;split at hp
  .rename_i N;simp only [N] at h;simp only [jk,B,G,N,zB];unfold qlt at h;split at h
   .rename_i x t hb S;obtain ⟨a,ax,rfl,W,aa⟩:=J.z7;have:=aa.jb;subst this;split at h
    .rename_i ti D;split at h
     .rename_i n e' p' L;refine .here R.h h (.int λm Z=>by cases Z;rfl) ?_;simp only [qar,S,D,zB,L];rfl
     .rename_i s L;cases W;refine .here R.h h (.int λm Z=>by cases Z) ?_;simp only [qar,S,D,zB,L];rfl
     .rename_i e' L;cases W;refine .here R.h h (.int λm Z=>by cases Z;rfl) ?_;simp only [qar,S,D,zB,L];rfl
     .rename_i e' c' l own L;refine .here R.h h (v:=qiq l.length) (.int λm Z=>by cases Z) ?_;rcases qav W with ⟨rfl,rfl⟩ | ⟨nm,gn,off,z,cap,cs,Y,gen,U,ad,ex,rfl,_⟩
      .simp only [qar,S,D,zB,L];rfl
      .simp only [qar,S,D,zB,L]
     .rename_i e' aS c' aM n' L;cases W with
      | mlist hi ae h0=>
       obtain ⟨_,h⟩:=(show _/\k (.int .i64 none (n'+1)) st from h);refine .here R.h h (v:=qiq (n'.toNat+1)) ?_ ?_
       .have:((n'.toNat+1:Nat):Int)=n'+1:=by omega
        show Rep X sz w _ (.int .i64 ((n'.toNat+1:Nat):Int));rw [this];exact .int λm Z=>by cases Z
       .simp only [qar,S,D,zB,L]
     .rename_i e' aT n' aM aU L;cases W with
      | plist=>
       refine .here R.h h (v:=qiq n') (.int λm Z=>by cases Z;rfl) ?_;simp only [qar,S,D,zB,L]
     .exact absurd h id
    .exact absurd h id
   all_goals first
    | contradiction
    | (exact absurd h id)
  .rename_i N;simp only [N] at h;simp only [jk,B,G,N,zB];unfold qlt at h;split at h
   all_goals first
    | contradiction
    | (exact absurd h id)
    | (obtain ⟨x,ax,rfl,W,aa⟩:=J.z7
       obtain ⟨y,ay,rfl,ak,al⟩:=aa.z7;have:=al.jb;subst this;cases W;cases ak;exact .here R.h h (.int λm Z=>by cases Z) rfl)
  .rename_i N;simp only [N] at h;simp only [jk,B,G,N,zB];unfold qlt at h;split at h
   all_goals first
    | contradiction
    | (exact absurd h id)
    | (obtain ⟨x,ax,rfl,W,aa⟩:=J.z7
       obtain ⟨y,ay,rfl,ak,al⟩:=aa.z7;have:=al.jb;subst this;cases W;cases ak;exact .here R.h h (.int λm Z=>by cases Z) rfl)
  .cases hp
 | _=>simp [qg4,B] at hp
end
end Go.E3
/- E3: OPERATIONS ON MEMORY against E2's. -/
namespace Go.E3
open Go Go.E2
variable {K:Nat->Type}
theorem qe7 {α:Type}:∀ {l:List (Nat×α)} {n:Nat} {a:α} {j:Nat},look (qhq l n a) j=if j=n then some a else look l j
 | [],n,a,j=>by
  simp only [qhq,look,cond_eq_ite,Nat.beq_eq];by_cases h:n=j
  .subst h;simp
  .rw [zF h,zF (Ne.symm h)]
 | (i,b)::l,n,a,j=>by
  simp only [qhq,cond_eq_ite,Nat.beq_eq];by_cases hi:i=n
  .subst hi;rw [zT rfl];simp only [look,cond_eq_ite,Nat.beq_eq];by_cases c:i=j
   .subst c;simp
   .rw [zF c,zF (Ne.symm c),zF c]
  .rw [zF hi];simp only [look,cond_eq_ite,Nat.beq_eq];by_cases c:i=j
   .subst c;rw [zT rfl,zF hi,zT rfl]
   .rw [zF c,zF c,qe7]
theorem qcb {α:Type} {l:List (Nat×α)} {n:Nat} {a:α} {j:Nat}:look ((n,a)::l) j=if j=n then some a else look l j:=by
 simp only [look,cond_eq_ite,Nat.beq_eq];by_cases h:n=j
 .subst h;simp
 .grind
section
variable {X:Codecs K} {sz:Nat->Nat} {C:ZC K} {base H:Heap} {st:StV K} {fr:Fr} {w:Wd}
variable {tbl:Tbl K} {inv:Nat->List (NV K)->Prop} {meas:Nat->List (NV K)->Nat}
theorem Le.ext {m:Nat} {nu':Nat->Bool} (hm:w.n<=m) (a:∀ id,id<w.n->nu' id=w.nu id):Le w {w with n:=m,nu:=nu'}:=
 ⟨⟨hm,λnm cs e gen b c ex h f=>⟨f,[],gen,c,ex,by rw [zJ];exact h⟩,λ_ _=>rfl,a,λ_ _ h=>h,
  λ_ _ _ _ h d=>by rw [h] at d;cases d;exact zN _,λ_ _ _ _ _=>⟨rfl,λ_ _ _=>rfl⟩,rfl,λ_ _=>.rfl,zN _,rfl,λ_ _ h=>h,λ_ _=>rfl,qor λ_ _ _=>rfl⟩,λ_ h=>h,rfl⟩
theorem zcq {neg b:Bool} {a c:Prop} {ps:List (PV K)} {n:Nat}:qco (.sb 0 neg b a c::ps) n=(.sb n neg b a c::(qco ps (n+1)).1,(qco ps (n+1)).2):=by
 simp only [qco]
theorem q85 {p:PV K} {ps:List (PV K)} {n:Nat} (h:∀ neg b a c,p≠.sb 0 neg b a c):qco (p::ps) n=(p::(qco ps n).1,(qco ps n).2):=by
 cases p with
 | sb id neg b a c=>
  cases id with
  | zero=>grind
  | succ m=>rfl
 | _=>rfl
theorem qhv (d:∀ c x,(X.cells c x).length=sz c):∀ {ps:List (PV K)} {e:List V} {w:Wd},qu X sz w ps e->1<=w.n->
  ∃ nu',(∀ id,id<w.n->nu' id=w.nu id)/\w.n<=(qco ps w.n).2/\qu X sz {w with n:=(qco ps w.n).2,nu:=nu'} (qco ps w.n).1 e
 | [],e,w,r,j=>⟨w.nu,λ_ _=>rfl,zN _,by simp only [qco];exact r⟩
 | p::ps,e,w,r,j=>by
  obtain ⟨v,o,rfl,k,l⟩:=r.z7;by_cases m:∃ neg b g h,p=.sb 0 neg b g h
  .obtain ⟨neg,b,g,h,rfl⟩:=m;cases k with | sb q s u=>
   have i:Le w {w with n:=w.n+1,nu:=λid=>if id=w.n then (b != neg) else w.nu id}:=Le.ext (Nat.le_succ _) (λid hi=>by rw [zF (by omega)]);obtain ⟨nu',g1,a,f⟩:=qhv d (l.mono d i) (by show 1<=w.n+1;omega);simp only at g1 a f;rw [zcq];refine ⟨nu',λid hi=>?_,zR (Nat.le_succ _) a,.cons (.sb q s λy=>⟨a,?_⟩) f⟩
   .rw [g1 id (by omega),zF (by omega)]
   .show b=(nu' w.n != neg);rw [g1 w.n (by omega),zT rfl];cases b<;>cases neg<;>rfl
  .obtain ⟨nu',g1,a,f⟩:=qhv d l j;rw [q85 (by intro neg b g h t;exact m ⟨_,_,_,_,t⟩)];exact ⟨nu',g1,a,.cons (k.mono d (Le.ext a g1)) f⟩
theorem qkp (ok:CfgOk X sz C) (R:RelH X sz C base st H w) {p:PV K} {v:V} (r:Rep X sz w p v):∃ w',Near st (qfc p st).2/\RelH X sz C base (qfc p st).2 H w'/\Le w w'/\Rep X sz w' (qfc p st).1 v:=by
 unfold qfc;split
 .rename_i neg b j k;cases r with | sb g h l=>
  obtain ⟨a,c⟩:=R.ext ok (m:=st.next+1) (nu':=λid=>if id=st.next then (b != neg) else w.nu id) (Nat.le_succ _) (λid hi=>by rw [zF (by omega)]);refine ⟨_,⟨rfl,rfl,rfl,rfl⟩,c,a,.sb g h λo=>⟨Nat.lt_succ_self _,?_⟩⟩;show b=((if st.next=st.next then (b != neg) else w.nu st.next) != neg);rw [zT rfl];cases b<;>cases neg<;>rfl
 .rename_i cs;obtain ⟨i,rfl,f⟩:=r.qi8;obtain ⟨nu',g1,d,e⟩:=qhv ok.len f (by rw [R.n];exact R.one);rw [R.n] at g1 d e;obtain ⟨a,c⟩:=R.ext ok d g1;exact ⟨_,⟨rfl,rfl,rfl,rfl⟩,c,a,.qy4 e⟩
 .rename_i cs;obtain ⟨i,rfl,f⟩:=r.qi6;obtain ⟨nu',g1,d,e⟩:=qhv ok.len f (by rw [R.n];exact R.one);rw [R.n] at g1 d e;obtain ⟨a,c⟩:=R.ext ok d g1;exact ⟨_,⟨rfl,rfl,rfl,rfl⟩,c,a,.tuple' e⟩
 .exact ⟨w,.refl st,R,.refl w,r⟩
theorem qsy {ti:TI} {H':Heap} {nm gn off lim:Nat} {cs:List V} {e:TypeId} {gen floor i:Nat} {ex:Bool} {ps:List (PV K)} {d:Nat} {q:PV K}
  (m:H'.get nm=some (.row cs e gen floor i ex)) (n:floor<=gn) (B:d+ps.length<=lim) (o:lim<=cs.length) (C:∀ (j:Nat) (p:PV K),ps[j]? = some p->Rep X sz w p (cs.getD (d+j) j8))
  (D:off+ti.size<=ps.length) (b:(bif ti.isAgg then some (.agg ((ps.drop off).take ti.size)) else bif Nat.beq ti.size 1 then ps[off]? else none)=some q) :
  ∃ v,qkh H' ti (.ptr nm gn (d+off) lim)=some v/\Rep X sz w q v:=by
 have r:Nat.ble floor gn=true:=by rw [Nat.ble_eq];exact n
 have s:Nat.ble (d+off+ti.size) lim=true:=by rw [Nat.ble_eq];omega
 have t:Nat.ble lim cs.length=true:=by rw [Nat.ble_eq];exact o
 have a:qu X sz w ((ps.drop off).take ti.size) ((cs.drop (d+off)).take ti.size):=by
  refine ⟨by rw [List.length_take,List.length_drop,List.length_take,List.length_drop];omega,λj p k=>?_⟩;rw [List.getElem?_take] at k;split at k
  .grind
  .cases k
 have c:jz H' ti.size (.ptr nm gn (d+off) lim)=some ((cs.drop (d+off)).take ti.size):=by
  simp only [jz,m,r,s,t,Bool.and_self,zO,qjy a.qw5]
 cases h:ti.isAgg with
 | true=>
  rw [h] at b;simp only [zO,zS] at b;subst b;exact ⟨_,by simp only [qkh,c,zB,h,zO],.qy4 a⟩
 | false=>
  rw [h] at b;cases l:Nat.beq ti.size 1 with
  | false=>simp_all
  | true=>
   rw [l] at b;have f:=zE l;rw [f] at a c;have g:off<ps.length:=by omega
   have u:(ps.drop off).take 1=[q]:=by
    rw [List.drop_eq_getElem_cons g];rw [List.getElem?_eq_getElem g] at b;cases b;rfl
   rw [u] at a;obtain ⟨v,x,y,z,A⟩:=a.z7;have:=A.jb;subst this;refine ⟨v,?_,z⟩;simp only [qkh,f,c,zB,h,zQ,y]
theorem zcn (b:∀ c x,(X.cells c x).length=sz c) {c:Nat}:∀ {l:List (K c)} {i:Nat} (h:i<l.length) {j:Nat} {p:PV K},(X.cells c (l[i]'h))[j]? = some p->(l.flatMap (X.cells c))[i * sz c+j]? = some p
 | [],i,h,_,_,_=>by simp at h
 | x::l,0,h,j,p,a=>by
  simp only [List.getElem_cons_zero] at a;rw [List.flatMap_cons,Nat.zero_mul,Nat.zero_add,List.getElem?_append_left (List.getElem?_eq_some_iff.1 a).1];exact a
 | x::l,i+1,h,j,p,a=>by
  simp only [List.getElem_cons_succ] at a;have d:=zcn b (l:=l) (i:=i) (by simpa using h) a;rw [List.flatMap_cons,List.getElem?_append_right (by rw [b,Nat.add_mul,Nat.one_mul];omega),b];have:(i+1) * sz c+j-sz c=i * sz c+j:=by rw [Nat.add_mul,Nat.one_mul];omega
  rw [this];exact d
theorem qev (a:∀ c x,(X.cells c x).length=sz c) {c:Nat}:∀ {l:List (K c)},(l.flatMap (X.cells c)).length=l.length * sz c
 | []=>by simp
 | x::l=>by rw [List.flatMap_cons,List.length_append,a,qev a,List.length_cons,Nat.add_mul];omega
theorem zs6 (ok:CfgOk X sz C) {c:Nat} {l:List (K c)}:(l.flatMap (X.cells c)).all qa2=true:=by
 rw [List.all_eq_true];intro p a;obtain ⟨x,_,b⟩:=List.mem_flatMap.1 a;exact List.all_eq_true.1 (ok.one c x) p b
theorem zom {ti:TI} {H':Heap} {nm d off lim:Nat} {c:List V} {e:TypeId} {ex:Bool} {all ps:List (PV K)} {q:PV K} (g:H'.get nm=some (.row c e 0 0 0 ex)) (f:qu X sz w all c)
  (a:∀ (j:Nat) (p:PV K),ps[j]? = some p->all[d+j]? = some p) (i:d+ps.length<=lim) (k:lim<=all.length) (h:loadAt ti ps off=some q):∃ u,qkh H' ti (.ptr nm 0 (d+off) lim)=some u/\Rep X sz w q u:=by
 unfold loadAt at h;cases b:Nat.ble (off+ti.size) ps.length with
 | false=>simp_all
 | true=>
  rw [b] at h;rw [Nat.ble_eq] at b;exact qsy g (zN _) i (by rw [<-f.1];exact k) (λj p l=>f.2 _ p (a j p l)) b h
theorem ql6 (R:RelH X sz C base st H w) {ti:TI} {p q:PV K} {v:V} (r:Rep X sz w p v) (h:zkt st ti p=some q) :
  ∃ nm gn off lim,v=.ptr nm gn off lim/\nm<H.next/\(∀ H':Heap,H'.get nm=H.get nm->∃ u,qkh H' ti v=some u/\Rep X sz w q u)/\
   ((∃ id,(∃ o l,p=.cell id o l)/\nm=w.c id/\∃ ct,look st.cells id=some ct)∨(∃ cs o,p=.eptr cs o/\¬ w.M nm)):=by
 unfold zkt at h;split at h
 .rename_i id off lim;obtain ⟨ps,z,x⟩:=zI.1 h;have y:=qfx z;cases a:(Nat.ble (off+ti.size) lim&&Nat.ble lim ps.length) with
  | false=>simp_all
  | true=>
   rw [a] at x;simp only [zA,Nat.ble_eq] at a;cases r with
   | cell hi=>
    obtain ⟨i,_,L,e,ex,b,_,A⟩:=R.cells id _ y;refine ⟨_,_,_,_,rfl,(R.cl id i).2.1,λH' k=>?_,.inl ⟨id,⟨_,_,rfl⟩,rfl,_,y⟩⟩;have:=zom (ti:=ti) (H':=H') (nm:=w.c id) (d:=0) (off:=off) (lim:=lim) (ps:=ps.take lim) (q:=q) (by rw [k];exact b) A (λj p f=>by
      rw [List.getElem?_take] at f;split at f
      .rw [Nat.zero_add];exact f
      .cases f) (by rw [List.length_take];omega) a.2 ?_
    .simp_all
    .unfold loadAt;have m:Nat.ble (off+ti.size) (ps.take lim).length=true:=by rw [Nat.ble_eq,List.length_take];omega
     rw [m,zO,<-x];cases ti.isAgg with
     | true=>
      simp only [zO];congr 2;rw [List.drop_take,List.take_take];congr 1;omega
     | false=>
      simp only [zQ];cases n:Nat.beq ti.size 1 with
      | false=>rfl
      | true=>
       simp only [zO];have:=zE n;rw [List.getElem?_take,zT (by omega)]
 .rename_i cs off;unfold loadAt at h;cases a:Nat.ble (off+ti.size) cs.length with
  | false=>simp_all
  | true=>
   rw [a] at h;rw [Nat.ble_eq] at a;cases r with
   | @eptr ps off nm gn d lim B e gen s D ex b E F G I J=>
    rw [R.g] at b;refine ⟨_,_,_,_,rfl,?_,λH' k=>qsy (by rw [k];exact b) E G I J a h,.inr ⟨_,_,rfl,F⟩⟩;by_cases t:nm<H.next
    .exact t
    .rw [R.wf nm (by omega)] at b;cases b
 .cases h
theorem qqq (ok:CfgOk X sz C) (R:RelH X sz C base st H w) {ti:TI} {p:PV K} {v:V} {k:PV K->StV K->Prop} (r:Rep X sz w p v) (h:zuh (qo X tbl inv meas) ti p st k) :
  ∃ q,k (qfc q st).1 (qfc q st).2/\∃ nm gn off lim,v=.ptr nm gn off lim/\nm<H.next/\(∀ H':Heap,H'.get nm=H.get nm->∃ u,qkh H' ti v=some u/\Rep X sz w q u)/\
   ((∃ id,((∃ o l,p=.cell id o l)∨∃ c i n o,p=.mptr id c i n o)/\nm=w.c id/\∃ ct,look st.cells id=some ct)∨(∃ cs o,p=.eptr cs o/\¬ w.M nm)):=by
 unfold zuh at h;split at h
 .rename_i id c i n off;obtain ⟨l,O,t⟩:=qe h;cases m:(Nat.beq ti.size 1&&!ti.isAgg) with
  | false=>rw [m] at t;exact t.elim
  | true=>
   rw [m] at t;simp only [zA,Bool.not_eq_true'] at m;obtain ⟨y,z⟩:=t;have E:n=(l.1.length:Int):=y;have F:=qli O;obtain ⟨A,hM,G,e,gen,fl,ex,I,B,_,f,x⟩:=R.cells id _ F;have x:qu X sz w (l.1.flatMap (X.cells c)++[l.2]) G:=x;have a:=x.1;rw [List.length_append,qev ok.len,f,Nat.mul_one] at a;have a:l.1.length+1=G.length:=a;cases r with
   | @mptr _ _ _ _ _ g P e1 J Q S T hi _ h0 L q2 U=>
    rw [R.g,I] at L;cases L;have s:=U (by omega);subst s;refine ⟨l.2,z,_,_,_,_,rfl,(R.cl id A).2.1,λH' W=>?_,.inl ⟨id,.inr ⟨_,_,_,_,rfl⟩,rfl,_,F⟩⟩;have D:=zE m.1;have:=qsy (X:=X) (sz:=sz) (w:=w) (ti:=ti) (H':=H') (nm:=w.c id) (gn:=g) (d:=n.toNat) (off:=0) (lim:=n.toNat+1) (ps:=[l.2]) (q:=l.2) (by rw [W];exact I) B (zN _) (by omega)
     (λj p N=>by
       cases j with
       | zero=>
        cases N;refine x.2 _ _ ?_;rw [List.getElem?_append_right (by rw [qev ok.len,f];omega),qev ok.len,f,show n.toNat+0-l.1.length * 1=0 by omega];rfl
       | succ j=>simp at N) (by rw [D];exact zN _) (by rw [m.2,zQ,m.1];rfl)
    exact this
 .obtain ⟨q,h,z⟩:=qe h;refine ⟨q,z,?_⟩;obtain ⟨nm,gn,off,lim,Y,Z,a3,a4⟩:=ql6 R r h;refine ⟨nm,gn,off,lim,Y,Z,a3,?_⟩;rcases a4 with ⟨id,b1,b2,b3⟩ | b
  .grind
  .exact .inr b
end
end Go.E3
/- E3: STORES AND NEW VARIABLES AND LISTS against E2's. -/
namespace Go.E3
open Go Go.E2
variable {K:Nat->Type}
section
variable {X:Codecs K} {sz:Nat->Nat} {C:ZC K} {base H:Heap} {st:StV K} {fr:Fr} {w:Wd}
variable {tbl:Tbl K} {inv:Nat->List (NV K)->Prop} {meas:Nat->List (NV K)->Nat}
theorem ziw {ti:TI} {a x:PV K} {c:StV K} (h:ziv st ti a x=some c):∃ id off lim ps,a=.cell id off lim/\qqr st.cells id=some ps/\x.cellsOf.length=ti.size/\off+ti.size<=lim/\lim<=ps.length/\x.cellsOf.all qa2=true/\
  c = {st with cells:=qhq st.cells id (.cs (qox st.cells id) (qf6 ps off x.cellsOf))}:=by
 unfold ziv at h;split at h
 .rename_i id off lim;obtain ⟨ps,e,d⟩:=zI.1 h;cases b:(Nat.beq x.cellsOf.length ti.size&&Nat.ble (off+ti.size) lim&&Nat.ble lim ps.length&&x.cellsOf.all qa2) with
  | false=>simp_all
  | true=>
   rw [b] at d;simp only [zO,zS] at d;simp only [zA,Nat.ble_eq] at b;exact ⟨id,off,lim,ps,rfl,e,zE b.1.1.1,b.1.1.2,b.1.2,b.2,d.symm⟩
 .cases h
theorem qi1 (ok:CfgOk X sz C) (R:RelH X sz C base st H w) {id:Nat} {ct ct':ZT K} {o:O} (U:look st.cells id=some ct)
  (V:∀ cs e gen fl fz ex,H.get (w.c id)=some (.row cs e gen fl fz ex)->∃ f a r t ex',o=.row f e a r t ex'/\cs.length<=f.length/\(cs.length=f.length->a=gen))
  (W:qfa X sz w id ct' (some o)):∃ w',RelH X sz C base {st with cells:=qhq st.cells id ct'} (H.put (w.c id) o) w'/\Le w w':=by
 obtain ⟨u,D,E⟩:=R.cells id _ U;obtain ⟨F,G,v⟩:=R.cl id u;let H':=H.put (w.c id) o;have d:∀ nm,nm≠w.c id->H'.get nm=H.get nm:=λnm z=>qct z;have x:H'.get (w.c id)=some o:=qa7;have I:∀ j,j<w.n->w.cl j->∀ cs e gen fl fz ex,w.g (w.c j)=some (.row cs e gen fl fz ex)->∃ f a r t ex',H'.get (w.c j)=some (.row f e a r t ex')/\cs.length<=f.length/\(cs.length=f.length->a=gen):=λj _ Y cs e gen fl fz ex Z=>by
  rw [R.g] at Z;by_cases q:j=id
  .grind
  .grind
 have l:Le w {w with g:=H'.get}:=by
  refine ⟨⟨zN _,λnm cs e gen J L ex h A=>⟨A,[],gen,L,ex,?_⟩,λ_ _=>rfl,λ_ _=>rfl,λ_ _ h=>h,λ_ _ _ _ h k=>(by rw [h] at k;cases k;exact zN _),λi s hi T _=>⟨rfl,λnm z _=>?_⟩,rfl,λ_ _=>.rfl,zN _,rfl,λ_ _ h=>h,λ_ _=>rfl,I⟩,λm M=>?_,rfl⟩
  .rw [zJ];show H'.get nm=_;rw [d nm (by intro q;subst q;exact A D),<-R.g];exact h
  .show H'.get nm=w.g nm;rw [R.owns] at T;obtain ⟨_,_,N⟩:=R.eta i s nm T z;rw [d nm (by intro q;subst q;exact N D),R.g]
  .show H'.get m=_;rw [R.g] at M;rw [d m (by intro q;subst q;exact E.some.1 M)];exact M
 refine ⟨{w with g:=H'.get},?_,l⟩;refine ⟨λn z=>?_,R.rob,rfl,R.nx,R.b,R.Mlt,R.n,R.one,R.keeps.put v _,R.cl,R.cinj,λp y k=>?_,R.owns,R.ownn,R.eta,R.einj,R.ce,R.known,λgn y k=>?_⟩
 .have P:H.next<=n:=z
  rw [d n (by omega)];exact R.wf n P
 .simp only [qe7] at k;by_cases hi:p=id
  .subst hi;rw [zT rfl] at k;cases k;refine ⟨u,D,?_⟩;rw [x];exact W.mono ok.len l (by rw [R.n];exact F)
  .rw [zF hi] at k;obtain ⟨B,Q,q5⟩:=R.cells p y k;refine ⟨B,Q,?_⟩;rw [d _ (by intro q;exact hi (R.cinj p id B u q))];exact q5.mono ok.len l (by rw [R.n];exact (R.cl p B).1)
 .obtain ⟨q0,S,e',fl,fz,ex',B,Q,q3⟩:=R.globs gn y k;exact ⟨q0,S,e',fl,fz,ex',B,Q,q3.mono ok.len l⟩
theorem zhy (ok:CfgOk X sz C) (R:RelH X sz C base st H w) {id:Nat} {ct ct':ZT K} {g a:List V} {e:TypeId} {ex:Bool} (i:look st.cells id=some ct) (b:H.get (w.c id)=some (.row g e 0 0 0 ex)) (hlen:g.length=a.length) (d:zkd ct'=true)
  (f:q8i ct' e ex) (j:qu X sz w (qs1 X ct') a):∃ w',RelH X sz C base {st with cells:=qhq st.cells id ct'} (H.put (w.c id) (.row a e 0 0 0 ex)) w'/\Le w w':=
 qi1 ok R i (λcs l gen fl fz k h=>by rw [b] at h;cases h;exact ⟨_,_,_,_,_,rfl,Nat.le_of_eq hlen,λ_=>rfl⟩) (.row d f j)
theorem qxa {α:Type} {l:List (Nat×α)} {id:Nat} {x y:α} (h:look l id=some x) (j:Nat):(look (qhq l id y) j).isSome=(look l j).isSome:=by
 rw [qe7];by_cases a:j=id
 .simp_all
 .rw [zF a]
theorem qvu (ok:CfgOk X sz C) (R:RelH X sz C base st H w) {ti:TI} {a x:PV K} {P d:V} {k:PV K->StV K->Prop} (ra:Rep X sz w a P) (rx:Rep X sz w x d) (h:ziu (qo X tbl inv meas) ti a x st k) :
  ∃ m id gn off lim H' w',k qnx m/\((∃ o l,a=.cell id o l)∨∃ c i n o,a=.mptr id c i n o)/\P=.ptr (w.c id) gn off lim/\w.c id<H.next/\id<st.next/\w.cl id/\base.next<=w.c id/\
   (∀ H0:Heap,H0.get (w.c id)=H.get (w.c id)->H0.ro<=w.c id->∃ row,H'=H.put (w.c id) row/\qkd H0 ti P d=some (H0.put (w.c id) row))/\qkd H ti P d=some H'/\
   m.tmps=st.tmps/\m.n=st.n/\m.next=st.next/\RelH X sz C base m H' w'/\Le w w'/\(∀ j,(look m.cells j).isSome=(look st.cells j).isSome)/\(look st.cells id).isSome=true:=by
 have y:=rx.cells;have Z:∀ {id off lim:Nat} {ct ct':ZT K} {s:List V} {e:TypeId} {ex:Bool},look st.cells id=some ct->H.get (w.c id)=some (.row s e 0 0 0 ex)->x.cellsOf.length=ti.size->
   off+ti.size<=lim->lim<=s.length->x.cellsOf.all qa2=true->zkd ct'=true->q8i ct' e ex->qu X sz w (qs1 X ct') (setCells s off d.cells)->
   ∃ H' w',w.c id<H.next/\id<st.next/\w.cl id/\base.next<=w.c id/\
   (∀ H0:Heap,H0.get (w.c id)=H.get (w.c id)->H0.ro<=w.c id->∃ row,H'=H.put (w.c id) row/\qkd H0 ti (.ptr (w.c id) 0 off lim) d=some (H0.put (w.c id) row))/\qkd H ti (.ptr (w.c id) 0 off lim) d=some H'/\
   RelH X sz C base {st with cells:=qhq st.cells id ct'} H' w'/\Le w w':=by
  intro id off lim ct ct' s e ex r B z F G u a1 I A;obtain ⟨t,hM,_⟩:=R.cells id _ r;obtain ⟨J,p,b⟩:=R.cl id t;have f:∀ H0:Heap,H0.get (w.c id)=H.get (w.c id)->H0.ro<=w.c id->qkd H0 ti (.ptr (w.c id) 0 off lim) d=some (H0.put (w.c id) (.row (setCells s off d.cells) e 0 0 0 ex)):=by
   intro H0 L q;have c1:Nat.beq d.cells.length ti.size=true:=by rw [<-y.1,z];exact Nat.beq_refl _
   have c2:(Nat.beq 0 0&&Nat.ble (off+d.cells.length) lim&&Nat.ble lim s.length&&Nat.ble 0 off&&d.cells.all V.qay)=true:=by
    simp only [zA,Nat.ble_eq];exact ⟨⟨⟨⟨rfl,by rw [<-y.1,z];exact F⟩,G⟩,Nat.zero_le _⟩,y.qvd u⟩
   simp only [qkd,c1,zO,qci,L,B,c2,qcl q]
  have q:H.ro<=w.c id:=by rw [R.keeps.ro];exact zR R.rob.1 b
  obtain ⟨w',R',M⟩:=zhy ok R (e:=e) (ex:=ex) r B (by simp only [setCells,List.length_append,List.length_take,List.length_drop];have:=y.1;omega) a1 I A;exact ⟨_,w',p,J,t,b,λH0 Q D=>⟨_,rfl,f H0 Q D⟩,f H rfl q,R',M⟩
 unfold ziu at h;split at h
 .rename_i id c i n off;obtain ⟨l,Q,D⟩:=qe h;have r:=qli Q;obtain ⟨t,hM,s,e,gen,fl,ex,B,aj,a6,N,A⟩:=R.cells id _ r;obtain ⟨J,p,b⟩:=R.cl id t;have A:qu X sz w (l.1.flatMap (X.cells c)++[l.2]) s:=A;have v:=A.1;rw [List.length_append,qev ok.len,N,Nat.mul_one] at v;have v:l.1.length+1=s.length:=v;cases O:(Nat.beq ti.size 1&&qa2 x) with
  | false=>rw [O] at D;exact D.elim
  | true=>
   rw [O] at D;simp only [zA] at O;obtain ⟨M,hk⟩:=D;have ai:n=(l.1.length:Int):=M;have a7:=zE O.1;have a8:x.cellsOf=[x]:=by
    cases x<;>first | rfl | (exact absurd O.2 (by simp [qa2]))
   rw [a8] at y;have aa:d.cells.length=1:=y.1.symm;cases ra with
   | @mptr _ _ _ _ _ g ab e1 S ad ae af hi _ h0 q1 q2 q3=>
    rw [R.g,B] at q1;cases q1;have T:=q3 (by omega);subst T;have q:H.ro<=w.c id:=by rw [R.keeps.ro];exact zR R.rob.1 b
    have f:∀ H0:Heap,H0.get (w.c id)=H.get (w.c id)->H0.ro<=w.c id->qkd H0 ti (.ptr (w.c id) g n.toNat (n.toNat+1)) d=some (H0.put (w.c id) (.row (setCells s n.toNat d.cells) e g g 0 ex)):=by
     intro H0 L q;have c1:Nat.beq d.cells.length ti.size=true:=by rw [aa,a7];rfl
     have c2:(Nat.beq g g&&Nat.ble (n.toNat+d.cells.length) (n.toNat+1)&&Nat.ble (n.toNat+1) s.length&&Nat.ble 0 n.toNat&&d.cells.all V.qay)=true:=by
      simp only [zA,Nat.ble_eq];exact ⟨⟨⟨⟨Nat.beq_refl _,by omega⟩,by omega⟩,Nat.zero_le _⟩,y.qvd (by simp [O.2])⟩
     simp only [qkd,c1,zO,qci,L,B,c2,qcl q]
    have U:qf6 (l.1.flatMap (X.cells c)++[l.2]) n.toNat [x]=l.1.flatMap (X.cells c)++[x]:=by
     have W:(l.1.flatMap (X.cells c)).length=n.toNat:=by rw [qev ok.len,N];omega
     simp only [qf6,<-W,List.take_left,List.length_singleton];rw [List.drop_eq_nil_of_le (by simp),zJ]
    have E:=qle A y n.toNat
    rw [U] at E;obtain ⟨w',R',Y⟩:=qi1 ok R (ct':=.ml c l.1 x) (o:=.row (setCells s n.toNat d.cells) e g g 0 ex) r
     (λab e1 S ad ae af h=>by
       rw [B] at h;cases h;exact ⟨_,_,_,_,_,rfl,Nat.le_of_eq (by simp only [setCells,List.length_append,List.length_take,List.length_drop];omega),λ_=>rfl⟩)
     ⟨_,_,_,_,_,rfl,zN _,a6,N,E⟩
    exact ⟨_,id,g,_,_,_,w',hk,.inr ⟨_,_,_,_,rfl⟩,rfl,p,J,t,b,λH0 Q D=>⟨_,rfl,f H0 Q D⟩,f H rfl q,rfl,rfl,rfl,R',Y,λj=>qxa r j,by rw [r];rfl⟩
 .obtain ⟨m,ag,hk⟩:=qe h;obtain ⟨id,off,lim,ps,rfl,r,z,F,G,u,rfl⟩:=ziw ag;have r:=qfx r;obtain ⟨t,hM,s,e,ex,B,I,A⟩:=R.cells id _ r;have ah:P=.ptr (w.c id) 0 off lim:=by cases ra;rfl
  subst ah;obtain ⟨H',w',b1,b2,b3,b4,b5,b6,b7,b8⟩:=Z (ct':=.cs (qox st.cells id) (qf6 ps off x.cellsOf)) r B z F (by rw [<-A.1];exact G) u rfl (zli I) (qle A y off);exact ⟨_,id,0,off,lim,H',w',hk,.inl ⟨_,_,rfl⟩,rfl,b1,b2,b3,b4,b5,b6,rfl,rfl,rfl,b7,b8,λj=>qxa r j,by rw [r];rfl⟩
def Wd.new (w:Wd) (H:Heap) (row:O) (m:Nat) (wr:Bool) (e:Nat->Nat) (a:Nat->Option Nat) (b:Nat->Option Nat) (d:Nat->Prop):Wd:=
 {w with nx:=H.next+1,cl:=d,g:=(H.new row).get,M:=λn=>w.M n∨(wr=true/\n=H.next),n:=m,c:=e,owns:=a,eta:=b}
theorem Le.new (R:RelH X sz C base st H w) {row:O} {m:Nat} {wr:Bool} {t:Nat->Nat} {a f:Nat->Option Nat} {j:Nat->Prop} (r:st.next<=m) (u:∀ id,id<st.next->t id=w.c id)
  (y:∀ i,i<st.next->look st.owns i=none->a i=none) (z:∀ i s k,i<st.next->look st.owns i=some s->a i=some k->s<=k)
  (A:∀ i s,i<st.next->look st.owns i=some s->a i=some s->f i=w.eta i) (l:∀ id,id<st.next->(j id↔w.cl id)):Le w (w.new H row m wr t a f j):=by
 have d:∀ nm x,w.g nm=some x->(H.new row).get nm=some x/\nm<H.next:=by
  intro nm x h;rw [R.g] at h;have b:nm<H.next:=by
   by_cases b:nm<H.next
   .exact b
   .rw [R.wf nm (by omega)] at h;cases h
  exact ⟨by rw [qec b];exact h,b⟩
 refine ⟨⟨by rw [R.n];exact r,λnm cs e gen o p ex h B=>?_,λid hi=>u id (by rw [<-R.n];exact hi),λ_ _=>rfl,λi hi h=>y i (by rw [<-R.n];exact hi) (by rw [<-R.owns];exact h),
  λi s k hi h q=>z i s k (by rw [<-R.n];exact hi) (by rw [<-R.owns];exact h) q,λi s hi h q=>⟨A i s (by rw [<-R.n];exact hi) (by rw [<-R.owns];exact h) q,λnm D _=>?_⟩,rfl,λid hi=>l id (by rw [<-R.n];exact hi),by rw [R.nx];exact Nat.le_succ _,rfl,λ_ _ h=>.inl h,λ_ _=>rfl,λid hi u cs e gen fl fz ex h=>⟨_,_,_,_,_,(d _ _ h).1,zN _,λ_=>rfl⟩⟩,λm r=>(d m _ r).1,rfl⟩
 .obtain ⟨E,F⟩:=d nm _ h;refine ⟨?_,[],gen,p,ex,by rw [zJ];exact E⟩;rintro (v | ⟨_,v⟩)
  .exact B v
  .omega
 .rw [R.owns] at h;obtain ⟨_,b,_⟩:=R.eta i s nm h D;show (H.new row).get nm=w.g nm;rw [qec b,R.g]
theorem qk9 (ok:CfgOk X sz C) (R:RelH X sz C base st H w) {ct:ZT K} {row:O} {lp':Nat->Option LG} (z:∀ id,id<st.next->lp' id=w.lp id)
  (A:∀ w',Le w w'->w'.lp=lp'->qfa X sz w' st.next ct (some row)) :
  ∃ w',RelH X sz C base {st with cells:=(st.next,ct)::st.cells,next:=st.next+1} (H.new row) w'/\Le w w'/\w'.c st.next=H.next/\st.next<w'.n:=by
 let d:Nat->Nat:=λid=>if id=st.next then H.next else w.c id
 let w0:=w.new H row (st.next+1) true d w.owns w.eta (λid=>w.cl id∨id=st.next);let w':={w0 with lp:=lp'};have a:Le w w0:=by
  refine Le.new R (Nat.le_succ _) (λid hi=>zF (by omega)) (λi _ h=>by rw [R.owns];exact h) (λi s Q _ h j=>?_) (λ_ _ _ _ _=>rfl) (λid hi=>⟨λh=>h.elim (λh=>h) (λh=>by omega),.inl⟩);rw [R.owns,h] at j;cases j;exact zN _
 have l:Le w w':=⟨⟨a.n,a.mem,a.c,a.nu,a.o1,a.o2,a.o3,a.ce,a.cl,a.nx,a.b,a.Mu,λid hi=>z id (by rw [<-R.n];exact hi),a.gm⟩,a.df,a.fl⟩;have o:d st.next=H.next:=zT rfl
 have J:=R.keeps.next
 refine ⟨w',?_,l,?_⟩
 .refine ⟨λn p=>?_,R.rob,rfl,za.symm,R.b,λn p=>?_,rfl,Nat.le_succ_of_le R.one,R.keeps.new _,λid h=>?_,λf g F G L=>?_,λe q j=>?_,R.owns,λi s h=>Nat.lt_succ_of_lt (R.ownn i s h),λi s nm h p=>?_,R.einj,R.ce,λid b h=>?_,λgn q j=>?_⟩
  .have B:H.next+1<=n:=by
    have:(H.new row).next=H.next+1:=za
    omega
   have:(H.new row).get n=H.get n:=by
    obtain ⟨t,nx,ro,S⟩:=H;simp only [Heap.new,Heap.get,Tree.jq];rw [zF];have:nx+1<=n:=B;omega
   rw [this];exact R.wf n (by omega)
  .show n<(H.new row).next
   rw [za];rcases p with p | ⟨_,p⟩
   .have:=R.Mlt n p;omega
   .omega
  .by_cases hi:id=st.next
   .subst hi;refine ⟨Nat.lt_succ_self _,?_,?_⟩
    .show d st.next<(H.new row).next;rw [o,za];exact Nat.lt_succ_self _
    .show base.next<=d st.next;rw [o];exact J
   .have j:w.cl id:=h.elim (λh=>h) (λh=>absurd h hi);obtain ⟨k,r,u⟩:=R.cl id j;have v:d id=w.c id:=zF hi;refine ⟨Nat.lt_succ_of_lt k,?_,?_⟩
    .show d id<(H.new row).next;rw [v,za];omega
    .show base.next<=d id;rw [v];exact u
  .have m:d f=d g:=L;by_cases x:f=st.next<;>by_cases y:g=st.next
   .omega
   .have:=(R.cl g (G.elim (λh=>h) (λh=>absurd h y))).2.1;rw [x,o,show d g=w.c g from zF y] at m;omega
   .have:=(R.cl f (F.elim (λh=>h) (λh=>absurd h x))).2.1;rw [y,o,show d f=w.c f from zF x] at m;omega
   .rw [show d f=w.c f from zF x,show d g=w.c g from zF y] at m;exact R.cinj f g (F.elim (λh=>h) (λh=>absurd h x)) (G.elim (λh=>h) (λh=>absurd h y)) m
  .simp only [qcb] at j;by_cases hi:e=st.next
   .subst hi;rw [zT rfl] at j;cases j;refine ⟨.inr rfl,?_,?_⟩
    .show w.M (d st.next)∨(true=true/\d st.next=H.next);rw [o];exact .inr ⟨rfl,rfl⟩
    .show qfa X sz w' st.next _ ((H.new row).get (d st.next))
     rw [o,qcp];exact A w' l rfl
   .rw [zF hi] at j;obtain ⟨k,r,N⟩:=R.cells e q j;have v:d e=w.c e:=zF hi;refine ⟨.inl k,?_,?_⟩
    .show w.M (d e)∨_;rw [v];exact .inl r
    .show qfa X sz w' e _ ((H.new row).get (d e));rw [v,qec (R.cl e k).2.1];exact N.mono ok.len l (by rw [R.n];exact (R.cl e k).1)
  .obtain ⟨k,r,u⟩:=R.eta i s nm h p;refine ⟨k,by show nm<(H.new row).next;rw [za];omega,?_⟩;rintro (I | ⟨_,I⟩)
   .exact u I
   .omega
  .obtain ⟨D,k,r⟩:=R.known id b h;exact ⟨D,Nat.lt_succ_of_lt k,r⟩
  .obtain ⟨D,E,P,fl,fz,ex',k,r,u⟩:=R.globs gn q j;exact ⟨D,E,P,fl,fz,ex',k,r,u.mono ok.len l⟩
 .exact ⟨o,Nat.lt_succ_self _⟩
theorem q40 (ok:CfgOk X sz C) (R:RelH X sz C base st H w) {ct:ZT K} (a:zkd ct=true) {f:List V} {e:TypeId} (b:q8i ct e true) (r:qu X sz w (qs1 X ct) f) :
  ∃ w',RelH X sz C base {st with cells:=(st.next,ct)::st.cells,next:=st.next+1} (qla H f e) w'/\Le w w'/\w'.c st.next=H.next/\st.next<w'.n:=
 qk9 ok R (lp':=w.lp) (λ_ _=>rfl) λw' d _=>.row a b (r.mono ok.len d)
theorem qsc (ok:CfgOk X sz C) (R:RelH X sz C base st H w) {ps:List (PV K)} {a:List V} {e:TypeId} (r:qu X sz w ps a) :
  ∃ w',RelH X sz C base {st with cells:=(st.next,.cs (some e) ps)::st.cells,next:=st.next+1} (qla H a e) w'/\Le w w'/\Rep X sz w' (.cell st.next 0 ps.length) (.ptr H.next 0 0 a.length):=by
 obtain ⟨w',c,b,d,f⟩:=q40 ok R (ct:=.cs (some e) ps) rfl (e:=e) ⟨rfl,rfl⟩ r;refine ⟨w',c,b,?_⟩;have:=Rep.cell (X:=X) (sz:=sz) (w:=w') (id:=st.next) (off:=0) (lim:=ps.length) f;rw [d,r.1] at this;rw [r.1];exact this
structure Bump (st st':StV K) (i s:Nat):Prop where
 tmps:st'.tmps=st.tmps
 n:st'.n=st.n
 cells:st'.cells=st.cells
 known:st'.known=st.known
 owns:∀ j,look st'.owns j=if j=i then some s else look st.owns j
 next:st.next<=st'.next
 lt:i<st'.next
 up:∀ g,look st.owns i=some g->g<s
 fresh:look st.owns i=none->st.next<=i
theorem qsd (ok:CfgOk X sz C) (R:RelH X sz C base st H w) {k:StV K} {i s:Nat} (B:Bump st k i s) {row:O} {named:Bool} :
  ∃ w',RelH X sz C base k (H.new row) w'/\Le w w'/\w'.owns i=some s/\w'.eta i=(if named then some H.next else none)/\¬ w'.M H.next/\w'.n=k.next:=by
 let d:Nat->Option Nat:=λj=>if j=i then (if named then some H.next else none) else w.eta j
 let w':=w.new H row k.next false w.c (look k.owns) d w.cl
 have q:Le w w':=by
  refine Le.new R B.next (λ_ _=>rfl) (λj I h=>?_) (λj a b _ h g=>?_) (λj a _ h g=>?_) (λ_ _=>.rfl)
  .rw [B.owns];by_cases e:j=i
   .subst e;have:=B.fresh h;omega
   .simp_all
  .rw [B.owns] at g;by_cases e:j=i
   .subst e;rw [zT rfl] at g;cases g;exact Nat.le_of_lt (B.up a h)
   .simp_all
  .rw [B.owns] at g;by_cases e:j=i
   .subst e;rw [zT rfl] at g;cases g;have:=B.up _ h;omega
   .grind
 have N:=R.keeps.next
 refine ⟨w',?_,q,by show look k.owns i=some s;rw [B.owns,zT rfl],zT rfl,?_,rfl⟩
 .refine ⟨λn p=>?_,R.rob,rfl,za.symm,R.b,λn p=>?_,rfl,zR R.one B.next,R.keeps.new _,λid h=>?_,R.cinj,λl r g=>?_,λ_=>rfl,λj a h=>?_,λj a nm h p=>?_,λz A P Q nm D E S T=>?_,R.ce,λid b h=>?_,λgn r g=>?_⟩
  .have f:H.next+1<=n:=by
    have:(H.new row).next=H.next+1:=za
    omega
   have:(H.new row).get n=H.get n:=by
    obtain ⟨t,nx,ro,Y⟩:=H;simp only [Heap.new,Heap.get,Tree.jq];rw [zF];have:nx+1<=n:=f;omega
   rw [this];exact R.wf n (by omega)
  .rw [za];rcases p with p | ⟨p,_⟩
   .have:=R.Mlt n p;omega
   .cases p
  .obtain ⟨m,u,v⟩:=R.cl id h;exact ⟨zL m B.next,by rw [za];show w.c id<_;omega,v⟩
  .rw [B.cells] at g;obtain ⟨m,u,U⟩:=R.cells l r g;refine ⟨m,.inl u,?_⟩;show qfa X sz w' l _ ((H.new row).get (w.c l));rw [qec (R.cl l m).2.1];exact U.mono ok.len q (by rw [R.n];exact (R.cl l m).1)
  .rw [B.owns] at h;by_cases e:j=i
   .subst e;exact B.lt
   .rw [zF e] at h;exact zL (R.ownn j a h) B.next
  .rw [B.owns] at h;have f:d j=some nm:=p;by_cases e:j=i
   .subst e;simp only [d,if_true] at f;cases named with
    | false=>cases f
    | true=>
     simp only [if_true,zS] at f;subst f;refine ⟨N,by rw [za];exact Nat.lt_succ_self _,?_⟩;rintro (o | ⟨o,_⟩)
     .have:=R.Mlt _ o;omega
     .cases o
   .rw [zF e] at h;simp only [d,zF e] at f;obtain ⟨m,u,v⟩:=R.eta j a nm h f;refine ⟨m,by rw [za];omega,?_⟩;rintro (o | ⟨o,_⟩)
    .exact v o
    .cases o
  .have x:d z=some nm:=S;have y:d A=some nm:=T;rw [B.owns] at D E;have V:∀ j a,j≠i->look st.owns j=some a->d j=some nm->nm<H.next:=by
    intro j a I h g;simp only [d,zF I] at g;exact (R.eta j a nm h g).2.1
   by_cases J:z=i<;>by_cases L:A=i
   .omega
   .grind
   .grind
   .rw [zF J] at D;rw [zF L] at E;simp only [d,zF J] at x;simp only [d,zF L] at y;exact R.einj z A P Q nm D E x y
  .rw [B.known] at h;obtain ⟨F,m,u⟩:=R.known id b h;exact ⟨F,zL m B.next,u⟩
  .obtain ⟨F,G,W,fl,fz,ex',m,u,v⟩:=R.globs gn r g;exact ⟨F,G,W,fl,fz,ex',m,u,v.mono ok.len q⟩
 .rintro (o | ⟨o,_⟩)
  .have:=R.Mlt _ o;omega
  .cases o
theorem q9q (ok:CfgOk X sz C) (R:RelH X sz C base st H w) :
  ∃ w',RelH X sz C base {st with next:=st.next+1} (H.new .dfr) w'/\Le w w'/\w'.g H.next=some .dfr/\w.g H.next=none:=by
 let w':=w.new H .dfr (st.next+1) false w.c w.owns w.eta w.cl;have i:Le w w':=by
  refine Le.new R (Nat.le_succ _) (λ_ _=>rfl) (λj x h=>by rw [R.owns];exact h) (λj a b _ h k=>?_) (λj a _ h k=>rfl) (λ_ _=>.rfl);rw [R.owns,h] at k;cases k;exact zN _
 refine ⟨w',?_,i,qcp,by rw [R.g];exact R.wf _ (zN _)⟩;refine ⟨λn f=>?_,R.rob,rfl,za.symm,R.b,λn f=>?_,rfl,Nat.le_succ_of_le R.one,R.keeps.new _,λid h=>?_,R.cinj,λd l k=>?_,R.owns,λj a h=>Nat.lt_succ_of_lt (R.ownn j a h),λj a nm h f=>?_,R.einj,R.ce,λid b h=>?_,λgn l k=>?_⟩
 .have p:H.next+1<=n:=by
   have:(H.new .dfr).next=H.next+1:=za
   omega
  have:(H.new .dfr).get n=H.get n:=by
   obtain ⟨t,nx,ro,y⟩:=H;simp only [Heap.new,Heap.get,Tree.jq];rw [zF];have:nx+1<=n:=p;omega
  rw [this];exact R.wf n (by omega)
 .rw [za];rcases f with f | ⟨f,_⟩
  .have:=R.Mlt n f;omega
  .cases f
 .obtain ⟨e,m,o⟩:=R.cl id h;exact ⟨Nat.lt_succ_of_lt e,by rw [za];show w.c id<_;omega,o⟩
 .obtain ⟨e,m,u⟩:=R.cells d l k;refine ⟨e,.inl m,?_⟩;show qfa X sz w' d _ ((H.new .dfr).get (w.c d));rw [qec (R.cl d e).2.1];exact u.mono ok.len i (by rw [R.n];exact (R.cl d e).1)
 .obtain ⟨e,m,o⟩:=R.eta j a nm h f;refine ⟨e,by rw [za];omega,?_⟩;rintro (q | ⟨q,_⟩)
  .exact o q
  .cases q
 .obtain ⟨r,e,m⟩:=R.known id b h;exact ⟨r,Nat.lt_succ_of_lt e,m⟩
 .obtain ⟨r,s,v,fl,fz,ex',e,m,o⟩:=R.globs gn l k;exact ⟨r,s,v,fl,fz,ex',e,m,o.mono ok.len i⟩
end
end Go.E3
/- E3: APPEND, LISTS WRITTEN OUT against E2's. -/
namespace Go.E3
open Go Go.E2
variable {K:Nat->Type}
section
variable {X:Codecs K} {sz:Nat->Nat} {C:ZC K} {base H:Heap} {st:StV K} {fr:Fr} {w:Wd}
variable {tbl:Tbl K} {inv:Nat->List (NV K)->Prop} {meas:Nat->List (NV K)->Nat}
theorem qk1 (o:∀ c x,(X.cells c x).length=sz c) {c:Nat} {l:List (K c)} {own:Option (Nat×Nat)} {nm gn off:Nat} {cap:Option Nat} {cs fl:List V} {e:TypeId} {gen floor d:Nat} {ex:Bool}
  (r:w.g nm=some (.row cs e gen floor d ex)) (s:floor<=gn) (t:¬ w.M nm) (u:0<sz c) (b:∀ k,cap=some k->l.length<=k) (f:qu X sz w (l.flatMap (X.cells c)) fl)
  (A:off+fl.length<=cs.length) (h:∀ m,m<fl.length->cs.getD (off+m) j8=fl.getD m j8) (v:qpu w sz c own (.slice nm gn off l.length (sz c) cap)) :
  Rep X sz w (.list c l own) (.slice nm gn off l.length (sz c) cap):=by
 have q:fl.length=l.length * sz c:=by rw [<-f.1];exact qev o
 refine .list r s t rfl (by omega) ⟨u,.inl rfl⟩ b (λi hi j p y=>?_) v;have a:=zcn o hi y;have z:=f.2 _ p a;have n:i * sz c+j<fl.length:=by rw [<-f.1];exact (List.getElem?_eq_some_iff.1 a).1
 rw [Nat.add_assoc,h _ n];exact z
theorem qfs {α:Type}:∀ {l:List (Nat×α)} {n j:Nat},look (qck l n) j=if j=n then none else look l j
 | [],n,j=>by simp [qck,look]
 | (i,b)::l,n,j=>by
  simp only [qck,cond_eq_ite,Nat.beq_eq];by_cases hi:i=n
  .subst hi;rw [zT rfl,qfs];by_cases a:j=i
   .rw [zT a,zT a]
   .rw [zF a,zF a,qcb,zF a]
  .rw [zF hi,qcb,qcb];by_cases a:j=i
   .subst a;rw [zT rfl,zF hi,zT rfl]
   .rw [zF a,zF a,qfs]
theorem zc9 (ok:CfgOk X sz C) {c:Nat} {l:List (K c)} {p:PV K} {pre:Prop} {x:K c} {b:List V} (d:qu X sz w (l.flatMap (X.cells c)++[p]) b) (g:X.pack c [p]=some (pre,x)) (a:pre):qu X sz w ((l++[x]).flatMap (X.cells c)) b:=by
 have e:=d.take (l.flatMap (X.cells c)).length;have f:=d.drop (l.flatMap (X.cells c)).length;rw [List.take_left] at e;rw [List.drop_left] at f;have:=e.append (ok.pack c _ pre x g a w _ f);rw [List.take_append_drop] at this;rw [List.flatMap_append,List.flatMap_cons,List.flatMap_nil,zJ];exact this
theorem zbv (ok:CfgOk X sz C) (R:RelH X sz C base st H w) {id c:Nat} {l:List (K c)} {p:PV K} {pre:Prop} {x:K c} (U:look st.cells id=some (.ml c l p)) (W:X.pack c [p]=some (pre,x)) (u:pre) :
  ∃ w',RelH X sz C base {st with cells:=qck st.cells id} H w'/\Le w w'/\w'.n=w.n/\w'.c=w.c/\w'.g=w.g/\w'.M=(λn=>w.M n/\n≠w.c id)/\∀ (fx:Bool) (n:Int) (v:V),n=(l.length:Int)->Rep X sz w (.mlist id c fx n) v->Rep X sz w' (.list c (l++[x]) none) v:=by
 obtain ⟨y,hM,F,e,gen,fl,ex,Y,G,Z,q,D⟩:=R.cells id _ U;obtain ⟨a1,I,J⟩:=R.cl id y;have D:=zc9 ok D W u;let w':Wd:={w with M:=λn=>w.M n/\n≠w.c id};have j:Le w w':=
  ⟨⟨zN _,λnm cs e gen L N ex h O=>⟨λz=>O z.1,[],gen,N,ex,by rw [zJ];exact h⟩,λ_ _=>rfl,λ_ _=>rfl,λ_ _ h=>h,
   λ_ _ _ _ h d=>(by have d:w.owns _=_:=d;rw [h] at d;cases d;exact zN _),λ_ _ _ _ _=>⟨rfl,λ_ _ _=>rfl⟩,rfl,λ_ _=>.rfl,zN _,rfl,λn r hm=>⟨hm,λP=>by subst P;rw [R.b] at r;omega⟩,λ_ _=>rfl,qor λ_ _ _=>rfl⟩,λ_ h=>h,rfl⟩
 refine ⟨w',⟨R.wf,R.rob,R.g,R.nx,R.b,λn r=>R.Mlt n r.1,R.n,R.one,R.keeps,R.cl,R.cinj,λo ct' d=>?_,R.owns,R.ownn,λi s nm h r=>?_,R.einj,R.ce,R.known,λgn Q d=>?_⟩,j,rfl,rfl,rfl,rfl,λfx n v r rv=>?_⟩
 .simp only [qfs] at d;by_cases hi:o=id
  .simp_all
  .rw [zF hi] at d;obtain ⟨f,t,q5⟩:=R.cells o ct' d;exact ⟨f,⟨t,λP=>hi (R.cinj o id f y P)⟩,q5.mono ok.len j (by rw [R.n];exact (R.cl o f).1)⟩
 .obtain ⟨f,t,A⟩:=R.eta i s nm h r;exact ⟨f,t,λz=>A z.1⟩
 .obtain ⟨E,S,e',fl,fz,ex',f,t,A⟩:=R.globs gn Q d;exact ⟨E,S,e',fl,fz,ex',f,t,A.mono ok.len j⟩
 .have a:=D.1;rw [qev ok.len,q,Nat.mul_one,List.length_append] at a;have a:l.length+1=F.length:=a;cases rv with
  | @mlist _ _ _ _ g a6 e1 T a7 a8 aa hi _ h0 hz f t A=>
   have E:=f;rw [R.g,Y] at E;cases E;have B:=A (by omega);subst B;have e2:n.toNat+1=(l++[x]).length:=by rw [List.length_append];show _=l.length+1;omega
   have:=qk1 ok.len (w:=w') (own:=none) (nm:=w.c id) (gn:=g) (off:=0) (cap:=none) (cs:=F) (fl:=F) (l:=l++[x]) f G (λz=>z.2 rfl) (by rw [q];exact Nat.one_pos) (λk hk=>by cases hk) (D.mono ok.len j) (by omega) (λm _=>by rw [Nat.zero_add]) trivial;rw [q,<-e2] at this;exact this
theorem q3e (ok:CfgOk X sz C) (R:RelH X sz C base st H w) {c:StV K} {i s:Nat} (B:Bump st c i s) {named:Bool} (hn:named=true->∃ g,look st.owns i=some g) :
  ∃ w',RelH X sz C base c H w'/\Le w w'/\w'.owns i=some s/\w'.eta i=(if named then w.eta i else none)/\w'.n=c.next/\w'.g=w.g/\w'.M=w.M/\w'.ce=w.ce:=by
 let l:Nat->Option Nat:=λj=>if j=i then (if named then w.eta i else none) else w.eta j
 let w':Wd:={w with n:=c.next,owns:=look c.owns,eta:=l};have o:Le w w':=by
  refine ⟨⟨by rw [R.n];exact B.next,λnm cs e gen u v ex h L=>⟨L,[],gen,v,ex,by rw [zJ];exact h⟩,λ_ _=>rfl,λ_ _=>rfl,λj x h=>?_,λj a b x h k=>?_,λj a x h k=>?_,rfl,λ_ _=>.rfl,zN _,rfl,λ_ _ h=>h,λ_ _=>rfl,qor λ_ _ _=>rfl⟩,λ_ h=>h,rfl⟩
  .rw [R.owns] at h;show look c.owns j=none;rw [B.owns];by_cases d:j=i
   .subst d;have:=B.fresh h;rw [R.n] at x;omega
   .simp_all
  .rw [R.owns] at h;have f:look c.owns j=some b:=k;rw [B.owns] at f;by_cases d:j=i
   .subst d;rw [zT rfl] at f;cases f;exact Nat.le_of_lt (B.up a h)
   .simp_all
  .rw [R.owns] at h;have f:look c.owns j=some a:=k;rw [B.owns] at f;by_cases d:j=i
   .subst d;rw [zT rfl] at f;cases f;have:=B.up _ h;omega
   .grind
 have p:∀ j a nm,look c.owns j=some a->l j=some nm->∃ y,look st.owns j=some y/\w.eta j=some nm:=by
  intro j a nm h k;rw [B.owns] at h;by_cases d:j=i
  .grind
  .grind
 refine ⟨w',⟨R.wf,R.rob,R.g,R.nx,R.b,R.Mlt,rfl,zR R.one B.next,R.keeps,λid h=>?_,R.cinj,λt q k=>?_,λ_=>rfl,λj a h=>?_,λj a nm h z=>?_,λI J N O nm A D P Q=>?_,R.ce,λid b h=>?_,λgn q k=>?_⟩,o,by show look c.owns i=some s;rw [B.owns,zT rfl],zT rfl,rfl,rfl,rfl,rfl⟩
 .obtain ⟨m,r,E⟩:=R.cl id h;exact ⟨zL m B.next,r,E⟩
 .rw [B.cells] at k;obtain ⟨m,r,S⟩:=R.cells t q k;exact ⟨m,r,S.mono ok.len o (by rw [R.n];exact (R.cl t m).1)⟩
 .rw [B.owns] at h;by_cases d:j=i
  .subst d;exact B.lt
  .rw [zF d] at h;exact zL (R.ownn j a h) B.next
 .obtain ⟨y,A,D⟩:=p j a nm h z;exact R.eta j y nm A D
 .obtain ⟨T,g1,U⟩:=p I N nm A P;obtain ⟨V,W,Y⟩:=p J O nm D Q;exact R.einj I J T V nm g1 W U Y
 .rw [B.known] at h;obtain ⟨F,m,r⟩:=R.known id b h;exact ⟨F,zL m B.next,r⟩
 .obtain ⟨F,G,Z,fl,fz,ex',m,r,E⟩:=R.globs gn q k;exact ⟨F,G,Z,fl,fz,ex',m,r,E.mono ok.len o⟩
theorem zhc (ok:CfgOk X sz C) (R:RelH X sz C base st H w) {d:StV K} {i s g nm:Nat} (B:Bump st d i s) (ho:look st.owns i=some g) (he:w.eta i=some nm) {cs cs2:List V} {e:TypeId} {gen floor r:Nat} {ex ex':Bool}
  (O:H.get nm=some (.row cs e gen floor r ex)) (P:cs2≠[]) :
  ∃ w',RelH X sz C base d (H.put nm (.row (cs++cs2) e (gen+1) floor r ex')) w'/\Le w w'/\w'.owns i=some s/\w'.eta i=some nm/\w'.n=d.next/\¬ w'.M nm/\w'.ce=w.ce:=by
 obtain ⟨x,Q,I⟩:=R.eta i g nm ho he;let H':=H.put nm (.row (cs++cs2) e (gen+1) floor r ex');let w':Wd:={w with g:=H'.get,n:=d.next,owns:=look d.owns};have k:∀ m,m≠nm->H'.get m=H.get m:=λm o=>qct o;have p:H'.get nm=some (.row (cs++cs2) e (gen+1) floor r ex'):=qa7;have y:Le w w':=by
  refine ⟨⟨by rw [R.n];exact B.next,λm a8 e' J N L q h hM=>⟨hM,?_⟩,λ_ _=>rfl,λ_ _=>rfl,λj hj h=>?_,λj a b hj h t=>?_,λj a hj h t=>?_,rfl,λ_ _=>.rfl,zN _,rfl,λ_ _ h=>h,λ_ _=>rfl,λS _ aa ab e1 a7 ad ae af z=>?_⟩,λm o=>?_,rfl⟩
  .by_cases o:m=nm
   .subst o;rw [R.g,O] at h;cases h;exact ⟨cs2,_,_,_,p⟩
   .refine ⟨[],J,L,q,?_⟩;rw [zJ];show H'.get m=_;rw [k m o,<-R.g];exact h
  .rw [R.owns] at h;show look d.owns j=none;rw [B.owns];by_cases f:j=i
   .simp_all
   .simp_all
  .rw [R.owns] at h;have l:look d.owns j=some b:=t;rw [B.owns] at l;by_cases f:j=i
   .subst f;rw [zT rfl] at l;cases l;exact Nat.le_of_lt (B.up a h)
   .simp_all
  .rw [R.owns] at h;have l:look d.owns j=some a:=t;rw [B.owns] at l;by_cases f:j=i
   .subst f;rw [zT rfl] at l;cases l;have:=B.up _ h;omega
   .refine ⟨rfl,λm o _=>?_⟩;show H'.get m=w.g m;rw [k m (by intro A;subst A;exact f (R.einj j i a g m h ho o he)),R.g]
  .rw [R.g] at z;by_cases o:w.c S=nm
   .rw [o,O] at z;cases z;refine ⟨_,_,_,_,_,by rw [o];exact p,by rw [List.length_append];omega,λhh=>?_⟩;rw [List.length_append] at hh;exact absurd (List.eq_nil_of_length_eq_zero (by omega)) P
   .grind
  .show H'.get m=_;rw [R.g] at o;rw [k m (by intro A;subst A;rw [O] at o;cases o)];exact o
 have T:∀ id ps,look st.cells id=some ps->w.c id≠nm:=by
  intro id ps h hc;have:=(R.cells id ps h).2.1;rw [hc] at this;exact I this
 have D:∀ j a,look d.owns j=some a->∃ U,look st.owns j=some U:=by
  intro j a h;rw [B.owns] at h;by_cases f:j=i
  .simp_all
  .simp_all
 refine ⟨w',⟨λn hn=>?_,R.rob,rfl,R.nx,R.b,R.Mlt,rfl,zR R.one B.next,R.keeps.put x _,λid h=>?_,R.cinj,λE u t=>?_,λ_=>rfl,λj a h=>?_,λj a m h F=>?_,λj1 j2 a1 a2 m W h2 e1 e2=>?_,R.ce,λid b h=>?_,λgn u t=>?_⟩,y,by show look d.owns i=some s;rw [B.owns,zT rfl],he,rfl,I,rfl⟩
 .have F:H.next<=n:=hn
  rw [k n (by omega)];exact R.wf n F
 .obtain ⟨v,G,Y⟩:=R.cl id h;exact ⟨zL v B.next,G,Y⟩
 .rw [B.cells] at t;obtain ⟨v,G,q5⟩:=R.cells E u t;refine ⟨v,G,?_⟩;rw [k _ (T E u t)];exact q5.mono ok.len y (by rw [R.n];exact (R.cl E v).1)
 .rw [B.owns] at h;by_cases f:j=i
  .subst f;exact B.lt
  .rw [zF f] at h;exact zL (R.ownn j a h) B.next
 .obtain ⟨U,W⟩:=D j a h;exact R.eta j U m W F
 .obtain ⟨b1,g1⟩:=D j1 a1 W;obtain ⟨b2,g2⟩:=D j2 a2 h2;exact R.einj j1 j2 b1 b2 m g1 g2 e1 e2
 .rw [B.known] at h;obtain ⟨Z,v,G⟩:=R.known id b h;exact ⟨Z,zL v B.next,G⟩
 .obtain ⟨Z,a6,e',fl,fz,q,v,G,Y⟩:=R.globs gn u t;exact ⟨Z,a6,e',fl,fz,q,v,G,Y.mono ok.len y⟩
theorem zif (ok:CfgOk X sz C) (R:RelH X sz C base st H w) {i g nm:Nat} (M:look st.owns i=some g) (he:w.eta i=some nm) {cs:List V} {e:TypeId} {gen floor B:Nat} {ex:Bool} (f:Nat)
  (N:H.get nm=some (.row cs e gen floor B ex)) :
  ∃ w',RelH X sz C base {st with owns:=qck st.owns i} (H.put nm (.row cs e gen floor f ex)) w'/\Le w w':=by
 obtain ⟨r,D,E⟩:=R.eta i g nm M he;let H':=H.put nm (.row cs e gen floor f ex);let w':Wd:={w with g:=H'.get,owns:=look (qck st.owns i)};have k:∀ m,m≠nm->H'.get m=H.get m:=λm l=>qct l;have s:H'.get nm=some (.row cs e gen floor f ex):=qa7;have d:∀ j a,look (qck st.owns i) j=some a->j≠i/\look st.owns j=some a:=by
  intro j a h;rw [qfs] at h;split at h
  .cases h
  .simp_all
 have t:Le w w':=by
  refine ⟨⟨zN _,λm Z O y z f o h hM=>⟨hM,?_⟩,λ_ _=>rfl,λ_ _=>rfl,λj P h=>?_,λj a b P h q=>?_,λj a P h q=>?_,rfl,λ_ _=>.rfl,zN _,rfl,λ_ _ h=>h,λ_ _=>rfl,λF _ a6 a7 Q S a8 aa ab G=>?_⟩,λm l=>?_,rfl⟩
  .by_cases l:m=nm
   .subst l;rw [R.g,N] at h;cases h;exact ⟨[],_,_,_,by rw [zJ];exact s⟩
   .refine ⟨[],y,f,o,?_⟩;rw [zJ];show H'.get m=_;rw [k m l,<-R.g];exact h
  .rw [R.owns] at h;show look (qck st.owns i) j=none;cases hq:look (qck st.owns i) j with
   | none=>rfl
   | some a=>simp_all
  .rw [R.owns] at h;have:=(d j b q).2;rw [h] at this;cases this;exact zN _
  .rw [R.owns] at h;obtain ⟨I,_⟩:=d j a q;refine ⟨rfl,λm l _=>?_⟩;show H'.get m=w.g m;rw [k m (by intro u;subst u;exact I (R.einj j i a g m h M l he)),R.g]
  .rw [R.g] at G;by_cases l:w.c F=nm
   .grind
   .grind
  .show H'.get m=_;rw [R.g] at l;rw [k m (by intro u;subst u;rw [N] at l;cases l)];exact l
 have J:∀ id ps,look st.cells id=some ps->w.c id≠nm:=by
  intro id ps h hc;have:=(R.cells id ps h).2.1;rw [hc] at this;exact E this
 refine ⟨w',⟨λn hn=>?_,R.rob,rfl,R.nx,R.b,R.Mlt,R.n,R.one,R.keeps.put r _,R.cl,R.cinj,λv p q=>?_,λ_=>rfl,λj a h=>R.ownn j a (d j a h).2,λj a m h x=>R.eta j a m (d j a h).2 x,
  λT U W Y m h1 h2 Q e2=>R.einj T U W Y m (d T W h1).2 (d U Y h2).2 Q e2,R.ce,R.known,λgn p q=>?_⟩,t⟩
 .have x:H.next<=n:=hn
  rw [k n (by omega)];exact R.wf n x
 .obtain ⟨A,K,q5⟩:=R.cells v p q;refine ⟨A,K,?_⟩;rw [k _ (J v p q)];exact q5.mono ok.len t (by rw [R.n];exact (R.cl v A).1)
 .obtain ⟨q0,L,O,fl,fz,o,A,K,q3⟩:=R.globs gn p q;exact ⟨q0,L,O,fl,fz,o,A,K,q3.mono ok.len t⟩
theorem zgz (ok:CfgOk X sz C) (R:RelH X sz C base st H w) (i:Nat):∃ w',RelH X sz C base {st with owns:=qck st.owns i} H w'/\Le w w':=by
 have c:∀ j a,look (qck st.owns i) j=some a->look st.owns j=some a:=by
  intro j a h;rw [qfs] at h;split at h
  .cases h
  .exact h
 have e:Le w {w with owns:=look (qck st.owns i)}:=by
  refine ⟨⟨zN _,λm D v l q o d h E=>⟨E,[],l,o,d,by rw [zJ];exact h⟩,λ_ _=>rfl,λ_ _=>rfl,λj x h=>?_,λj a b x h k=>?_,λj a x h k=>⟨rfl,λ_ _ _=>rfl⟩,rfl,λ_ _=>.rfl,zN _,rfl,λ_ _ h=>h,λ_ _=>rfl,qor λ_ _ _=>rfl⟩,λ_ h=>h,rfl⟩
  .rw [R.owns] at h;show look (qck st.owns i) j=none;cases N:look (qck st.owns i) j with
   | none=>rfl
   | some a=>simp_all
  .rw [R.owns] at h;have:=c j b k;rw [h] at this;cases this;exact zN _
 refine ⟨{w with owns:=look (qck st.owns i)},⟨R.wf,R.rob,R.g,R.nx,R.b,R.Mlt,R.n,R.one,R.keeps,R.cl,R.cinj,λp f k=>?_,λ_=>rfl,λj a h=>R.ownn j a (c j a h),λj a m h s=>R.eta j a m (c j a h) s,
  λy z A B m F G I J=>R.einj y z A B m (c y A F) (c z B G) I J,R.ce,R.known,λgn f k=>?_⟩,e⟩
 .obtain ⟨r,t,K⟩:=R.cells p f k;exact ⟨r,t,K.mono ok.len e (by rw [R.n];exact (R.cl p r).1)⟩
 .obtain ⟨L,u,v,fl,fz,d,r,t,M⟩:=R.globs gn f k;exact ⟨L,u,v,fl,fz,d,r,t,M.mono ok.len e⟩
theorem qp1 {c:Nat} {s:PV K} {x:List (K c)} {k:PV K->StV K->Prop} (R:RelH X sz C base st H w) (h:qua (qo X tbl inv meas) c s x st k) :
  ∃ l i g d,asL (qo X tbl inv meas) c s=some l/\l.length+x.length<=1000000000/\k (.list c (l++x) (some (i,g))) d/\Bump st d i g/\
   ((s=.nils/\look st.owns i=none)∨∃ e f g0,s=.list e f (some (i,g0))/\look st.owns i=some g0/\g=g0+2):=by
 unfold qua at h;cases a:qfh st s with
 | false=>rw [a] at h;exact absurd h id
 | true=>
  rw [a] at h;split at h
  .exact absurd h id
  .rename_i l m;split at h
   .rename_i e f i g0;have n:look st.owns i=some g0:=by
     simp only [qfh] at a;split at a
     .simp_all
     .cases a
    refine ⟨l,i,g0+2,_,m,h.1,h.2,⟨rfl,rfl,rfl,rfl,λj=>qe7,zN _,R.ownn i g0 n,λg o=>?_,λo=>?_⟩,.inr ⟨e,f,g0,rfl,n,rfl⟩⟩
    .simp_all
    .simp_all
   .rename_i p;have n:s=.nils:=by
     cases s with
     | nils=>rfl
     | list e f own=>
      cases own with
      | none=>simp [qfh] at a
      | some x=>grind
     | _=>simp [qfh] at a
    have b:look st.owns st.next=none:=by
     cases m:look st.owns st.next with
     | none=>rfl
     | some g=>have:=R.ownn _ _ m;omega
    exact ⟨l,st.next,1,_,m,h.1,h.2,⟨rfl,rfl,rfl,rfl,λj=>qcb,Nat.le_succ _,Nat.lt_succ_self _,λg o=>(by rw [b] at o;cases o),λ_=>zN _⟩,.inl ⟨n,b⟩⟩
theorem qfv (ok:CfgOk X sz C) (R:RelH X sz C base st H w) {c:Nat} {e:TypeId} {G:TI} (hc:C.codec e=some c) (aC:C.E.types e=some G) (aD:G.bytes<=1024) {s:PV K} {vs vx:V} {x:List (K c)} {items:List V}
  {k:PV K->StV K->Prop} (rs:Rep X sz w s vs) (u:js H G.size vx=some (x.length,items)) (hit:qu X sz w (x.flatMap (X.cells c)) items) (h:qua (qo X tbl inv meas) c s x st k) :
  ∃ p d v H' w',k p d/\d.tmps=st.tmps/\d.n=st.n/\qc7 H e G.size G.bytes vs vx=some (v,H')/\RelH X sz C base d H' w'/\Le w w'/\Rep X sz w' p v:=by
 obtain ⟨l,i,g,d,hl,S,U,B,hi⟩:=qp1 R h;have r:=ok.size e c G hc aC;have hz:=ok.pos e c hc;have rl:=qe5 rs hl;have I:items.length=x.length * sz c:=by rw [<-hit.1];exact qev ok.len
 have af:Nat.beq x.length 0=true->x=[]:=λh=>List.eq_nil_of_length_eq_zero (zE h);have J:∀ m,m<=1000000000->(Nat.ble (m * G.bytes) room&&Nat.ble m room)=true:=by
  intro m hm;simp only [zA,Nat.ble_eq,room];have:m * G.bytes<=1000000000 * 1024:=Nat.mul_le_mul hm aD;exact ⟨by omega,by omega⟩
 have fresh:∀ (fl:List V),Nat.beq x.length 0=false->qu X sz w ((l++x).flatMap (X.cells c)) fl->∃ p d v H' w',k p d/\d.tmps=st.tmps/\d.n=st.n/\(v,H')=(V.slice H.next 0 0 (l.length+x.length) (sz c) none,H.new (.row fl e 0 0 0 false))/\RelH X sz C base d H' w'/\Le w w'/\Rep X sz w' p v:=by
  intro fl aO ag;have aS:0<x.length:=by
   cases hq:x.length with
   | zero=>simp_all
   | succ n=>omega
  obtain ⟨w',P,f,Z,et,hM,hn⟩:=qsd (named:=true) ok R B (row:=.row fl e 0 0 0 false);refine ⟨_,_,_,_,w',U,B.tmps,B.n,rfl,P,f,?_⟩;have Q:w'.g H.next=some (.row fl e 0 0 0 false):=by rw [P.g];exact qcp
  have t:(l++x).length=l.length+x.length:=List.length_append;rw [<-t];refine qk1 ok.len Q (zN _) hM hz (λk U=>(by cases U)) (ag.mono ok.len f) (by omega) (λm _=>by rw [Nat.zero_add]) ⟨by rw [hn];exact B.lt,λa1 b=>(by rw [Z] at b;cases b;exact zN _),λ_=>.inr ⟨rfl,et,fl,e,0,0,false,Q,?_,Nat.zero_le _,?_⟩,λ_=>⟨rfl,rfl,by rw [t];omega⟩⟩
  .rw [Nat.zero_add,<-ag.1];exact (qev ok.len).symm
  .rw [P.ce];exact hc
 rcases qav rl with ⟨rfl,rfl⟩ | ⟨nm,gn,off,z,cap,cs,e',gen,o,a6,ex,rfl,Q,hf,hM,t,aE,ah,a7,_⟩
 .
  cases D:Nat.beq x.length 0 with
  | true=>
   have a8:=af D;subst a8;obtain ⟨w',P,f,Z,et,hn,_,_,_⟩:=q3e (named:=false) ok R B (λh=>by cases h);refine ⟨_,_,.nils,H,w',U,B.tmps,B.n,?_,P,f,?_⟩
   .simp only [qc7,V.qfn,qcj,u,zB,D,zO]
   .rw [zJ];exact .nlist ⟨by rw [hn];exact B.lt,λa1 b=>(by rw [Z] at b;cases b;exact zN _),λ_=>trivial,λ_=>trivial⟩
  | false=>
   obtain ⟨p,L,v,H',w',h1,h2,h3,h4,h5,h6,h7⟩:=fresh items D (by rw [List.nil_append];exact hit);cases h4;refine ⟨p,L,_,_,w',h1,h2,h3,?_,h5,h6,h7⟩;have hr:=J x.length (by omega);rw [r] at u;simp only [qc7,V.qfn,qcj,r,u,zB,D,zQ,hr,zO,List.length_nil,Nat.zero_add]
 .have ai:Nat.beq G.size (sz c)=true:=by rw [r];exact Nat.beq_refl _
  have M:V.qfn (sz c) (.slice nm gn off l.length z cap)=.slice nm gn off l.length (sz c) cap:=qxd aE;have aj:V.qfn G.size (.slice nm gn off l.length z cap)=.slice nm gn off l.length (sz c) cap:=by rw [r];exact M
  have ak:∃ y l' g0,s=.list y l' (some (i,g0))/\look st.owns i=some g0/\g=g0+2:=by
   rcases hi with ⟨rfl,_⟩ | hi
   .cases rs
   .exact hi
  obtain ⟨y,l',g0,rfl,T,aP⟩:=ak;have aF:y=c:=by
   unfold asL at hl;simp only at hl;split at hl
   .assumption
   .cases hl
  subst aF;have aa:g % 2=1->NB (.slice nm gn off l.length z cap):=by
   intro aQ;rcases qav rs with ⟨_,hh⟩ | ⟨aG,aH,al,z',an,ao,e2,aq,F,W,ex',hh,_,_,_,_,_,_,_,ho⟩
   .cases hh
   .rw [hh];exact ho.2.2.2 (by omega)
  have q:za2 w sz i y (.slice nm gn off l.length z cap):=by
   rcases qav rs with ⟨_,hh⟩ | ⟨aG,aH,al,z',an,ao,e2,aq,F,W,ex',hh,_,_,_,_,_,_,_,ho⟩
   .cases hh
   .rw [hh];exact ho.2.2.1 (by rw [R.owns];exact T)
  cases D:Nat.beq x.length 0 with
  | true=>
   have a8:=af D;subst a8;obtain ⟨w',P,f,Z,et,hn,ar,aI,ab⟩:=q3e (named:=true) ok R B (λ_=>⟨g0,T⟩);refine ⟨_,_,.slice nm gn off l.length (sz y) cap,H,w',U,B.tmps,B.n,?_,P,f,?_⟩
   .simp only [qc7,aj,qcj,u,zB,ai,Bool.not_true,zQ,D,zO]
   .rw [zJ];refine .list (by rw [ar];exact Q) hf (by rw [aI];exact hM) rfl t ⟨hz,.inl rfl⟩ ah (λi' aJ j p hp=>(a7 i' aJ j p hp).mono ok.len f) ⟨by rw [hn];exact B.lt,λa1 b=>(by rw [Z] at b;cases b;exact zN _),λ_=>?_,aa⟩;simp only [za2] at q ⊢;rw [et,ar,ab];exact q
  | false=>
   have hr:=J (l.length+x.length) S;have Y:items.all V.qay=true:=hit.qvd (zs6 ok);rw [R.g] at Q;obtain ⟨old,a,N⟩:=qjr ok.len R.g rl hz;rw [<-zcc,M] at a;rcases q with A | ⟨A,au,ao,e2,F,W,ex',av,aw,ax,ab⟩
   .subst A;have ay:Nat.ble (l.length+x.length) l.length=false:=by
     rw [<-Bool.not_eq_true,Nat.ble_eq];have:x.length≠0:=by intro h0;rw [h0] at D;simp at D
     omega
    obtain ⟨p,L,v,H',w',h1,h2,h3,h4,h5,h6,h7⟩:=fresh (old++items) D (by rw [List.flatMap_append];exact N.append hit);cases h4;refine ⟨p,L,_,_,w',h1,h2,h3,?_,h5,h6,h7⟩;have aK:Nat.beq (sz y) (sz y)=true:=Nat.beq_refl _;rw [r] at u;simp only [qc7,r,M,qcj,u,zB,aK,Bool.not_true,zQ,D,hr,Y,Q,ay,a,zH]
   .subst A;rw [R.g,Q] at av;cases av;have aL:e'=e:=ok.inj e' e y (by rw [<-R.ce];exact ab) hc;subst aL;obtain ⟨ad,aM,aT⟩:=R.eta i g0 nm T au;have ae:H.ro<=nm:=by rw [R.keeps.ro];exact zR R.rob.1 ad
    have az:(Nat.beq gn gn&&Nat.beq (off+l.length * G.size) cs.length&&Nat.ble a6 cs.length&&Nat.ble o gn&&!Nat.beq G.size 0&&Nat.beq e' e')=true:=by
     simp only [zA,Nat.ble_eq,Nat.beq_refl,r];refine ⟨⟨⟨⟨⟨trivial,?_⟩,ax⟩,hf⟩,?_⟩,trivial⟩
     .rw [aw];exact Nat.beq_refl _
     .have:Nat.beq (sz y) 0=false:=by rw [<-Bool.not_eq_true,Nat.beq_eq];omega
      rw [this];rfl
    obtain ⟨w',P,f,Z,et,hn,aN,aA⟩:=zhc (cs2:=items) (ex':=false) ok R B T au Q (λh0=>by subst h0;have h1:0=x.length * sz y:=I;exact (Nat.mul_eq_zero.1 h1.symm).elim (λh2=>by rw [h2] at D;cases D) (λh2=>by omega));refine ⟨_,_,.slice nm (gn+1) off (l.length+x.length) (sz y) none,_,w',U,B.tmps,B.n,?_,P,f,?_⟩
    .simp only [qc7,aj,qcj,u,zB,ai,Bool.not_true,zQ,D,hr,Y,Q,az,zO,qcl ae,zH];rw [r]
    .have aB:w'.g nm=some (.row (cs++items) e' (gn+1) o a6 false):=by rw [P.g];exact qa7
     have O:(l++x).length=l.length+x.length:=List.length_append;rw [<-O];have ae:qu X sz w' ((l++x).flatMap (X.cells y)) (old++items):=by
      rw [List.flatMap_append];exact (N.append hit).mono ok.len f
     have hold:old=cs.drop off:=by
      have b1:Nat.ble o gn=true:=by rw [Nat.ble_eq];exact hf
      have b2:Nat.ble (off+l.length * sz y) (off+l.length * sz y)=true:=by rw [Nat.ble_eq];exact zN _
      have b3:Nat.ble (off+l.length * sz y) cs.length=true:=by rw [Nat.ble_eq];exact t
      simp only [js,V.qi2,qdx,Nat.beq_refl,zO,jz,Q,b1,b2,b3,Bool.and_self,zM,zP] at a;obtain ⟨_,a,_,rfl⟩:=a;obtain ⟨rfl,_⟩:=qo2 a;rw [List.take_of_length_le];rw [List.length_drop];omega
     refine qk1 ok.len aB (Nat.le_succ_of_le hf) aN hz (λk U=>(by cases U)) ae ?_ (λm hm=>?_) ⟨by rw [hn];exact B.lt,λa1 b=>(by rw [Z] at b;cases b;exact zN _),λ_=>.inr ⟨rfl,et,cs++items,e',o,a6,false,aB,?_,?_,?_⟩,λh=>⟨rfl,(aa h).2.1,by rw [O];have:=(aa h).2.2;omega⟩⟩
     .rw [hold,List.length_append,List.length_append,List.length_drop];omega
     .have aR:off<=cs.length:=by omega
      have:cs++items=cs.take off++(cs.drop off++items):=by rw [<-List.append_assoc,List.take_append_drop]
      rw [this,hold,List.getD_eq_getElem?_getD,List.getD_eq_getElem?_getD,List.getElem?_append_right (by rw [List.length_take];omega)];congr 2;rw [List.length_take];omega
     .rw [List.length_append,List.length_append,Nat.add_mul,I];omega
     .rw [List.length_append];omega
     .rw [aA,R.ce];exact hc
theorem qup (c:w.g=H.get) {es n:Nat} {fx:Bool} {ps:List (PV K)} {v:V} (r:Rep X sz w (.plist es n fx ps) v):∃ cs,js H es v=some (n,cs)/\qu X sz w ps cs:=by
 cases r with
 | @plist _ _ _ _ nm gn d cs e gen b i ex f k s t u x l=>
  rw [c] at f;have m:Nat.ble b gn=true:=by rw [Nat.ble_eq];exact k
  have o:Nat.ble (d+n * es) (d+n * es)=true:=by rw [Nat.ble_eq];exact zN _
  have q:Nat.ble (d+n * es) cs.length=true:=by rw [Nat.ble_eq];omega
  have a:qu X sz w ps ((cs.drop d).take (n * es)):=by
   refine ⟨by rw [List.length_take,List.length_drop];omega,λj p h=>?_⟩;have y:=(List.getElem?_eq_some_iff.1 h).1;have:=l j p h;rw [List.getD_eq_getElem?_getD,List.getElem?_take,zT (by omega),List.getElem?_drop,<-List.getD_eq_getElem?_getD];exact this
  exact ⟨_,by simp only [js,V.qi2,qdx,Nat.beq_refl,zO,jz,f,m,o,q,Bool.and_self,qjy a.qw5,zH],a⟩
theorem zhb {C:ZC K} {o:Operand} {c z:Nat} {s x:PV K} {k:PV K->StV K->Prop} (a:qnn (qo X tbl inv meas) C st o=false) (b:qbo (qo X tbl inv meas) C st o=some x):zj9 (qo X tbl inv meas) c z s x st k=none:=by
 unfold qnn at a;rw [b] at a;cases s<;>cases x<;>first | rfl | cases a
theorem zcu (ok:CfgOk X sz C) (R:RelH X sz C base st H w) {c:Nat} {e:TypeId} {u:TI} (hc:C.codec e=some c) (a1:C.E.types e=some u) (a6:u.bytes<=1024) {s x:PV K} {vs vx:V}
  {k:PV K->StV K->Prop} {r:Prop} (rs:Rep X sz w s vs) (rx:Rep X sz w x vx) (J:zj9 (qo X tbl inv meas) c u.size s x st k=some r) (h:r) :
  ∃ p y v H' w',k p y/\y.tmps=st.tmps/\y.n=st.n/\qc7 H e u.size u.bytes vs vx=some (v,H')/\RelH X sz C base y H' w'/\Le w w'/\Rep X sz w' p v:=by
 have L:=ok.size e c u hc a1;have i:∀ m,m<=1000000001->(Nat.ble (m * u.bytes) room&&Nat.ble m room)=true:=by
  intro m hm;simp only [zA,Nat.ble_eq,room];have:m * u.bytes<=1000000001 * 1024:=Nat.mul_le_mul hm a6;exact ⟨by omega,by omega⟩
 unfold zj9 at J;split at J
 .rename_i fx p;cases J;cases b:(Nat.beq u.size 1&&qa2 p) with
  | false=>rw [b] at h;exact h.elim
  | true=>
   rw [b] at h;simp only [zA] at b;have j:=zE b.1;obtain ⟨a,z,f⟩:=qup R.g rx;cases rs;obtain ⟨w',A,d,M,a7⟩:=qk9 ok R (ct:=.ml c [] p) (row:=.row a e 0 0 0 false) (lp':=w.lp) (λ_ _=>rfl) λw' d _=>⟨a,e,0,0,false,rfl,zN _,by rw [d.ce,R.ce];exact hc,by rw [<-L];exact j,f.mono ok.len d⟩;have a8:a.length=1:=f.1.symm;refine ⟨_,_,.slice H.next 0 0 1 1 none,_,w',h,rfl,rfl,?_,A,d,?_⟩
   .have hr:=i 1 (by omega);have B:Nat.beq 1 0=false:=rfl;simp only [qc7,V.qfn,qcj,j,z,zB,B,zQ,hr,zO]
   .have D:=(A.cells st.next _ (by simp only [qcb];rfl)).1;have:=Rep.mlist (X:=X) (sz:=sz) (w:=w') (id:=st.next) (c:=c) (fx:=false) (n:=0) (g:=0) (cs:=a) (e:=e) a7 D (zK _) (by rw [<-L];exact j) (by rw [M,A.g];exact qcp) (by show 1<=_;omega) (λ_=>rfl);rw [M] at this;exact this
 .rename_i id c' ao n fx q;cases J;split at h
  .rename_i l p hl;have hl:=qli hl;obtain ⟨D,hM,cs,I,gen,fl,ex,hg,aa,N,F,hr⟩:=R.cells id _ hl;obtain ⟨ab,ad,G⟩:=R.cl id D;cases b:(Nat.beq c' c&&Nat.beq u.size 1&&qa2 q) with
   | false=>rw [b] at h;exact h.elim
   | true=>
    rw [b] at h;simp only [zA] at b;have ae:=zE b.1.1;subst ae;have j:=zE b.1.2;split at h
    .rename_i r hp;obtain ⟨hn,O,P,h⟩:=h;have hn:n=(l.length:Int):=hn;have P:l.length+1<=1000000000:=P;have Q:=zc9 ok hr hp O;have t:=Q.1;rw [qev ok.len,F,Nat.mul_one,List.length_append] at t;have t:l.length+1=cs.length:=t;obtain ⟨a,z,f⟩:=qup R.g rx;have a8:a.length=1:=f.1.symm;have af:I=e:=ok.inj I e c' (by rw [<-R.ce];exact N) hc;subst af;cases rs with
     | @mlist _ _ _ _ g ag e1 S ah ai aj hi _ h0 hz q1 q2 q3=>
      rw [R.g,hg] at q1;cases q1;have T:=q3 (by omega);subst T;have ak:H.ro<=w.c id:=by rw [R.keeps.ro];exact zR R.rob.1 G
      obtain ⟨w',A,d⟩:=qi1 ok R (ct':=.ml c' (l++[r.2]) q) (o:=.row (cs++a) I (g+1) fl 0 false) hl
       (λag e1 S ah ai aj h=>by
         rw [hg] at h;cases h;exact ⟨_,_,_,_,_,rfl,by rw [List.length_append];omega,λhh=>by rw [List.length_append] at hh;omega⟩)
       ⟨_,_,_,_,_,rfl,by omega,N,F,Q.append f⟩
      refine ⟨_,_,.slice (w.c id) (g+1) 0 (n.toNat+1+1) 1 none,_,w',h,rfl,rfl,?_,A,d,?_⟩
      .have al:=i (n.toNat+1+1) (by omega);have B:Nat.beq 1 0=false:=rfl;have an:Nat.beq 1 1=true:=rfl;have U:(Nat.beq g g&&Nat.beq (0+(n.toNat+1) * 1) cs.length&&Nat.ble 0 cs.length&&Nat.ble fl g&&!false&&Nat.beq I I)=true:=by
        simp only [zA,Nat.ble_eq,Nat.beq_refl];refine ⟨⟨⟨⟨⟨trivial,?_⟩,Nat.zero_le _⟩,aa⟩,rfl⟩,trivial⟩;rw [Nat.beq_eq];omega
       have W:a.all V.qay=true:=f.qvd (by simp [b.2]);simp only [qc7,V.qi2,qcj,j,z,zB,B,an,Bool.not_true,zQ,al,W,hg,U,zO,qcl ak,zH]
      .have Y:=d.c id (by rw [R.n];exact ab);have Z:w'.cl id:=(A.cells id _ (by simp only [qe7,zT rfl];rfl)).1;have aq:((l++[r.2]).length:Int)=n+1:=by rw [List.length_append];show ((l.length+1:Nat):Int)=_;omega
       have:=Rep.mlist (X:=X) (sz:=sz) (w:=w') (id:=id) (c:=c') (fx:=false) (n:=((l++[r.2]).length:Int)) (g:=g+1) (cs:=cs++a) (e:=I) (gen:=g+1) (fl:=fl) (fz:=0) (ex:=false) (zL hi d.n) Z (by omega) F (by rw [Y,A.g];exact qa7) (by have h9:(cs++a).length=cs.length+a.length:=List.length_append;omega) (λ_=>rfl);rw [Y] at this;have e3:((l++[r.2]).length:Int).toNat=n.toNat+1:=by omega
       rw [e3] at this;exact this
    .exact h.elim
  .exact h.elim
 .cases J
end
end Go.E3
