/- A VERIFIED EVALUATOR, texts E3a, E3b, E3c, E3d, E3e, E3f, E3g, E3h, E3i, E3j in one. -/
import Derived.Test.YtpofmogdhigakaaGreatDoorM1
import Derived.Test.YtpofmogdhigakaaGreatDoorM3
/- THE MACHINE E3: weakest preconditions of the program's code over values without memory (lists in place of slices, variables by number). Definitions alone, over an algebra of what is known
   ('Alg'): at the plain one the answer is a proposition, at one of texts it is that proposition's text. Nothing is proved here. -/
namespace Go.E3
open Go Go.E2
inductive P (I B S Pr:Type) (L:Nat->Type) where
 | int (k:IntKind) (lit:Option Int) (n:I)
 | lit (b:Bool)
 | sb (id:Nat) (neg:Bool) (b:B) (pt pf:Pr)
 | str (s:S)
 | list (c:Nat) (l:L c) (own:Option (Nat×Nat))
 | nils
 | mlist (id c:Nat) (fx:Bool) (n:I)
 | mptr (id c:Nat) (i n:I) (off:Nat)
 | cell (id off lim:Nat)
 | eptr (cells:List (P I B S Pr L)) (off:Nat)
 | nilp
 | func (f:Nat) (first captured:List (P I B S Pr L))
 | nilf
 | yield (id:Nat)
 | iface (t:TypeId) (v:P I B S Pr L)
 | nili
 | agg (cells:List (P I B S Pr L))
 | tuple (l:List (P I B S Pr L))
 | map (id:Nat)
 | plist (es n:Nat) (fx:Bool) (cells:List (P I B S Pr L))
inductive LMode where
 | ready
 | busy
 | done (ex:Option Nat)
structure LRec (I B S Pr:Type) (L:Nat->Type) where
 tmps:Tree (P I B S Pr L)
 n:Nat
 params:List Tmp
 assign:Code
 body:Code
 fn:Nat
 pos:Nat
 mode:LMode
inductive Leaf where
 | int (k:IntKind)
 | str
 | bool
def qot:Leaf->Leaf->Bool
 | .int k,.int a=>decide (k=a)
 | .str,.str=>true
 | .bool,.bool=>true
 | _,_=>false
inductive Cont (I B S Pr:Type) (L:Nat->Type) where
 | cs (t:Option TypeId) (ps:List (P I B S Pr L))
 | ml (c:Nat) (l:L c)
 | lp (r:LRec I B S Pr L)
 | mp (c:Nat) (lf:Leaf) (va:Bool) (l:L c)
 | si (s:S) (pos:I)
inductive N (I B S:Type) (L:Nat->Type) where
 | i (n:I)
 | b (b:B)
 | s (s:S)
 | l (c:Nat) (l:L c)
inductive SK where
 | int (k:IntKind)
 | bool
 | str
 | list (c:Nat) (own nb:Bool)
 | keep
inductive Sh where
 | one (k:SK)
 | agg (ks:List SK)
inductive Slot where
 | one (t:Nat) (k:SK)
 | agg (t:Nat) (ks:List SK)
 | via (t:Nat) (ks:List SK)
 | cap (t i:Nat) (ks:List SK)
 | elems (t c:Nat)
 | iter (t:Nat)
 | out (j t:Nat) (ks:List SK)
 | top (t:Nat) (ks:List SK)
inductive Ann where
 | inv (j:Nat) (slots:List Slot) (sees:List Slot)
 | unroll (n:Nat)
 | peel (j:Nat) (slots:List Slot) (sees:List Slot)
 | cut (j:Nat) (slots:List Slot) (sees:List Slot)
variable {I B S Pr:Type} {L K:Nat->Type}
abbrev qtr (B a:Type):=B×a×a
structure Alg (I B S Pr:Type) (L K:Nat->Type) where
 ff:String->Pr
 tt:Pr
 and:Pr->Pr->Pr
 imp:Pr->Pr->Pr
 impL:Pr->(Unit->Pr)->Pr
 lat:(Unit->Pr)->Pr
 ilit:Int->I
 iop:BinOp->IntKind->I->I->Option (Pr×I)
 icmp:BinOp->I->I->Option (qtr B Pr)
 ineg:IntKind->I->Pr×I
 iconv:IntKind->I->Pr×I
 ibest:Bool->I->I->I
 blit:Bool->B
 bnot:B->B
 beq:B->B->qtr B Pr
 braw:B->Pr×Pr
 ball:List (qtr B Pr)->qtr B Pr
 slit:List UInt8->S
 scat:S->S->Pr×S
 scmp:BinOp->S->S->Option (qtr B Pr)
 slen:S->I
 sget:S->I->I
 ssub:S->Option I->Option I->Pr×S
 lof:(c:Nat)->List (K c)->L c
 llen:(c:Nat)->L c->I
 lget:(c:Nat)->L c->I->K c
 lsub:(c:Nat)->L c->Option I->Option I->Pr×L c
 lcat:(c:Nat)->L c->L c->Pr×L c
 lset:(c:Nat)->L c->I->K c->L c
 lrep:(c:Nat)->K c->I->L c
 leI:I->I->Pr
 sbytes:S->L 0
 bstr:L 0->S
 within:I->I->Pr
 eqI:I->I->Pr
 eqB:B->B->Pr
 eqS:S->S->Pr
 eqL:(c:Nat)->L c->L c->Pr
 allI:IntKind->(I->Pr)->Pr
 allB:(B->Pr)->Pr
 allS:(S->Pr)->Pr
 allL:(c:Nat)->(L c->Pr)->Pr
 inv:Nat->List (N I B S L)->Pr
 dec:Nat->List (N I B S L)->List (N I B S L)->Pr
 fn:Nat->Option (List Sh×(List (N I B S L)->Option (Pr×P I B S Pr L)))
 cells:(c:Nat)->K c->List (P I B S Pr L)
 pack:(c:Nat)->List (P I B S Pr L)->Option (Pr×K c)
 mhas:(c kn:Nat)->L c->K c->B
 mget:(c kn:Nat)->L c->K c->K c
 mput:(c kn:Nat)->L c->K c->L c
 srune:S->I->I
 snext:S->I->I
structure Cfg (I B S Pr:Type) (L:Nat->Type) where
 E:Env
 qp:Nat->Option (List (P I B S Pr L))
 codec:TypeId->Option Nat
 ann:Nat->Nat->Option Ann
 ans:Nat->Bool
 ng:Nat
 prim:Nat->Bool
 gobj:Nat->Option O
 mcod:TypeId->Option Nat
 born:TypeId->Bool:=λ_=>false
 keepM:Nat->Bool:=λ_=>false
structure St (I B S Pr:Type) (L:Nat->Type) where
 tmps:Tree (P I B S Pr L)
 n:Nat
 cells:List (Nat×Cont I B S Pr L)
 owns:List (Nat×Nat)
 next:Nat
 known:List (Nat×Bool)
def look {α:Type}:List (Nat×α)->Nat->Option α
 | [],_=>none
 | (i,a)::l,n=>if i=n then some a else look l n
def qez {α:Type}:List (Nat×α)->Nat->α->List (Nat×α)
 | [],n,a=>[(n,a)]
 | (i,b)::l,n,a=>if i=n then (i,a)::l else (i,b)::qez l n a
def qa1 {α:Type}:List (Nat×α)->Nat->List (Nat×α)
 | [],_=>[]
 | (i,b)::l,n=>if i=n then qa1 l n else (i,b)::qa1 l n
def St.put (st:St I B S Pr L) (dst:Option Tmp) (p:P I B S Pr L):St I B S Pr L:=
 match dst with
 | some d=>match st with
  | ⟨t,n,c,o,x,a⟩=>if Nat.blt d n then ⟨t.set d p,n,c,o,x,a⟩ else ⟨t,n,c,o,x,a⟩
 | none=>st
def P.cellsOf:P I B S Pr L->List (P I B S Pr L)
 | .agg cs=>cs
 | p=>[p]
def qmm:P I B S Pr L:=.tuple []
mutual
def ofV (A:Alg I B S Pr L K):V->P I B S Pr L
 | .int k n=>.int k (some n) (A.ilit n)
 | .bool b=>.lit b
 | .str s=>.str (A.slit s)
 | .ptr ..=>.tuple []
 | .nilp=>.nilp
 | .slice ..=>.tuple []
 | .nils=>.nils
 | .func fn a c=>match fn with
  | .func f=>.func f (ofL A a) (ofL A c)
  | _=>.tuple []
 | .nilf=>.nilf
 | .iface t v=>.iface t (ofV A v)
 | .nili=>.nili
 | .agg cs=>.agg (ofL A cs)
 | .tuple vs=>.tuple (ofL A vs)
 | .map _=>.tuple []
 | .nilm=>.tuple []
def ofL (A:Alg I B S Pr L K):List V->List (P I B S Pr L)
 | []=>[]
 | v::vs=>ofV A v::ofL A vs
end
def qg3:V->Bool
 | .int .. | .bool _ | .str _ | .nilp | .nils | .nilf | .nili=>true
 | .func (.func _) [] []=>true
 | _=>false
def qlo (A:Alg I B S Pr L K) (v:V):Option (P I B S Pr L):=
 match v with
 | .agg cs=>if cs.all qg3 then some (ofV A v) else none
 | .tuple []=>some (.tuple [])
 | v=>if qg3 v then some (ofV A v) else none
def zeroCells (A:Alg I B S Pr L K) (ti:TI):Option (List (P I B S Pr L)):=
 if ti.zero.cells.all qg3 then some (ofL A ti.zero.cells) else none
def jj (A:Alg I B S Pr L K) (C:Cfg I B S Pr L) (st:St I B S Pr L):Operand->Option (P I B S Pr L)
 | .tmp t=>st.tmps.get t
 | .const v=>(qrk 1000 v).bind (qlo A)
 | .global g=>(C.qp g).map λcs=>.eptr cs 0
 | .func f=>some (.func f [] [])
def qey (A:Alg I B S Pr L K) (C:Cfg I B S Pr L) (st:St I B S Pr L):List Operand->Option (List (P I B S Pr L))
 | []=>some []
 | x::a=>(jj A C st x).bind λv=>(qey A C st a).map λvs=>v::vs
def asL (A:Alg I B S Pr L K) (c:Nat):P I B S Pr L->Option (L c)
 | .nils=>some (A.lof c [])
 | .list a l _=>if h:a=c then some (h ▸ l) else none
 | _=>none
def zde (id:Nat) (b:Bool) (l:List (Nat×Bool)):List (Nat×Bool):=if Nat.beq id 0 then l else (id,b)::l
def br (A:Alg I B S Pr L K) (st:St I B S Pr L) (p:P I B S Pr L) (k:Bool->St I B S Pr L->Pr):Pr:=
 match p with
 | .lit b=>k b st
 | .sb id neg _ a c=>match look st.known id with
  | some v=>k (v != neg) st
  | none=>A.and (A.impL a λ_=>k true {st with known:=zde id (!neg) st.known}) (A.impL c λ_=>k false {st with known:=zde id neg st.known})
 | _=>A.ff "no condition"
def qbw:List (P I B S Pr L)->Nat->List (P I B S Pr L)×Nat
 | [],n=>([],n)
 | .sb 0 neg b c d::ps,n=>match qbw ps (n+1) with
  | (a,m)=>(.sb n neg b c d::a,m)
 | p::ps,n=>match qbw ps n with
  | (a,m)=>(p::a,m)
def qdm (p:P I B S Pr L) (st:St I B S Pr L):P I B S Pr L×St I B S Pr L:=
 match p with
 | .sb 0 neg b a c=>(.sb st.next neg b a c,{st with next:=st.next+1})
 | .agg cs=>match qbw cs st.next with
  | (ds,m)=>(.agg ds,{st with next:=m})
 | .tuple cs=>match qbw cs st.next with
  | (ds,m)=>(.tuple ds,{st with next:=m})
 | p=>(p,st)
def q55 (st:St I B S Pr L) (c:qtr B Pr):P I B S Pr L×St I B S Pr L:=
 (.sb st.next false c.1 c.2.1 c.2.2,{st with next:=st.next+1})
def zay (ti:TI) (cs:List (P I B S Pr L)) (off:Nat):Option (P I B S Pr L):=
 if ti.isAgg then (if Nat.ble (off+ti.size) cs.length then some (.agg ((cs.drop off).take ti.size)) else none) else cs[off]?
def qcr (cs:List (P I B S Pr L)) (off:Nat) (vs:List (P I B S Pr L)):List (P I B S Pr L):=cs.take off++vs++cs.drop (off+vs.length)
def qxu (place:Nat->Option (Nat×Nat)):List (P I B S Pr L)->List (Nat×P I B S Pr L)->Option (List (P I B S Pr L))
 | cells,[]=>some cells
 | cells,(i,v)::rest=>match place i with
  | none=>none
  | some (off,a)=>if Nat.beq v.cellsOf.length a&&Nat.ble (off+a) cells.length then qxu place (qcr cells off v.cellsOf) rest else none
def qyd (l:List (Nat×Cont I B S Pr L)) (id:Nat):Option (List (P I B S Pr L)):=
 match look l id with
 | some (.cs _ ps)=>some ps
 | _=>none
def qug (l:List (Nat×Cont I B S Pr L)) (id:Nat):Option TypeId:=
 match look l id with
 | some (.cs t _)=>t
 | _=>none
structure MapC (L:Nat->Type) where
 c:Nat
 lf:Leaf
 va:Bool
 l:L c
def qye (l:List (Nat×Cont I B S Pr L)) (id:Nat):Option (MapC L):=
 match look l id with
 | some (.mp c lf va l)=>some ⟨c,lf,va,l⟩
 | _=>none
def qwh (l:List (Nat×Cont I B S Pr L)) (id c:Nat) (d:Leaf) (e:Bool):Option (L c):=
 match look l id with
 | some (.mp f a b l)=>if h:f=c then (if qot a d&&(b == e) then some (h ▸ l) else none) else none
 | _=>none
def q3d (l:List (Nat×Cont I B S Pr L)) (id:Nat):Option (S×I):=
 match look l id with
 | some (.si s n)=>some (s,n)
 | _=>none
def zuo:Option TypeId->Option TypeId->Bool
 | none,_=>true
 | some a,some b=>Nat.beq a b
 | _,_=>false
def qp2 (l:List (Nat×Cont I B S Pr L)) (id c:Nat):Option (L c):=
 match look l id with
 | some (.ml a l)=>if h:a=c then some (h ▸ l) else none
 | _=>none
def loadAt (ti:TI) (cs:List (P I B S Pr L)) (off:Nat):Option (P I B S Pr L):=
 if Nat.ble (off+ti.size) cs.length then (if ti.isAgg then some (.agg ((cs.drop off).take ti.size)) else if Nat.beq ti.size 1 then cs[off]? else none) else none
def zak (st:St I B S Pr L) (ti:TI):P I B S Pr L->Option (P I B S Pr L)
 | .cell id off lim=>(qyd st.cells id).bind λcs=>if Nat.ble (off+ti.size) lim&&Nat.ble lim cs.length then
   (if ti.isAgg then some (.agg ((cs.drop off).take ti.size)) else if Nat.beq ti.size 1 then cs[off]? else none) else none
 | .eptr cs off=>loadAt ti cs off
 | _=>none
def qae:P I B S Pr L->Bool
 | .agg _ | .tuple _=>false
 | _=>true
def q86 (st:St I B S Pr L) (ti:TI) (a v:P I B S Pr L):Option (St I B S Pr L):=
 match a with
 | .cell id off lim=>(qyd st.cells id).bind λcs=>
  if Nat.beq v.cellsOf.length ti.size&&Nat.ble (off+ti.size) lim&&Nat.ble lim cs.length&&v.cellsOf.all qae then some {st with cells:=qez st.cells id (.cs (qug st.cells id) (qcr cs off v.cellsOf))} else none
 | _=>none
def sel (A:Alg I B S Pr L K) (i:P I B S Pr L) (n:Nat) (k:Nat->Pr):Pr:=
 match i with
 | .int _ (some j) _=>if 0<=j/\j<n then k j.toNat else A.ff "index"
 | .int _ none x=>A.and (A.within x (A.ilit n)) ((List.range n).foldr (λ(j:Nat) r=>A.and (A.imp (A.eqI x (A.ilit (j:Int))) (k j)) r) A.tt)
 | _=>A.ff "index"
def eqP (A:Alg I B S Pr L K):P I B S Pr L->P I B S Pr L->Option (qtr B Pr)
 | .int k _ a,.int c _ b=>if k=c then A.icmp .eql a b else none
 | .str a,.str b=>A.scmp .eql a b
 | .lit a,.lit b=>some (A.beq (A.blit a) (A.blit b))
 | .lit a,.sb _ _ b _ _=>some (A.beq (A.blit a) b)
 | .sb _ _ a _ _,.lit b=>some (A.beq a (A.blit b))
 | .sb _ _ a _ _,.sb _ _ b _ _=>some (A.beq a b)
 | _,_=>none
def q71 (A:Alg I B S Pr L K):List (P I B S Pr L)->List (P I B S Pr L)->Option (List (qtr B Pr))
 | [],[]=>some []
 | a::d,b::e=>(eqP A a b).bind λc=>(q71 A d e).map λcs=>c::cs
 | _,_=>none
def ztt (A:Alg I B S Pr L K) (c:qtr B Pr):qtr B Pr:=(A.bnot c.1,c.2.2,c.2.1)
def zd5 (E:Env) (u:TypeDesc) (x y:P I B S Pr L):Option Bool:=
 match u,x,y with
 | .pointer _,.nilp,.nilp=>some true
 | .pointer _,.nilp,.cell .. | .pointer _,.cell ..,.nilp=>some false
 | .pointer e,.cell i o _,.cell j p _=>(E.types e).bind λa=>if !Nat.beq a.size 0&&Nat.beq i j then some (Nat.beq o p) else none
 | .func ..,.nilf,.nilf=>some true
 | .func ..,.nilf,.func .. | .func ..,.func ..,.nilf=>some false
 | .interface _,.nili,.iface .. | .interface _,.iface ..,.nili=>some false
 | _,_,_=>none
mutual
def qza (E:Env):Nat->TypeId->Option (List Leaf)
 | 0,_=>none
 | d+1,t=>match E.types t with
  | none=>none
  | some ti=>match ti.under with
   | .int k=>if !ti.isAgg then some [.int k] else none
   | .string=>if !ti.isAgg then some [.str] else none
   | .bool=>if !ti.isAgg then some [.bool] else none
   | .struct a=>if E.eqOk t&&ti.isAgg then (q1w E d a.toList 0).bind λl=>if Nat.beq ti.size l.length&&Nat.blt 0 l.length then some l else none else none
   | _=>none
def q1w (E:Env):Nat->List Field->Nat->Option (List Leaf)
 | 0,_,_=>none
 | d+1,b,off=>match b with
  | []=>some []
  | f::b=>if Nat.beq f.offset off then (qza E d f.type).bind λa=>(q1w E d b (off+a.length)).map λr=>a++r else none
end
def tiled:List Leaf->List (P I B S Pr L)->Bool
 | [],[]=>true
 | .int k::l,.int a _ _::ps=>decide (k=a)&&tiled l ps
 | .str::l,.str _::ps=>tiled l ps
 | .bool::l,.lit _::ps=>tiled l ps
 | .bool::l,.sb ..::ps=>tiled l ps
 | _,_=>false
def qu6 (st:St I B S Pr L) (bad:Pr) (c:Option (qtr B Pr)) (k:P I B S Pr L->St I B S Pr L->Pr):Pr:=
 match c with
 | some c=>k (q55 st c).1 (q55 st c).2
 | none=>bad
def qr4 (A:Alg I B S Pr L K) (neg:Bool) (c:qtr B Pr):qtr B Pr:=if neg then ztt A c else c
def zfd (A:Alg I B S Pr L K) (neg:Bool) (x y:P I B S Pr L) (st:St I B S Pr L) (k:P I B S Pr L->St I B S Pr L->Pr):Pr:=
 match x,y with
 | .nils,.nils=>k (.lit (true != neg)) st
 | .list c l _,.nils=>A.allB λb=>A.imp (A.imp (A.braw b).1 (A.eqL c l (A.lof c []))) (qu6 st (A.ff "comparison") (some (qr4 A neg (b,(A.braw b).1,(A.braw b).2))) k)
 | _,_=>A.ff "comparison"
def zh0 (A:Alg I B S Pr L K) (E:Env) (neg:Bool) (t:TypeId) (x y:P I B S Pr L) (st:St I B S Pr L) (k:P I B S Pr L->St I B S Pr L->Pr):Pr:=
 match x,y with
 | .int d (some a) _,.int c (some b) _=>if d=c then k (.lit ((a == b) != neg)) st else A.ff "comparison"
 | .int d _ a,.int c _ b=>if d=c then qu6 st (A.ff "comparison") ((A.icmp .eql a b).map (qr4 A neg)) k else A.ff "comparison"
 | .str a,.str b=>qu6 st (A.ff "comparison") ((A.scmp .eql a b).map (qr4 A neg)) k
 | .agg e,.agg f=>match E.types t,qza E 1000 t with
  | some ti,some l=>if ti.isAgg&&(tiled l e&&tiled l f) then qu6 st (A.ff "comparison") ((q71 A e f).map λcs=>qr4 A neg (A.ball cs)) k else A.ff "comparison"
  | _,_=>A.ff "comparison"
 | x,y=>match E.types t with
  | none=>A.ff "comparison"
  | some ti=>match ti.under with
   | .bool=>qu6 st (A.ff "comparison") ((eqP A x y).map (qr4 A neg)) k
   | .slice _=>zfd A neg x y st k
   | u=>match zd5 E u x y with
    | some b=>k (.lit (b != neg)) st
    | none=>A.ff "comparison"
def q7p (A:Alg I B S Pr L K) (op:BinOp) (x y:P I B S Pr L) (st:St I B S Pr L) (k:P I B S Pr L->St I B S Pr L->Pr):Pr:=
 match x,y with
 | .int d (some a) _,.int e (some b) _=>if d=e then (match jb op d a b with
   | some (.int d n)=>k (.int d (some n) (A.ilit n)) st
   | some (.bool b)=>k (.lit b) st
   | _=>A.ff "operator") else A.ff "operator"
 | .int d _ a,.int e _ b=>if d=e then (match A.icmp op a b with
   | some c=>qu6 st (A.ff "operator") (some c) k
   | none=>match A.iop op d a b with
    | some r=>A.and r.1 (k (.int d none r.2) st)
    | none=>A.ff "operator") else A.ff "operator"
 | .str a,.str b=>match op with
  | .add=>A.and (A.scat a b).1 (k (.str (A.scat a b).2) st)
  | op=>qu6 st (A.ff "operator") (A.scmp op a b) k
 | _,_=>A.ff "operator"
def zma (A:Alg I B S Pr L K) (C:Cfg I B S Pr L) (op:BinOp) (t:TypeId) (x y:P I B S Pr L) (st:St I B S Pr L) (k:P I B S Pr L->St I B S Pr L->Pr):Pr:=
 match op with
 | .eql=>zh0 A C.E false t x y st k
 | .neq=>zh0 A C.E true t x y st k
 | .shl=>A.ff "operator"
 | .shr=>A.ff "operator"
 | op=>q7p A op x y st k
def unP (A:Alg I B S Pr L K) (op:UnOp) (x:P I B S Pr L) (st:St I B S Pr L) (k:P I B S Pr L->St I B S Pr L->Pr):Pr:=
 match op,x with
 | .neg,.int a _ n=>let r:=A.ineg a n;A.and r.1 (k (.int a none r.2) st)
 | .not,.lit b=>k (.lit !b) st
 | .not,.sb id neg b c d=>k (.sb id (!neg) (A.bnot b) d c) st
 | _,_=>A.ff "operator"
def qd6 (st:St I B S Pr L):P I B S Pr L->Bool
 | .nils=>true
 | .list _ _ (some (i,s))=>match look st.owns i with
  | some a=>Nat.beq s a
  | none=>false
 | _=>false
def zfj:P I B S Pr L->Bool
 | .nils=>true
 | .list _ _ (some (_,s))=>Nat.beq (s % 2) 1
 | _=>false
def quw (A:Alg I B S Pr L K) (st:St I B S Pr L):SK->P I B S Pr L->Option (List (N I B S L))
 | .int k,.int a _ n=>if k=a then some [.i n] else none
 | .bool,.lit b=>some [.b (A.blit b)]
 | .bool,.sb _ _ b _ _=>some [.b b]
 | .str,.str s=>some [.s s]
 | .list c own d,p=>if (own&&!qd6 st p) || (d&&!zfj p) then none else (asL A c p).map λl=>[.l c l]
 | .keep,_=>some []
 | _,_=>none
def qmx (A:Alg I B S Pr L K) (st:St I B S Pr L):List SK->List (P I B S Pr L)->Option (List (N I B S L))
 | [],[]=>some []
 | k::ks,p::ps=>(quw A st k p).bind λa=>(qmx A st ks ps).map λr=>a++r
 | _,_=>none
def qpv (A:Alg I B S Pr L K) (st:St I B S Pr L):List Sh->List (P I B S Pr L)->Option (List (N I B S L))
 | [],[]=>some []
 | .one k::ks,p::ps=>(quw A st k p).bind λa=>(qpv A st ks ps).map λr=>a++r
 | .agg l::ks,.agg cs::ps=>(qmx A st l cs).bind λa=>(qpv A st ks ps).map λr=>a++r
 | _,_=>none
def fnP (A:Alg I B S Pr L K) (st:St I B S Pr L) (g:Nat) (args:List (P I B S Pr L)):Option (Pr×P I B S Pr L):=
 (A.fn g).bind λct=>(qpv A st ct.1 args).bind ct.2
def qqt (A:Alg I B S Pr L K) (c:Nat) (s:P I B S Pr L) (x:L c) (st:St I B S Pr L) (k:P I B S Pr L->St I B S Pr L->Pr):Option Pr:=
 match s with
 | .plist _ 0 true _=>some (let r:=A.lcat c (A.lof c []) x
   A.and r.1 (A.and (A.imp (A.leI (A.ilit 1) (A.llen c x)) (k (.mlist st.next c false (A.llen c x)) {st with cells:=(st.next,.ml c x)::st.cells,next:=st.next+1}))
    (A.imp (A.leI (A.llen c x) (A.ilit 0)) (k (.list c (A.lof c []) none) st))))
 | .mlist id a true n=>some (match qp2 st.cells id c with
   | some l=>if Nat.beq a c then (let r:=A.lcat c l x
     A.and (A.eqI n (A.llen c l)) (A.and r.1 (A.and (A.imp (A.leI (A.ilit 1) (A.llen c x)) (k (.mlist st.next c false (A.llen c r.2)) {st with cells:=(st.next,.ml c r.2)::qa1 st.cells id,next:=st.next+1}))
      (A.imp (A.leI (A.llen c x) (A.ilit 0)) (k s st))))) else A.ff "append"
   | none=>A.ff "append")
 | _=>none
def qlk (A:Alg I B S Pr L K) (c:Nat) (s:P I B S Pr L) (x:L c) (st:St I B S Pr L) (k:P I B S Pr L->St I B S Pr L->Pr):Pr:=
 match qqt A c s x st k with
 | some r=>r
 | none=>
 if !qd6 st s then A.ff "append to what is not one's own" else
 match asL A c s with
 | none=>A.ff "append"
 | some l=>let r:=A.lcat c l x
  match s with
  | .list _ _ (some (i,g))=>A.and r.1 (k (.list c r.2 (some (i,g+2))) {st with owns:=qez st.owns i (g+2)})
  | _=>A.and r.1 (k (.list c r.2 (some (st.next,1))) {st with owns:=(st.next,1)::st.owns,next:=st.next+1})
def q53 (A:Alg I B S Pr L K) (c:Nat):List (List (P I B S Pr L))->Option (List Pr×List (K c))
 | []=>some ([],[])
 | x::a=>(A.pack c x).bind λr=>(q53 A c a).map λrs=>(r.1::rs.1,r.2::rs.2)
def zbv (A:Alg I B S Pr L K):List Pr->Pr->Pr
 | [],p=>p
 | q::l,p=>A.and q (zbv A l p)
def chunks (sz:Nat):Nat->List (P I B S Pr L)->List (List (P I B S Pr L))
 | 0,_=>[]
 | n+1,l=>l.take sz::chunks sz n (l.drop sz)
def zfs (A:Alg I B S Pr L K) (C:Cfg I B S Pr L) (st:St I B S Pr L):Option Operand->Option (Option I)
 | none=>some none
 | some x=>match jj A C st x with
  | some (.int _ _ n)=>some (some n)
  | _=>none
def qh0 (next:Nat):P I B S Pr L->P I B S Pr L
 | .list c l (some (i,_))=>.list c l (some (next+i,0))
 | p=>p
def qbs:List (P I B S Pr L)->List Nat
 | []=>[]
 | .list _ _ (some (i,_))::ps=>i::qbs ps
 | _::ps=>qbs ps
def P.parts:P I B S Pr L->List (P I B S Pr L)
 | .tuple l=>l
 | p=>[p]
def P.flat:P I B S Pr L->List (P I B S Pr L)
 | .tuple l=>l.flatMap P.cellsOf
 | p=>p.cellsOf
def qia (f:P I B S Pr L->P I B S Pr L):P I B S Pr L->P I B S Pr L
 | .tuple l=>.tuple (l.map λp=>match p with
  | .agg cs=>.agg (cs.map f)
  | p=>f p)
 | .agg cs=>.agg (cs.map f)
 | p=>f p
def distinct:List Nat->Bool
 | []=>true
 | i::l=>!(l.any λj=>Nat.beq i j)&&distinct l
def jy:List (P I B S Pr L)->Nat->List (P I B S Pr L)×Nat
 | [],n=>([],n)
 | .agg cs::ps,n=>match qbw cs n with
  | (ds,m)=>match jy ps m with
   | (a,m)=>(.agg ds::a,m)
 | .sb 0 neg b c d::ps,n=>match jy ps (n+1) with
  | (a,m)=>(.sb n neg b c d::a,m)
 | p::ps,n=>match jy ps n with
  | (a,m)=>(p::a,m)
def qb5 (st:St I B S Pr L) (r:P I B S Pr L):P I B S Pr L×St I B S Pr L:=
 let c:=qbs r.flat
 let m:=c.foldl (λa i=>max a (i+1)) 0;let d:=qia (qh0 st.next) r;let b:={st with next:=st.next+m,owns:=c.map (λi=>(st.next+i,0))++st.owns}
 match d with
 | .tuple l=>match jy l b.next with
  | (e,n)=>(.tuple e,{b with next:=n})
 | p=>qdm p b
abbrev Inl (I B S a:Type) (L:Nat->Type):=Tgt->List (P I B S a L)->St I B S a L->(P I B S a L->St I B S a L->a)->a
def q4z (A:Alg I B S Pr L K) (inl:Inl I B S Pr L) (f:P I B S Pr L) (args:List (P I B S Pr L)) (st:St I B S Pr L) (k:P I B S Pr L->St I B S Pr L->Pr):Pr:=
 match f with
 | .func g first cap=>match fnP A st g (first++args++cap) with
  | some (a,r)=>if distinct (qbs r.flat) then (let x:=qb5 st r;A.and a (k x.1 x.2)) else A.ff "contract"
  | none=>inl (.func g) (first++args++cap) st k
 | .yield id=>inl (.round id) args st k
 | _=>A.ff "call"
def qiu (A:Alg I B S Pr L K) (C:Cfg I B S Pr L) (b:Builtin) (g:List TypeId) (args:List (P I B S Pr L)) (st:St I B S Pr L) (k:P I B S Pr L->St I B S Pr L->Pr):Pr:=
 match b,args,g with
 | .len,[x],[t]=>match C.E.types t with
  | some ti=>match ti.under,x with
   | .array n _,_=>k (.int .i64 (some n) (A.ilit n)) st
   | .string,.str s=>k (.int .i64 none (A.slen s)) st
   | .slice _,.nils=>k (.int .i64 (some 0) (A.ilit 0)) st
   | .slice _,.list c l _=>k (.int .i64 none (A.llen c l)) st
   | .slice _,.mlist _ _ _ n=>k (.int .i64 none n) st
   | .slice _,.plist _ n _ _=>k (.int .i64 (some n) (A.ilit n)) st
   | _,_=>A.ff "len"
  | none=>A.ff "len"
 | .append,[s,x],[t,u]=>match C.E.types t,C.E.types u with
  | some ti,some o=>match ti.under,o.under with
   | .slice e,.slice _=>match C.codec e,C.E.types e with
    | some c,some d=>if Nat.ble d.bytes 1024&&!Nat.beq d.size 0 then (match asL A c x with
     | some l=>qlk A c s l st k
     | none=>A.ff "append") else A.ff "append"
    | none,some d=>(match s,x with
     | .plist h n true cs,.plist i m _ f=>if Nat.beq h i&&Nat.beq h d.size&&Nat.blt 0 m&&Nat.ble d.bytes 1024&&Nat.ble (n+m) 100000&&f.all qae then k (.plist h (n+m) false (cs++f)) {st with owns:=(st.next,0)::st.owns,next:=st.next+1} else A.ff "append"
     | _,_=>A.ff "append")
    | _,_=>A.ff "append"
   | .slice e,.string=>match C.codec e,C.E.types e,x with
    | some 0,some d,.str y=>if Nat.ble d.bytes 1024&&Nat.beq d.size 1 then qlk A 0 s (A.sbytes y) st k else A.ff "append"
    | _,_,_=>A.ff "append"
   | _,_=>A.ff "append"
  | _,_=>A.ff "append"
 | .max,[.int j _ a,.int _ _ b],_=>k (.int j none (A.ibest true a b)) st
 | .min,[.int j _ a,.int _ _ b],_=>k (.int j none (A.ibest false a b)) st
 | _,_,_=>A.ff "builtin"
def onS {α:Type} (bad:Pr) (o:Option α) (k:α->Pr):Pr:=
 match o with
 | some a=>k a
 | none=>bad
def fieldPlace (E:Env) (a:Array Field) (i:Nat):Option (Nat×Nat):=(a[i]?).bind λf=>(E.types f.type).map λfi=>(f.offset,fi.size)
def q7r (A:Alg I B S Pr L K) (E:Env) (ti:TI) (parts:List Nat) (vs:List (P I B S Pr L)) (st:St I B S Pr L) (k:P I B S Pr L->St I B S Pr L->Pr):Pr:=
 onS (A.ff "build") (zeroCells A ti) λz=>match ti.under with
  | .struct a=>if a.toList.all (λf=>(E.types f.type).isSome) then onS (A.ff "build") (qxu (fieldPlace E a) z (parts.zip vs)) λcs=>k (.agg cs) st else A.ff "build"
  | .array _ e=>onS (A.ff "build") (E.types e) λb=>onS (A.ff "build") (qxu (λi=>some (i * b.size,b.size)) z (parts.zip vs)) λcs=>k (.agg cs) st
  | _=>A.ff "build"
def zgk (A:Alg I B S Pr L K) (C:Cfg I B S Pr L) (ti:TI) (p:P I B S Pr L) (lo hi:Option I) (st:St I B S Pr L) (k:P I B S Pr L->St I B S Pr L->Pr):Pr:=
 match ti.under,p with
 | .string,.str s=>A.and (A.ssub s lo hi).1 (k (.str (A.ssub s lo hi).2) st)
 | .slice e,p=>onS (A.ff "slice") (C.codec e) λc=>onS (A.ff "slice") (C.E.types e) λ_=>onS (A.ff "slice") (asL A c p) λl=>A.and (A.lsub c l lo hi).1 (k (.list c (A.lsub c l lo hi).2 none) st)
 | _,_=>A.ff "slice"
def zae (A:Alg I B S Pr L K) (C:Cfg I B S Pr L) (ti:TI) (p i:P I B S Pr L) (st:St I B S Pr L) (k:P I B S Pr L->St I B S Pr L->Pr):Pr:=
 match ti.under with
 | .slice e=>(match p with
  | .plist b m _ cs=>onS (A.ff "indexAddr") (C.E.types e) λa=>if Nat.beq a.size b then sel A i m λj=>k (.eptr cs (j * b)) st else A.ff "indexAddr"
  | p=>onS (A.ff "indexAddr") (C.codec e) λc=>onS (A.ff "indexAddr") (C.E.types e) λ_=>match i with
  | .int _ _ n=>(match p with
   | .mlist id d _ m=>if Nat.beq c d then A.and (A.within n m) (k (.mptr id d n m 0) st) else A.ff "indexAddr"
   | p=>onS (A.ff "indexAddr") (asL A c p) λl=>A.and (A.within n (A.llen c l)) (k (.eptr (A.cells c (A.lget c l n)) 0) st))
  | _=>A.ff "indexAddr")
 | .array m e=>onS (A.ff "indexAddr") (C.E.types e) λa=>match p with
  | .cell id off lim=>sel A i m λj=>k (.cell id (off+j * a.size) lim) st
  | .eptr cs off=>sel A i m λj=>k (.eptr cs (off+j * a.size)) st
  | _=>A.ff "indexAddr"
 | _=>A.ff "indexAddr"
def ixP (A:Alg I B S Pr L K) (C:Cfg I B S Pr L) (ti:TI) (p i:P I B S Pr L) (st:St I B S Pr L) (k:P I B S Pr L->St I B S Pr L->Pr):Pr:=
 match ti.under with
 | .string=>match p,i with
  | .str s,.int _ _ n=>A.and (A.within n (A.slen s)) (k (.int .u8 none (A.sget s n)) st)
  | _,_=>A.ff "index"
 | .array m e=>match p with
  | .agg cs=>onS (A.ff "index") (C.E.types e) λa=>sel A i m λj=>onS (A.ff "index") (zay a cs (j * a.size)) λv=>k v st
  | _=>A.ff "index"
 | _=>A.ff "index"
def zlp (A:Alg I B S Pr L K) (C:Cfg I B S Pr L) (ti:TI) (l m:P I B S Pr L) (st:St I B S Pr L) (k:P I B S Pr L->St I B S Pr L->Pr):Pr:=
 match ti.under,l,m with
 | .slice e,.int .i64 _ n,.int .i64 _ b=>onS (A.ff "make") (C.codec e) λc=>onS (A.ff "make") (C.E.types e) λa=>if Nat.ble a.bytes 1024&&!Nat.beq a.size 0 then
   onS (A.ff "make") (zeroCells A a) λz=>onS (A.ff "make") (A.pack c z) λr=>A.and (A.eqI n b) (A.and (A.within n (A.ilit 1000000000)) (A.and r.1
    (k (.mlist st.next c true n) {st with cells:=(st.next,.ml c (A.lrep c r.2 n))::st.cells,next:=st.next+1}))) else A.ff "make"
 | _,_,_=>A.ff "make"
def ze1 (A:Alg I B S Pr L K) (ti:TI) (p:P I B S Pr L) (st:St I B S Pr L) (k:P I B S Pr L->St I B S Pr L->Pr):Pr:=
 match p with
 | .mptr id c i n off=>onS (A.ff "load") (qp2 st.cells id c) λl=>A.and (A.leI n (A.llen c l)) (onS (A.ff "load") (loadAt ti (A.cells c (A.lget c l i)) off) λv=>k (qdm v st).1 (qdm v st).2)
 | p=>onS (A.ff "load") (zak st ti p) λv=>k (qdm v st).1 (qdm v st).2
def q85 (A:Alg I B S Pr L K) (ti:TI) (a x:P I B S Pr L) (st:St I B S Pr L) (k:P I B S Pr L->St I B S Pr L->Pr):Pr:=
 match a with
 | .mptr id c i n off=>onS (A.ff "store") (qp2 st.cells id c) λl=>
   if Nat.beq x.cellsOf.length ti.size&&Nat.ble (off+ti.size) (A.cells c (A.lget c l i)).length&&x.cellsOf.all qae then
    onS (A.ff "store") (A.pack c (qcr (A.cells c (A.lget c l i)) off x.cellsOf)) λr=>A.and (A.leI n (A.llen c l)) (A.and r.1 (k qmm {st with cells:=qez st.cells id (.ml c (A.lset c l i r.2))}))
   else A.ff "store"
 | a=>onS (A.ff "store") (q86 st ti a x) λb=>k qmm b
def q7n:V->Bool
 | .agg _=>true
 | _=>false
def zl8:P I B S Pr L->Bool
 | .agg _=>true
 | _=>false
def qo7 (a:TI):Option Leaf:=
 if a.isAgg then none else match a.under with
 | .int k=>some (.int k)
 | .string=>some .str
 | .bool=>some .bool
 | _=>none
def ze5 (C:Cfg I B S Pr L) (st:St I B S Pr L) (t:TypeId) (id:Nat) (key:P I B S Pr L):Option (MapC L×TI):=
 (C.E.types t).bind λti=>match ti.under with
 | .map c d=>(C.E.types c).bind λe=>(C.E.types d).bind λa=>(qo7 e).bind λb=>(qye st.cells id).bind λm=>
   if qot m.lf b&&(m.va == a.isAgg)&&(q7n a.zero == a.isAgg)&&tiled [b] [key] then some (m,a) else none
 | _=>none
def qwi (A:Alg I B S Pr L K) (C:Cfg I B S Pr L) (t:TypeId) (ok:Bool) (m key:P I B S Pr L) (st:St I B S Pr L) (k:P I B S Pr L->St I B S Pr L->Pr):Pr:=
 match m with
 | .map id=>onS (A.ff "map") (ze5 C st t id key) λ(a,b)=>onS (A.ff "map") (zeroCells A b) λz=>onS (A.ff "map") (A.pack a.c (key::z)) λr=>A.and r.1
   (let cs:=(A.cells a.c (A.mget a.c 1 a.l r.2)).drop 1
    onS (A.ff "map") (if a.va then some (.agg cs) else if Nat.beq cs.length 1 then cs[0]? else none) λv=>
    let x:=qdm v st
    if ok then (let y:=q55 x.2 (A.mhas a.c 1 a.l r.2,A.braw (A.mhas a.c 1 a.l r.2));k (.tuple [x.1,y.1]) y.2) else k x.1 x.2)
 | _=>A.ff "map"
def qsc (A:Alg I B S Pr L K) (C:Cfg I B S Pr L) (t:TypeId) (m key x:P I B S Pr L) (st:St I B S Pr L) (k:P I B S Pr L->St I B S Pr L->Pr):Pr:=
 match m with
 | .map id=>onS (A.ff "map") (ze5 C st t id key) λ(a,b)=>if (zl8 x == a.va)&&Nat.beq x.cellsOf.length b.size&&x.cellsOf.all qae then
   onS (A.ff "map") (A.pack a.c (key::x.cellsOf)) λr=>A.and r.1 (k qmm {st with cells:=qez st.cells id (.mp a.c a.lf a.va (A.mput a.c 1 a.l r.2))}) else A.ff "map"
 | _=>A.ff "map"
def zfc (A:Alg I B S Pr L K) (p:P I B S Pr L) (st:St I B S Pr L) (k:P I B S Pr L->St I B S Pr L->Pr):Pr:=
 match p with
 | .cell id 0 _=>onS (A.ff "next") (q3d st.cells id) λ(s,n)=>onS (A.ff "next") (A.icmp .lss n (A.slen s)) λc=>
   A.and (A.imp c.2.1 (k (.tuple [.lit true,.int .i64 none n,.int .i32 none (A.srune s n)]) {st with cells:=qez st.cells id (.si s (A.snext s n))}))
    (A.imp c.2.2 (k (.tuple [.lit false]) st))
 | _=>A.ff "next"
def q2e (A:Alg I B S Pr L K) (t:TypeId) (ti:TI) (p:P I B S Pr L) (st:St I B S Pr L) (k:P I B S Pr L->St I B S Pr L->Pr):Pr:=
 match p with
 | .nili=>onS (A.ff "typeAssert") (qlo A ti.zero) λz=>k (.tuple [z,.lit false]) st
 | .iface u q=>if Nat.beq u t then k (.tuple [q,.lit true]) st else onS (A.ff "typeAssert") (qlo A ti.zero) λz=>k (.tuple [z,.lit false]) st
 | _=>A.ff "typeAssert"
def qba (A:Alg I B S Pr L K) (C:Cfg I B S Pr L) (inl:Inl I B S Pr L) (o:Oper) (st:St I B S Pr L) (k:P I B S Pr L->St I B S Pr L->Pr):Pr:=
 match o.op with
 | .move x=>onS (A.ff "operand") (jj A C st x) λp=>k p st
 | .assign x=>onS (A.ff "operand") (jj A C st x) λp=>k p st
 | .pick c a b=>onS (A.ff "operand") (jj A C st c) λc=>br A st c λv h=>onS (A.ff "operand") (jj A C h (if v then a else b)) λp=>k p h
 | .alloc e=>onS (A.ff "type") (C.E.types e) λti=>onS (A.ff "alloc") (zeroCells A ti) λcs=>k (.cell st.next 0 cs.length) {st with cells:=(st.next,.cs (some e) cs)::st.cells,next:=st.next+1}
 | .box t x=>onS (A.ff "operand") (jj A C st x) λp=>if p.cellsOf.all qae then k (.cell st.next 0 p.cellsOf.length) {st with cells:=(st.next,.cs (some t) p.cellsOf)::st.cells,next:=st.next+1} else A.ff "box"
 | .build t parts=>onS (A.ff "type") (C.E.types t) λti=>onS (A.ff "operand") (qey A C st (parts.toList.map (·.2))) λvs=>q7r A C.E ti (parts.toList.map (·.1)) vs st k
 | .buildSlice t len parts=>onS (A.ff "type") (C.E.types t) λti=>onS (A.ff "operand") (qey A C st (parts.toList.map (·.2))) λvs=>match ti.under with
  | .slice e=>onS (A.ff "type") (C.E.types e) λg=>onS (A.ff "buildSlice") (zeroCells A g) λz=>
    if Nat.ble (len * g.size) 16777216 then
     onS (A.ff "buildSlice") (qxu (λi=>some (i * g.size,g.size)) (List.replicate len z).flatten ((parts.toList.map (·.1)).zip vs)) λcells=>match (if C.born t&&Nat.beq len 0 then none else C.codec e) with
      | some c=>onS (A.ff "buildSlice") (q53 A c (chunks g.size len cells)) λr=>
       zbv A r.1 (if C.born t then (if Nat.beq cells.length (len * g.size) then k (.mlist st.next c true (A.ilit len)) {st with cells:=(st.next,.ml c (A.lof c r.2))::st.cells,next:=st.next+1} else A.ff "buildSlice") else k (.list c (A.lof c r.2) (some (st.next,0))) {st with owns:=(st.next,0)::st.owns,next:=st.next+1})
      | none=>if Nat.blt 0 g.size&&Nat.beq cells.length (len * g.size) then k (.plist g.size len true cells) {st with owns:=(st.next,0)::st.owns,next:=st.next+1} else A.ff "buildSlice"
    else A.ff "buildSlice"
  | _=>A.ff "buildSlice"
 | .load t x=>onS (A.ff "type") (C.E.types t) λti=>onS (A.ff "operand") (jj A C st x) λp=>ze1 A ti p st k
 | .store t a x=>onS (A.ff "type") (C.E.types t) λti=>onS (A.ff "operand") (jj A C st a) λa=>onS (A.ff "operand") (jj A C st x) λx=>q85 A ti a x st k
 | .nilCheck x=>onS (A.ff "operand") (jj A C st x) λp=>match p with
  | .cell ..=>k p st
  | .eptr ..=>k p st
  | .func ..=>k p st
  | .yield ..=>k p st
  | _=>A.ff "nilCheck"
 | .binOp op t x y _=>onS (A.ff "operand") (jj A C st x) λa=>onS (A.ff "operand") (jj A C st y) λb=>zma A C op t a b st k
 | .unOp op _ x=>onS (A.ff "operand") (jj A C st x) λa=>unP A op a st k
 | .makeInterface t x=>onS (A.ff "type") (C.E.types t) λti=>onS (A.ff "operand") (jj A C st x) λp=>match ti.under with
  | .interface _=>A.ff "makeInterface"
  | _=>k (.iface t p) st
 | .makeFunc (.func f) first d=>onS (A.ff "operand") (qey A C st first.toList) λa=>onS (A.ff "operand") (qey A C st d.toList) λc=>k (.func f a c) st
 | .makeSlice t l m=>onS (A.ff "type") (C.E.types t) λti=>onS (A.ff "operand") (jj A C st l) λl=>onS (A.ff "operand") (jj A C st m) λm=>zlp A C ti l m st k
 | .slice t x lo hi none=>onS (A.ff "type") (C.E.types t) λti=>onS (A.ff "operand") (jj A C st x) λp=>onS (A.ff "operand") (zfs A C st lo) λlo=>onS (A.ff "operand") (zfs A C st hi) λhi=>zgk A C ti p lo hi st k
 | .makeMap t none=>onS (A.ff "type") (C.E.types t) λti=>match ti.under with
  | .map q u=>onS (A.ff "type") (C.E.types q) λw=>onS (A.ff "type") (C.E.types u) λg=>onS (A.ff "map") (C.mcod t) λc=>onS (A.ff "map") (qo7 w) λD=>
    k (.map st.next) {st with cells:=(st.next,.mp c D g.isAgg (A.lof c []))::st.cells,next:=st.next+1}
  | _=>A.ff "map"
 | .range t x=>onS (A.ff "type") (C.E.types t) λti=>onS (A.ff "operand") (jj A C st x) λp=>match ti.under,p with
  | .string,.str s=>k (.cell st.next 0 0) {st with cells:=(st.next,.si s (A.ilit 0))::st.cells,next:=st.next+1}
  | _,_=>A.ff "range"
 | .next x true=>onS (A.ff "operand") (jj A C st x) λp=>zfc A p st k
 | .lookup t m x ok=>onS (A.ff "operand") (jj A C st m) λm=>onS (A.ff "operand") (jj A C st x) λx=>qwi A C t ok m x st k
 | .mapUpdate t m x y=>onS (A.ff "operand") (jj A C st m) λm=>onS (A.ff "operand") (jj A C st x) λx=>onS (A.ff "operand") (jj A C st y) λy=>qsc A C t m x y st k
 | .insert t m x y=>onS (A.ff "operand") (jj A C st m) λm=>onS (A.ff "operand") (jj A C st x) λx=>onS (A.ff "operand") (jj A C st y) λy=>qsc A C t m x y st k
 | .fieldAddr s x j=>onS (A.ff "type") (C.E.types s) λti=>onS (A.ff "fieldAddr") (qc1 ti j) λf=>onS (A.ff "type") (C.E.types f.type) λfi=>if Nat.beq fi.size 0 then A.ff "fieldAddr" else onS (A.ff "operand") (jj A C st x) λp=>match p with
  | .cell id off lim=>k (.cell id (off+f.offset) lim) st
  | .eptr cs off=>k (.eptr cs (off+f.offset)) st
  | .mptr id c i n off=>k (.mptr id c i n (off+f.offset)) st
  | _=>A.ff "fieldAddr"
 | .field t x j=>onS (A.ff "type") (C.E.types t) λti=>onS (A.ff "field") (qc1 ti j) λf=>onS (A.ff "type") (C.E.types f.type) λfi=>onS (A.ff "operand") (jj A C st x) λp=>match p with
  | .agg cs=>onS (A.ff "field") (zay fi cs f.offset) λv=>k v st
  | _=>A.ff "field"
 | .indexAddr t x i=>onS (A.ff "type") (C.E.types t) λti=>onS (A.ff "operand") (jj A C st x) λp=>onS (A.ff "operand") (jj A C st i) λi=>zae A C ti p i st k
 | .index t x i=>onS (A.ff "type") (C.E.types t) λti=>onS (A.ff "operand") (jj A C st x) λp=>onS (A.ff "operand") (jj A C st i) λi=>ixP A C ti p i st k
 | .typeAssert x _ t true=>onS (A.ff "type") (C.E.types t) λti=>onS (A.ff "operand") (jj A C st x) λp=>match ti.under with
  | .interface _=>A.ff "typeAssert"
  | _=>q2e A t ti p st k
 | .extract x i=>onS (A.ff "operand") (jj A C st x) λp=>match p with
  | .tuple vs=>onS (A.ff "extract") vs[i]? λv=>k v st
  | _=>A.ff "extract"
 | .call c=>onS (A.ff "operand") (qey A C st c.args.toList) λargs=>match c.callee with
  | .value f=>onS (A.ff "operand") (jj A C st f) λf=>q4z A inl f args st k
  | .builtin b=>qiu A C b c.argTypes.toList args st k
  | .invoke ..=>A.ff "invoke"
 | _=>A.ff "operation"
def zbk (A:Alg I B S Pr L K) (o:Oper) (all:Array Oper) (st:St I B S Pr L) (k:Bool->St I B S Pr L->Pr):Pr:=
 match o.guard with
 | none=>k true st
 | some (j,a)=>match (all[j]?).bind (·.dst) with
  | none=>k false st
  | some d=>match st.tmps.get d with
   | some (.lit b)=>k (b == a) st
   | some (.sb id neg b e f)=>br A st (.sb id neg b e f) λv c=>k (v == a) c
   | some (.tuple [])=>k false st
   | _=>A.ff "guard"
def qrv (op:Op):Bool:=match op with | .defer _=>true | _=>false
def wpOps (A:Alg I B S Pr L K) (C:Cfg I B S Pr L) (inl:Inl I B S Pr L) (all:Array Oper):List Oper->St I B S Pr L->(St I B S Pr L->Pr)->Pr
 | [],st,k=>k st
 | o::l,st,k=>if qrv o.op then A.ff "defer" else zbk A o all st λw a=>
  if w then qba A C inl o a λp st2=>wpOps A C inl all l (st2.put o.dst p) k
  else wpOps A C inl all l (a.put o.dst qmm) k
def zdj:P I B S Pr L->Bool
 | .func _ [] [] | .nilf=>true
 | _=>false
def q4p (A:Alg I B S Pr L K):P I B S Pr L->Option (P I B S Pr L)
 | .int k l n=>some (.int k l n)
 | .lit b=>some (.lit b)
 | .sb _ _ b _ _=>some (.sb 0 false b (A.braw b).1 (A.braw b).2)
 | .str s=>some (.str s)
 | .list c l _=>some (.list c l none)
 | .func f [] []=>some (.func f [] [])
 | .nilf=>some .nilf
 | .nils=>some .nils
 | .plist a n fx cs=>if cs.all zdj then some (.plist a n fx cs) else none
 | _=>none
def q4r (A:Alg I B S Pr L K):List (P I B S Pr L)->Option (List (P I B S Pr L))
 | []=>some []
 | p::ps=>(q4p A p).bind λq=>(q4r A ps).map λa=>q::a
def bare (A:Alg I B S Pr L K):P I B S Pr L->Option (P I B S Pr L)
 | .agg cs=>(q4r A cs).map .agg
 | p=>q4p A p
def qw2 (A:Alg I B S Pr L K):List (P I B S Pr L)->Option (List (P I B S Pr L))
 | []=>some []
 | p::ps=>(bare A p).bind λq=>(qw2 A ps).map λa=>q::a
def zdk (A:Alg I B S Pr L K):P I B S Pr L->Option (P I B S Pr L)
 | .tuple l=>(qw2 A l).map .tuple
 | p=>bare A p
def q3v (A:Alg I B S Pr L K) (inl:Inl I B S Pr L):Inl I B S Pr L:=λt args st k=>
 match t with
 | .func g=>match qw2 A args with
  | some b=>inl (.func g) (jy b 1).1 {tmps:=.nil,n:=0,cells:=[],owns:=[],next:=(jy b 1).2,known:=[]} λp a=>match p with
   | .mlist id c fx n=>onS (A.ff "value") (qp2 a.cells id c) λl=>k (.mlist st.next c fx n) {st with cells:=(st.next,.ml c l)::st.cells,next:=st.next+1}
   | p=>match zdk A p with
    | some r=>k (qb5 st r).1 (qb5 st r).2
    | none=>A.ff "value"
  | none=>A.ff "value"
 | .round _=>A.ff "round"
inductive Src where
 | any
 | calm
 | own (j:Nat)
inductive FP3 where
 | none
 | read (id:Nat)
 | write (id:Nat)
 | stable (l:List Src)
 | call (calm:Bool)
 | lone
 | grow
def FP3.vid:FP3->Option Nat
 | .read i=>some i
 | .write i=>some i
 | _=>Option.none
structure Done3 where
 i:Nat
 fp:FP3
 makes:Bool
def makes (op:Op):Bool:=
 match op with
 | .alloc _ | .box .. | .buildSlice .. | .makeSlice .. | .makeMap .. | .range ..=>true
 | .call c=>match c.callee with
  | .builtin .append=>true
  | .builtin _=>false
  | _=>true
 | _=>false
def elemAt (st:St I B S Pr L) (t:Nat):Bool:=
 match st.tmps.get t with
 | some (.eptr ..)=>true
 | some (.list ..)=>true
 | some (.plist ..)=>true
 | _=>false
structure Dirt where
 dirty:List Nat
 fresh:List (Nat×Nat×Bool)
def qgu (g:Dirt) (st:St I B S Pr L):Op->Bool
 | .move (.tmp t)=>!g.dirty.any (Nat.beq t)&&elemAt st t
 | .indexAddr _ (.tmp t) _=>!g.dirty.any (Nat.beq t)&&elemAt st t
 | .fieldAddr _ (.tmp t) _=>!g.dirty.any (Nat.beq t)&&elemAt st t
 | _=>false
def qh7 (g:Dirt) (st:St I B S Pr L) (i:Nat):Op->Option (Nat×Bool)
 | .buildSlice ..=>some (i,true)
 | .move (.tmp t)=>look g.fresh t
 | .indexAddr _ (.tmp t) _=>if elemAt st t then (look g.fresh t).map λx=>(x.1,false) else none
 | .fieldAddr _ (.tmp t) _=>if elemAt st t then (look g.fresh t).map λx=>(x.1,false) else none
 | _=>none
def qap (g:Dirt) (st:St I B S Pr L) (i:Nat) (o:Oper):Option (Nat×Bool):=
 match o.dst with
 | some d=>if Nat.blt d st.n then qh7 g st i o.op else none
 | none=>none
def q84 (g:Dirt) (calm:Bool) (fr:Option (Nat×Bool)):Option Nat->Dirt
 | some d=>⟨if calm then g.dirty else d::g.dirty,match fr with
  | some x=>(d,x.1,x.2)::qa1 g.fresh d
  | none=>qa1 g.fresh d⟩
 | none=>g
def zjs (g:Dirt) (t:Nat):Src:=
 if !g.dirty.any (Nat.beq t) then .calm else match look g.fresh t with
  | some (j,_)=>.own j
  | none=>.any
def qy5 (g:Dirt):Operand->List Src
 | .tmp t=>[zjs g t]
 | _=>[]
def qqs (A:Alg I B S Pr L K) (C:Cfg I B S Pr L) (st:St I B S Pr L) (x y:Operand):Bool:=
 match jj A C st x with
 | some (.plist _ 0 true _)=>match jj A C st y with
  | some (.list ..)=>false
  | some .nils=>false
  | _=>true
 | some (.plist ..)=>true
 | some (.mlist ..)=>true
 | _=>false
def qx5 (A:Alg I B S Pr L K) (C:Cfg I B S Pr L) (g:Dirt) (st:St I B S Pr L) (x:Operand):Bool:=
 match jj A C st x with
 | some .nils=>true
 | some (.plist _ 0 true _)=>true
 | some (.list ..)=>(match x with
  | .tmp t=>(match look g.fresh t with
   | some (_,w)=>w
   | none=>false)
  | _=>false)
 | _=>false
def qrp (A:Alg I B S Pr L K) (C:Cfg I B S Pr L) (g:Dirt) (st:St I B S Pr L) (x:Operand):Bool:=
 match jj A C st x with
 | some (.int ..) | some (.str _) | some (.lit _) | some (.sb ..) | some .nils=>true
 | some (.list ..)=>(match x with
  | .tmp t=>!g.dirty.any (Nat.beq t)
  | _=>false)
 | _=>false
def fp3 (A:Alg I B S Pr L K) (C:Cfg I B S Pr L) (all:Array Oper) (b:Array Nat) (i:Nat) (o:Oper) (a:Dirt) (st:St I B S Pr L):Option FP3:=
 if !js C.E o.op then (match o.op with
  | .slice _ x _ _ _=>(match jj A C st x with
   | some (.mlist ..)=>none
   | _=>some .none)
  | _=>some .none) else
 match o.op with
 | .load _ (.tmp t)=>match st.tmps.get t with
  | some (.cell id _ _)=>some (.read id)
  | some (.mptr id ..)=>some (.read id)
  | some (.eptr ..)=>some (.stable [zjs a t])
  | _=>none
 | .load _ (.global _)=>some (.stable [.calm])
 | .indexAddr _ (.global _) i=>match jj A C st i with
  | some (.int ..)=>if (qh8 i).isEmpty then some (.stable [.calm]) else none
  | _=>none
 | .store _ (.tmp t) x=>match st.tmps.get t with
  | some (.cell id _ _)=>if (qh8 x).isEmpty then some (.write id) else none
  | some (.mptr id ..)=>if (qh8 x).isEmpty then some (.write id) else none
  | _=>none
 | .lookup _ (.tmp t) x _=>match st.tmps.get t with
  | some (.map id)=>if (qh8 x).isEmpty then some (.read id) else none
  | _=>none
 | .mapUpdate _ (.tmp t) x y=>match st.tmps.get t with
  | some (.map id)=>if (qh8 x).isEmpty&&(qh8 y).isEmpty then some (.write id) else none
  | _=>none
 | .insert _ (.tmp t) x y=>match st.tmps.get t with
  | some (.map id)=>if (qh8 x).isEmpty&&(qh8 y).isEmpty then some (.write id) else none
  | _=>none
 | .call c=>match c.callee with
  | .value f=>if qjc C.E all b i then some .lone else match jj A C st f,qey A C st c.args.toList with
   | some (.func g first cap),some args=>if (fnP A st g (first++args++cap)).isSome || (qw2 A (first++args++cap)).isSome then some (.call (first.isEmpty&&cap.isEmpty&&c.args.toList.all (qrp A C a st))) else none
   | _,_=>none
  | .builtin .append=>(match c.args.toList with
   | [x,y]=>if qqs A C st x y then none else if qx5 A C a st x then some (.stable (qy5 a x++qy5 a y)) else if qjc C.E all b i then some .lone else some .grow
   | _=>none)
  | _=>none
 | _=>none
def goes (i:Nat):FP3->FP3->Bool
 | .none,_=>true
 | .read _,.none=>true
 | .read _,.read _=>true
 | .read _,.stable _=>true
 | .read _,.call _=>true
 | .read _,.grow=>true
 | .read i,.write j=>!Nat.beq i j
 | .read _,.lone=>false
 | .stable _,.lone=>false
 | .stable _,.grow=>false
 | .stable _,_=>true
 | .write _,.none=>true
 | .write i,.read j=>!Nat.beq i j
 | .write i,.write j=>!Nat.beq i j
 | .write _,.stable _=>true
 | .write _,.call _=>false
 | .write _,.grow=>true
 | .write _,.lone=>false
 | .call _,.none=>true
 | .call _,.read _=>true
 | .call _,.stable _=>true
 | .call _,.call _=>true
 | .call _,.write _=>false
 | .call _,.lone=>false
 | .call _,.grow=>false
 | .grow,.none=>true
 | .grow,.read _=>true
 | .grow,.write _=>true
 | .grow,_=>false
 | .lone,.none=>true
 | .lone,.stable l=>l.all λs=>match s with
  | .own j=>Nat.blt i j
  | _=>false
 | .lone,_=>false
def fits (old i:Nat):FP3->Bool
 | .none=>true
 | .read j=>Nat.blt j old
 | .write j=>Nat.blt j old
 | .stable l=>l.all λs=>match s with
  | .calm=>true
  | .own j=>!Nat.beq j i
  | .any=>false
 | .call c=>c
 | .lone=>false
 | .grow=>false
def qis (old:Nat) (d:Done3) (fp:FP3):Bool:=goes d.i d.fp fp&&(!d.makes || fits old d.i fp)
def zeo (A:Alg I B S Pr L K) (inl:Inl I B S Pr L):FP3->Inl I B S Pr L
 | .call _=>q3v A inl
 | _=>inl
def q3a (fp:FP3) (done:List Done3) (st:St I B S Pr L):Bool:=
 (⟨0,fp,false⟩::done).all λd=>match d.fp.vid with
   | some id=>(look st.cells id).isSome
   | none=>true
def qzi (A:Alg I B S Pr L K) (C:Cfg I B S Pr L) (inl:Inl I B S Pr L) (all:Array Oper) (b:Array Nat) (old:Nat):Nat->List Oper->Dirt->List Done3->St I B S Pr L->(St I B S Pr L->Pr)->Pr
 | _,[],_,_,st,k=>k st
 | i,o::l,c,done,st,k=>if qrv o.op then A.ff "defer" else zbk A o all st λw a=>
  if w then (match fp3 A C all b i o c a with
   | some fp=>if (done.filter λd=>!(b.getD i 0).testBit d.i).all (λd=>qis old d fp) then
     qba A C (zeo A inl fp) o a λp st2=>if q3a fp done st2 then qzi A C inl all b old (i+1) l (q84 c (qgu c a o.op) (qap c a i o) o.dst) (⟨i,fp,makes o.op⟩::done) (st2.put o.dst p) k else A.ff "frozen"
    else A.ff "order"
   | none=>A.ff "footprint")
  else qzi A C inl all b old (i+1) l (q84 c false none o.dst) (⟨i,.none,false⟩::done) (a.put o.dst qmm) k
def qdy:Code->List Nat
 | .region _ ops _=>ops.toList.filterMap (·.dst)
 | .seq a b=>qdy a++qdy b
 | .cond _ a b=>qdy a++qdy b
 | .block _ a | .loop a | .scope a=>qdy a
 | .rangeFunc _ ps a b=>ps.toList++qdy a++qdy b
 | _=>[]
def qty {α:Type}:List Nat->Tree α->Tree α
 | [],t=>t
 | n::l,t=>qty l (t.del n)
inductive RSlot where
 | one (t:Nat) (k:SK)
 | agg (t:Nat) (ks:List SK)
 | var (id:Nat) (ks:List SK)
 | ml (id c:Nat)
 | it (id c:Nat) (lf:Leaf) (va:Bool)
def zpl:List (Nat×Cont I B S Pr L)->Nat->Option (LRec I B S Pr L)
 | [],_=>none
 | (_,.lp r)::_,0=>some r
 | (_,.lp _)::l,n+1=>zpl l n
 | _::l,n=>zpl l n
def ze4:List (Nat×Cont I B S Pr L)->Option (LRec I B S Pr L)
 | []=>none
 | (_,.lp r)::l=>match ze4 l with
  | some x=>some x
  | none=>some r
 | _::l=>ze4 l
def resolve (st:St I B S Pr L):List Slot->Option (List RSlot)
 | []=>some []
 | .one t k::l=>(resolve st l).map λr=>.one t k::r
 | .agg t ks::l=>(resolve st l).map λr=>.agg t ks::r
 | .via t ks::l=>match st.tmps.get t with
  | some (.cell id _ _)=>(resolve st l).map λr=>.var id ks::r
  | _=>none
 | .cap t i ks::l=>match st.tmps.get t with
  | some (.func _ _ cap)=>match cap[i]? with
   | some (.cell id _ _)=>(resolve st l).map λr=>.var id ks::r
   | _=>none
  | _=>none
 | .elems t a::l=>match st.tmps.get t with
  | some (.mlist id c _ _)=>(resolve st l).map λr=>.ml id c::r
  | some (.list c _ _)=>(resolve st l).map λr=>.one t (.list c false false)::r
  | some .nils=>(resolve st l).map λr=>.one t (.list a false false)::r
  | _=>none
 | .iter t::l=>match st.tmps.get t with
  | some (.map id)=>(qye st.cells id).bind λm=>(resolve st l).map λr=>.it id m.c m.lf m.va::r
  | _=>none
 | .top t ks::l=>match (ze4 st.cells).bind λr=>r.tmps.get t with
  | some (.cell id _ _)=>(resolve st l).map λr=>.var id ks::r
  | _=>none
 | .out j t ks::l=>match (zpl st.cells j).bind λr=>r.tmps.get t with
  | some (.cell id _ _)=>(resolve st l).map λr=>.var id ks::r
  | _=>none
def qbx (st:St I B S Pr L):RSlot->Option (List SK×List (P I B S Pr L))
 | .one t k=>(st.tmps.get t).map λp=>([k],[p])
 | .agg t ks=>match st.tmps.get t with
  | some (.agg cs)=>some (ks,cs)
  | _=>none
 | .var id ks=>(qyd st.cells id).map λcs=>(ks,cs)
 | .ml ..=>none
 | .it ..=>none
def qc5 (A:Alg I B S Pr L K) (st:St I B S Pr L):List RSlot->Option (List (N I B S L))
 | []=>some []
 | .ml id c::l=>(qp2 st.cells id c).bind λx=>(qc5 A st l).map λr=>.l c x::r
 | .it id c b d::l=>(qwh st.cells id c b d).bind λx=>(qc5 A st l).map λr=>.l c x::r
 | s::l=>(qbx st s).bind λx=>(qmx A st x.1 x.2).bind λa=>(qc5 A st l).map λr=>a++r
def qas:List SK->List (P I B S Pr L)->List Nat
 | .list _ true _::ks,.list _ _ (some (i,_))::ps=>i::qas ks ps
 | _::ks,_::ps=>qas ks ps
 | _,_=>[]
def kh (st:St I B S Pr L):List RSlot->List Nat
 | []=>[]
 | s::l=>(match qbx st s with
  | some x=>qas x.1 x.2
  | none=>[])++kh st l
def qpo (A:Alg I B S Pr L K):List SK->List (P I B S Pr L)->St I B S Pr L->(List (P I B S Pr L)->List (N I B S L)->St I B S Pr L->Pr)->Pr
 | [],[],st,g=>g [] [] st
 | k::ks,p::ps,st,g=>match k with
  | .int f=>A.allI f λn=>qpo A ks ps st λd e a=>g (.int f none n::d) (.i n::e) a
  | .bool=>A.allB λb=>qpo A ks ps {st with next:=st.next+1} λd e a=>g (.sb st.next false b (A.braw b).1 (A.braw b).2::d) (.b b::e) a
  | .str=>A.allS λs=>qpo A ks ps st λd e a=>g (.str s::d) (.s s::e) a
  | .list c own h=>A.allL c λl=>if own then qpo A ks ps {st with owns:=(st.next,if h then 1 else 0)::st.owns,next:=st.next+1} λd e a=>g (.list c l (some (st.next,if h then 1 else 0))::d) (.l c l::e) a
    else qpo A ks ps st λd e a=>g (.list c l none::d) (.l c l::e) a
  | .keep=>qpo A ks ps st λd e a=>g (p::d) e a
 | _,_,_,_=>A.ff "slot"
def qca (A:Alg I B S Pr L K) (st0:St I B S Pr L):List RSlot->St I B S Pr L->(List (N I B S L)->St I B S Pr L->Pr)->Pr
 | [],st,g=>g [] st
 | .ml id c::l,st,g=>onS (A.ff "slot") (qp2 st0.cells id c) λ_=>A.allL c λx=>qca A st0 l {st with cells:=qez st.cells id (.ml c x)} λb st2=>g (.l c x::b) st2
 | .it id c f h::l,st,g=>onS (A.ff "slot") (qwh st0.cells id c f h) λ_=>A.allL c λx=>qca A st0 l {st with cells:=qez st.cells id (.mp c f h x)} λb st2=>g (.l c x::b) st2
 | s::l,st,g=>match qbx st0 s with
  | none=>A.ff "slot"
  | some x=>qpo A x.1 x.2 st λd e a=>match s with
   | .one t _=>match d with
    | [q]=>qca A st0 l {a with tmps:=a.tmps.set t q} λb st2=>g (e++b) st2
    | _=>A.ff "slot"
   | .agg t _=>qca A st0 l {a with tmps:=a.tmps.set t (.agg d)} λb st2=>g (e++b) st2
   | .var id _=>qca A st0 l {a with cells:=qez a.cells id (.cs none d)} λb st2=>g (e++b) st2
   | .ml ..=>A.ff "slot"
   | .it ..=>A.ff "slot"
def q36:Option Int->Option Int->Bool
 | some a,some b=>decide (a=b)
 | _,_=>false
mutual
def qak (A:Alg I B S Pr L K) (g:St I B S Pr L):P I B S Pr L->P I B S Pr L->Option (List Pr)
 | .int k l a,.int p d b=>if k=p then some (if q36 l d then [] else [A.eqI a b]) else none
 | .lit a,.lit b=>if a=b then some [] else none
 | .sb _ _ a _ _,.sb _ _ b _ _=>some [A.eqB a b]
 | .str a,.str b=>some [A.eqS a b]
 | .list c l none,.list e d none=>if h:e=c then some [A.eqL c l (h ▸ d)] else none
 | .list c l (some (i,s)),.list e d (some (i',m))=>if Nat.beq i i'&&Nat.beq s m&&qd6 g (.list e d (some (i',m))) then (if h:e=c then some [A.eqL c l (h ▸ d)] else none) else none
 | .nils,.nils=>some []
 | .mlist i c x n,.mlist i' e q r=>if Nat.beq i i'&&Nat.beq c e&&(x == q) then some [A.eqI n r] else none
 | .cell i o l,.cell i' t d=>if Nat.beq i i'&&Nat.beq o t&&Nat.beq l d then some [] else none
 | .nilp,.nilp | .nilf,.nilf | .nili,.nili=>some []
 | .yield i,.yield j=>if Nat.beq i j then some [] else none
 | .map i,.map j=>if Nat.beq i j then some [] else none
 | .func f a c,.func u v e=>if Nat.beq f u then (qov A g a v).bind λx=>(qov A g c e).map λy=>x++y else none
 | _,_=>none
def qov (A:Alg I B S Pr L K) (c:St I B S Pr L):List (P I B S Pr L)->List (P I B S Pr L)->Option (List Pr)
 | [],[]=>some []
 | a::d,b::e=>(qak A c a b).bind λx=>(qov A c d e).map λy=>x++y
 | _,_=>none
end
def qes:List RSlot->List Nat
 | []=>[]
 | .var id _::l=>id::qes l
 | .ml id _::l=>id::qes l
 | .it id _ _ _::l=>id::qes l
 | _::l=>qes l
def qnp (A:Alg I B S Pr L K) (c:St I B S Pr L):List SK->List (P I B S Pr L)->List (P I B S Pr L)->Option (List Pr)
 | [],[],[]=>some []
 | .keep::ks,a::d,b::e=>(qak A c a b).bind λx=>(qnp A c ks d e).map λy=>x++y
 | _::ks,_::d,_::e=>qnp A c ks d e
 | _,_,_=>none
def qed (A:Alg I B S Pr L K) (st b:St I B S Pr L):List RSlot->Option (List Pr)
 | []=>some []
 | .ml ..::l=>qed A st b l
 | .it ..::l=>qed A st b l
 | s::l=>(qbx st s).bind λx=>(qbx b s).bind λy=>(qnp A b x.1 x.2 y.2).bind λa=>(qed A st b l).map λr=>a++r
def q6w:LMode->LMode->Bool
 | .ready,.ready=>true
 | .busy,.busy=>true
 | _,_=>false
def qos (A:Alg I B S Pr L K) (a:St I B S Pr L) (id:Nat):Cont I B S Pr L->Option (List Pr)
 | .cs t cs=>if zuo t (qug a.cells id) then (qyd a.cells id).bind λds=>qov A a cs ds else none
 | .ml c l=>(qp2 a.cells id c).map λb=>[A.eqL c l b]
 | .si s n=>(q3d a.cells id).map λx=>[A.eqS s x.1,A.eqI n x.2]
 | .mp c d e l=>match qye a.cells id with
  | some m=>if h:m.c=c then (if qot d m.lf&&(e == m.va) then some [A.eqL c l (h ▸ m.l)] else none) else none
  | none=>none
 | .lp r=>match look a.cells id with
  | some (.lp f)=>if q6w r.mode f.mode then some [] else none
  | _=>none
def qin (A:Alg I B S Pr L K) (a:List Nat) (b:St I B S Pr L):List (Nat×Cont I B S Pr L)->Option (List Pr)
 | []=>some []
 | (id,ct)::l=>if a.any (λi=>Nat.beq i id) then qin A a b l else
     (qos A b id ct).bind λx=>(qin A a b l).map λy=>x++y
def qdn (st:St I B S Pr L) (ds:List Nat) (a:List RSlot):St I B S Pr L:=
 {st with tmps:=qty ds st.tmps,owns:=(kh st a).foldl qa1 st.owns}
def qz9 (A:Alg I B S Pr L K) (j:Nat) (seen:List (N I B S L)) (c:List RSlot) (dec:Option (List (N I B S L))) (st0 d st:St I B S Pr L):Pr:=
 match qc5 A st c,qed A st0 st c,qin A (qes c) st st0.cells with
 | some e,some a,some b=>
  if distinct (kh st c)&&(kh st c).all (λi=>!(d.owns.any λx=>Nat.beq x.1 i))&&d.owns.all (λx=>match look st.owns x.1 with
    | some s=>Nat.beq s x.2
    | none=>false) then
   zbv A a (zbv A b (A.and (A.inv j (e++seen)) (match dec with
    | some m=>A.dec j (e++seen) (m++seen)
    | none=>A.tt)))
  else A.ff "lists of their own"
 | _,_,_=>A.ff "state"
def zem (A:Alg I B S Pr L K) (j:Nat) (b c:List Slot) (ds:List Nat) (st:St I B S Pr L) (body:St I B S Pr L->(Ex->St I B S Pr L->Pr)->Pr) (k:Ex->St I B S Pr L->Pr):Pr:=
 onS (A.ff "slots") (resolve st b) λrs=>onS (A.ff "slots") (qc5 A st rs) λd=>onS (A.ff "sees") ((resolve st c).bind (qc5 A st)) λa=>
  if distinct (kh st rs) then A.and (A.inv j (d++a)) (qca A st rs (qdn st ds rs) λf e=>A.imp (A.inv j (f++a))
   (body e λex st2=>match ex with
     | .normal=>qz9 A j a rs (some f) st (qdn st ds rs) st2
     | ex=>k ex st2)) else A.ff "lists of their own"
def q5t {σ:Type} (step:σ->(σ->Pr)->Pr) (bad:Pr):Nat->σ->Pr
 | 0,_=>bad
 | n+1,s=>step s λa=>q5t step bad n a
def inRound (rd:Option Nat) (st:St I B S Pr L):Bool:=
 match rd with
 | none=>true
 | some id=>match look st.cells id with
  | some (.lp _)=>true
  | _=>false
def zaf (A:Alg I B S Pr L K) (st:St I B S Pr L) (id:Nat) (a:St I B S Pr L) (k:Ex->St I B S Pr L->Pr):Pr:=
 match look a.cells id with
 | some (.lp r)=>match r.mode with
  | .ready=>k .normal {a with cells:=qa1 a.cells id,tmps:=st.tmps,n:=st.n}
  | .done none=>k .ret {a with cells:=qa1 a.cells id,tmps:=st.tmps,n:=st.n}
  | .done (some i)=>k (.exit i) {a with cells:=qa1 a.cells id,tmps:=st.tmps,n:=st.n}
  | .busy=>A.ff "loop"
 | _=>A.ff "loop"
def q81 (A:Alg I B S Pr L K) (C:Cfg I B S Pr L) (inl:Inl I B S Pr L) (r:LRec I B S Pr L) (v:P I B S Pr L) (st:St I B S Pr L) (k:Ex->St I B S Pr L->Pr):Pr:=
 match v with
 | .func g first cap=>if qgc C.E g then
   inl (.func g) (first++[.yield (st.next+1)]++cap) {st with cells:=(st.next+1,.lp r)::st.cells,next:=st.next+2} λ_ a=>zaf A st (st.next+1) a k
  else A.ff "no body"
 | _=>A.ff "range"
def jq (A:Alg I B S Pr L K) (C:Cfg I B S Pr L) (inl:Inl I B S Pr L) (rd:Option Nat) (fn:Nat):Nat->Code->St I B S Pr L->(Ex->St I B S Pr L->Pr)->Pr
 | _,.skip,st,k=>k .normal st
 | _,.label _,st,k=>k .normal st
 | _,.exit id,st,k=>k (.exit id) st
 | _,.ret,st,k=>k .ret st
 | p,.seq a b,st,k=>match C.ann fn p with
  | some (.cut j e h)=>onS (A.ff "cut") (resolve st e) λrs=>onS (A.ff "sees") ((resolve st h).bind (qc5 A st)) λl=>
    A.and (jq A C inl rd fn (2 * p) a st λex d=>match ex with
     | .normal=>qz9 A j l rs none st (qdn st (qdy a) rs) d
     | ex=>k ex d)
    (qca A st rs (qdn st (qdy a) rs) λq d=>A.imp (A.inv j (q++l)) (jq A C inl rd fn (2 * p+1) b d k))
  | _=>jq A C inl rd fn (2 * p) a st λex d=>match ex with
   | .normal=>A.lat λ_=>jq A C inl rd fn (2 * p+1) b d k
   | ex=>k ex d
 | p,.cond c a b,st,k=>match jj A C st c with
  | some v=>br A st v λt d=>if t then jq A C inl rd fn (2 * p) a d k else jq A C inl rd fn (2 * p+1) b d k
  | none=>A.ff "operand"
 | p,.block id c,st,k=>jq A C inl rd fn (2 * p) c st λex d=>match ex with
  | .exit m=>if Nat.beq m id then k .normal d else k (.exit m) d
  | ex=>k ex d
 | p,.scope c,st,k=>jq A C inl rd fn (2 * p) c st k
 | p,.loop c,st,k=>match C.ann fn p with
  | some (.inv j e h)=>zem A j e h (qdy c) st (λs g=>jq A C inl rd fn (2 * p) c s g) k
  | some (.peel j e h)=>jq A C inl rd fn (2 * p) c st λex d=>match ex with
    | .normal=>zem A j e h (qdy c) d (λs g=>jq A C inl rd fn (2 * p) c s g) k
    | ex=>k ex d
  | some (.unroll n)=>q5t (λs g=>jq A C inl rd fn (2 * p) c s λex d=>match ex with
    | .normal=>g d
    | ex=>k ex d) (A.ff "unroll") n st
  | _=>A.ff "loop"
 | _,.region _ ops o,st,k=>if o then qzi A C inl ops (Region.before ops) st.next 0 ops.toList ⟨[],[]⟩ [] st λd=>k .normal d
   else wpOps A C inl ops ops.toList st λd=>k .normal d
 | p,.rangeFunc f i a b,st,k=>if inRound rd st then onS (A.ff "operand") (jj A C st f) λv=>q81 A C inl (⟨st.tmps,st.n,i.toList,a,b,fn,p,.ready⟩) v st k else A.ff "round"
 | _,_,_,_=>A.ff "code"
def qgg (A:Alg I B S Pr L K) (C:Cfg I B S Pr L) (st:St I B S Pr L):List ResultVar->Option (List (P I B S Pr L))
 | []=>some []
 | .tmp t::rs=>(st.tmps.get t).bind λv=>(qgg A C st rs).map λvs=>v::vs
 | .cell a t::rs=>(C.E.types t).bind λti=>(st.tmps.get a).bind λp=>(zak st ti p).bind λv=>(qgg A C st rs).map λvs=>v::vs
def q3m:List (P I B S Pr L)->P I B S Pr L
 | [v]=>v
 | vs=>.tuple vs
def qvz (A:Alg I B S Pr L K):List (P I B S Pr L)->St I B S Pr L->(List (P I B S Pr L)->St I B S Pr L->Pr)->Pr
 | [],st,k=>k [] st
 | .mlist id c fx n::ps,st,k=>onS (A.ff "results") (qp2 st.cells id c) λl=>A.and (A.eqI n (A.llen c l))
   (if fx then qvz A ps {st with cells:=qa1 st.cells id,owns:=(st.next,0)::st.owns,next:=st.next+1} λb a=>k (.list c l (some (st.next,0))::b) a
    else qvz A ps {st with cells:=qa1 st.cells id} λb a=>k (.list c l none::b) a)
 | p::ps,st,k=>qvz A ps st λb a=>k (p::b) a
def q9a (A:Alg I B S Pr L K):List (P I B S Pr L)->St I B S Pr L->(List (P I B S Pr L)->St I B S Pr L->Pr)->Pr
 | [],st,k=>k [] st
 | .agg cs::ps,st,k=>qvz A cs st λds b=>q9a A ps b λc a=>k (.agg ds::c) a
 | p::ps,st,k=>qvz A [p] st λds b=>q9a A ps b λc a=>k (ds++c) a
def qwp (A:Alg I B S Pr L K) (keep:Bool) (ps:List (P I B S Pr L)) (st:St I B S Pr L) (k:List (P I B S Pr L)->St I B S Pr L->Pr):Pr:=
 if keep then k ps st else q9a A ps st k
mutual
def P.refs:P I B S Pr L->List Nat
 | .cell id _ _=>[id]
 | .mlist id _ _ _=>[id]
 | .mptr id _ _ _ _=>[id]
 | .map id=>[id]
 | .yield id=>[id]
 | .func _ a c=>qs1 a++qs1 c
 | .iface _ p=>p.refs
 | .agg l=>qs1 l
 | .tuple l=>qs1 l
 | .plist _ _ _ l=>qs1 l
 | _=>[]
def qs1:List (P I B S Pr L)->List Nat
 | []=>[]
 | p::ps=>p.refs++qs1 ps
end
def Cont.refs:Cont I B S Pr L->List Nat
 | .cs _ ps=>qs1 ps
 | _=>[]
def q75 (lo:Nat) (cells:List (Nat×Cont I B S Pr L)):Nat->List Nat->List Nat
 | 0,m=>m
 | n+1,m=>q75 lo cells n (m++cells.flatMap λx=>if Nat.ble lo x.1&&m.any (Nat.beq x.1) then x.2.refs else [])
def gcC (lo:Nat) (vs:List (P I B S Pr L)) (cells:List (Nat×Cont I B S Pr L)):List (Nat×Cont I B S Pr L):=
 if cells.all (λx=>Nat.blt x.1 lo) then cells else
 let m:=q75 lo cells 3 ((qs1 vs++cells.flatMap λx=>if Nat.ble lo x.1 then [] else x.2.refs).filter (Nat.ble lo))
 cells.filter λx=>!Nat.ble lo x.1 || m.any (Nat.beq x.1)
def zsv:P I B S Pr L->Bool
 | .mlist ..=>true
 | _=>false
def q64 (A:Alg I B S Pr L K) (f:Nat) (args:List (P I B S Pr L)) (st:St I B S Pr L) (k:P I B S Pr L->St I B S Pr L->Pr):Pr:=
 q9a A args st λc a=>match fnP A a f c with
  | some (b,r)=>if distinct (qbs r.flat) then (let x:=qb5 a r;A.and b (k x.1 {x.2 with tmps:=st.tmps,n:=st.n})) else A.ff "contract"
  | none=>A.ff "contract"
def qzg (A:Alg I B S Pr L K) (C:Cfg I B S Pr L) (inl:Inl I B S Pr L) (f:Nat) (args:List (P I B S Pr L)) (st:St I B S Pr L) (k:P I B S Pr L->St I B S Pr L->Pr):Pr:=
 if C.ans f then A.ff "answered" else if (A.fn f).isSome&&args.any zsv then q64 A f args st k else
 match C.E.funcs f with
 | some fi=>match fi.body with
  | some c=>jq A C inl none f 1 c {st with tmps:=Tree.ofList args,n:=max args.length fi.ntmps} λex a=>
   let out:Pr:=onS (A.ff "results") (qgg A C a fi.results) λvs=>qwp A (C.keepM f) vs a λvs st2=>k (q3m vs) {st2 with tmps:=st.tmps,n:=st.n,cells:=gcC st.next vs st2.cells}
   match ex with
   | .normal=>out
   | .ret=>out
   | _=>A.ff "way out"
  | none=>match fi.ext,args with
   | 4,[x]=>k x st
   | _,_=>A.ff "no body"
 | none=>A.ff "no function"
def qfl (n:Nat):List Tmp->List (P I B S Pr L)->Tree (P I B S Pr L)->Option (Tree (P I B S Pr L))
 | [],[],t=>some t
 | p::ps,v::vs,t=>if Nat.blt p n then qfl n ps vs (t.set p v) else none
 | _,_,_=>none
def zrl (A:Alg I B S Pr L K) (id:Nat) (r:LRec I B S Pr L) (st:St I B S Pr L) (ex:Ex) (st2:St I B S Pr L) (k:P I B S Pr L->St I B S Pr L->Pr):Pr:=
 match ex with
 | .normal=>k (.lit true) {st2 with cells:=qez st2.cells id (.lp {r with mode:=.ready}),tmps:=st.tmps,n:=st.n}
 | .ret=>k (.lit false) {st2 with cells:=qez st2.cells id (.lp {r with mode:=.done none}),tmps:=st.tmps,n:=st.n}
 | .exit i=>k (.lit false) {st2 with cells:=qez st2.cells id (.lp {r with mode:=.done (some i)}),tmps:=st.tmps,n:=st.n}
 | _=>A.ff "round"
def q4g (A:Alg I B S Pr L K) (C:Cfg I B S Pr L) (inl:Inl I B S Pr L) (id:Nat) (args:List (P I B S Pr L)) (st:St I B S Pr L) (k:P I B S Pr L->St I B S Pr L->Pr):Pr:=
 match look st.cells id with
 | some (.lp r)=>match r.mode with
  | .ready=>onS (A.ff "round") (qfl r.n r.params args r.tmps) λt=>
    jq A C inl (some id) r.fn (2 * r.pos) r.assign {st with tmps:=t,n:=r.n} λex a=>match ex with
     | .normal=>(match look a.cells id with
      | some (.lp b)=>(match b.mode with
       | .ready=>jq A C inl (some id) r.fn (2 * r.pos+1) r.body {a with cells:=qez a.cells id (.lp {r with mode:=.busy})} λex st2=>(match look st2.cells id with
        | some (.lp _)=>zrl A id r st ex st2 k
        | _=>A.ff "round")
       | _=>A.ff "round")
      | _=>A.ff "round")
     | _=>A.ff "round"
  | _=>A.ff "round"
 | _=>A.ff "round"
def qv2 (A:Alg I B S Pr L K) (C:Cfg I B S Pr L):Nat->Inl I B S Pr L
 | 0=>λ_ _ _ _=>A.ff "too deep"
 | n+1=>λt args st k=>match t with
  | .func f=>qzg A C (qv2 A C n) f args st k
  | .round id=>q4g A C (qv2 A C n) id args st k
def meets (A:Alg I B S Pr L K) (st:St I B S Pr L):P I B S Pr L->P I B S Pr L->Option (List Pr)
 | .int k _ a,.int d _ b=>if k=d then some [A.eqI a b] else none
 | .lit a,.sb _ _ b _ _=>some [A.eqB (A.blit a) b]
 | .sb _ _ a _ _,.sb _ _ b _ _=>some [A.eqB a b]
 | .str a,.str b=>some [A.eqS a b]
 | p,.list c l own=>if own.isSome&&!qd6 st p then none else (asL A c p).map λe=>[A.eqL c e l]
 | _,_=>none
def qmb (A:Alg I B S Pr L K) (st:St I B S Pr L):List (P I B S Pr L)->List (P I B S Pr L)->Option (List Pr)
 | [],[]=>some []
 | a::c,b::d=>(meets A st a b).bind λx=>(qmb A st c d).map λy=>x++y
 | _,_=>none
def qjf:List (P I B S Pr L)->List (P I B S Pr L)->List Nat
 | .list _ _ (some (i,_))::ps,.list _ _ (some _)::rs=>i::qjf ps rs
 | _::ps,_::rs=>qjf ps rs
 | _,_=>[]
def qlj:P I B S Pr L->P I B S Pr L->Bool
 | .agg a,.agg b=>Nat.beq a.length b.length
 | .agg _,_=>false
 | .tuple _,_=>false
 | _,.agg _=>false
 | _,.tuple _=>false
 | _,_=>true
def qqr:List (P I B S Pr L)->List (P I B S Pr L)->Bool
 | [],[]=>true
 | p::ps,r::rs=>qlj p r&&qqr ps rs
 | _,_=>false
def za8:P I B S Pr L->P I B S Pr L->Bool
 | .tuple a,.tuple b=>qqr a b
 | .tuple _,_=>false
 | _,.tuple _=>false
 | p,r=>qlj p r
def ends (A:Alg I B S Pr L K) (r p:P I B S Pr L) (st:St I B S Pr L):Pr:=
 if za8 p r&&distinct (qjf p.flat r.flat)&&distinct (qbs r.flat) then (match qmb A st p.flat r.flat with
  | some l=>zbv A l A.tt
  | none=>A.ff "answer") else A.ff "answer's shape"
def qtp (A:Alg I B S Pr L K) (C:Cfg I B S Pr L) (depth f:Nat) (args:List (P I B S Pr L)) (r:P I B S Pr L):Pr:=
 let x:=jy args 1
 qzg A C (qv2 A C depth) f x.1 {tmps:=.nil,n:=0,cells:=[],owns:=[],next:=x.2,known:=[]} (ends A r)
end Go.E3
/- THE PLAIN ALGEBRA of E3: numbers, bytes, lists as they are; the answer a proposition. -/
namespace Go.E3
open Go Go.E2
@[reducible] def InK (k:IntKind) (x:Int):Prop:=
 match k with
 | .i8=>-128<=x/\x<=127
 | .i16=>-32768<=x/\x<=32767
 | .i32=>-2147483648<=x/\x<=2147483647
 | .i64=>-9223372036854775808<=x/\x<=9223372036854775807
 | .u8=>0<=x/\x<=255
 | .u16=>0<=x/\x<=65535
 | .u32=>0<=x/\x<=4294967295
 | .u64=>0<=x/\x<=18446744073709551615
abbrev I64 (x:Int):Prop:=-9223372036854775808<=x/\x<=9223372036854775807
abbrev Wn (i n:Int):Prop:=0<=i/\i<n
abbrev qrj (n:Nat):Prop:=n<=1000000000
def ix {α:Type} [Inhabited α] (l:List α) (i:Int):α:=l.getD i.toNat default
def bx (s:List UInt8) (i:Int):Int:=((s.getD i.toNat 0).toNat:Int)
def fr {α:Type} (l:List α) (i:Int):List α:=l.drop i.toNat
def upto {α:Type} (l:List α) (j:Int):List α:=l.take j.toNat
def sub {α:Type} (l:List α) (i j:Int):List α:=(l.take j.toNat).drop i.toNat
abbrev ln {α:Type} (l:List α):Int:=(l.length:Int)
structure Codecs (K:Nat->Type) where
 dflt:(c:Nat)->K c
 u8:K 0=UInt8
 cells:(c:Nat)->K c->List (P Int Bool (List UInt8) Prop (λc=>List (K c)))
 pack:(c:Nat)->List (P Int Bool (List UInt8) Prop (λc=>List (K c)))->Option (Prop×K c)
abbrev PV (K:Nat->Type):=P Int Bool (List UInt8) Prop (λc=>List (K c))
abbrev NV (K:Nat->Type):=N Int Bool (List UInt8) (λc=>List (K c))
abbrev StV (K:Nat->Type):=St Int Bool (List UInt8) Prop (λc=>List (K c))
abbrev ZC (K:Nat->Type):=Cfg Int Bool (List UInt8) Prop (λc=>List (K c))
abbrev ZT (K:Nat->Type):=Cont Int Bool (List UInt8) Prop (λc=>List (K c))
abbrev ZI (K:Nat->Type):=Inl Int Bool (List UInt8) Prop (λc=>List (K c))
abbrev zl2 (K:Nat->Type):=Alg Int Bool (List UInt8) Prop (λc=>List (K c)) K
abbrev Tbl (K:Nat->Type):=Nat->Option (List Sh×(List (NV K)->Option (Prop×PV K)))
def zon (op:BinOp) (k:IntKind) (a b:Int):Option (Prop×Int):=
 match op with
 | .add=>some (InK k (a+b),a+b)
 | .sub=>some (InK k (a-b),a-b)
 | .mul=>some (InK k (a * b),a * b)
 | .quo=>some (b≠0/\InK k (a.tdiv b),a.tdiv b)
 | .rem=>some (b≠0,a.tmod b)
 | _=>none
def qve (op:BinOp) (a b:Int):Option (Bool×Prop×Prop):=
 match op with
 | .eql=>some (decide (a=b),a=b,a≠b)
 | .neq=>some (decide (a≠b),a≠b,a=b)
 | .lss=>some (decide (a<b),a<b,b<=a)
 | .leq=>some (decide (a<=b),a<=b,b<a)
 | .gtr=>some (decide (b<a),b<a,a<=b)
 | .geq=>some (decide (b<=a),b<=a,a<b)
 | _=>none
def qvu (op:BinOp) (a b:List UInt8):Option (Bool×Prop×Prop):=
 match op with
 | .eql=>some (decide (a=b),a=b,a≠b)
 | .neq=>some (decide (a≠b),a≠b,a=b)
 | .lss=>some (qal a b,qal a b=true,qal a b=false)
 | _=>none
def qm0:List (Bool×Prop×Prop)->Bool×Prop×Prop
 | []=>(true,True,False)
 | [c]=>c
 | c::cs=>let r:=qm0 cs;(c.1&&r.1,c.2.1/\r.2.1,c.2.2∨r.2.2)
def qpr {α:Type} (l:List α) (lo hi:Option Int):Prop×List α:=
 match lo,hi with
 | none,none=>(True,l)
 | some i,none=>(0<=i/\i<=ln l,fr l i)
 | none,some j=>(0<=j/\j<=ln l,upto l j)
 | some i,some j=>(0<=i/\i<=j/\j<=ln l,sub l i j)
def qk7 {K:Nat->Type}:List (PV K)->List (PV K)->Bool
 | [],[]=>true
 | .int k _ a::l,.int d _ b::c=>decide (k=d)&&(a == b)&&qk7 l c
 | .str a::l,.str b::c=>(a == b)&&qk7 l c
 | .lit a::l,.lit b::c=>(a == b)&&qk7 l c
 | .lit a::l,.sb _ _ b _ _::c=>(a == b)&&qk7 l c
 | .sb _ _ a _ _::l,.lit b::c=>(a == b)&&qk7 l c
 | .sb _ _ a _ _::l,.sb _ _ b _ _::c=>(a == b)&&qk7 l c
 | _,_=>false
def qub {K:Nat->Type} (X:Codecs K) (c a:Nat) (x y:K c):Bool:=qk7 ((X.cells c x).take a) ((X.cells c y).take a)
def qq2 {K:Nat->Type} (X:Codecs K) (c a:Nat) (l:List (K c)) (y:K c):Bool:=l.any λx=>qub X c a y x
def qjn {K:Nat->Type} (X:Codecs K) (c a:Nat):List (K c)->K c->K c
 | [],y=>y
 | x::l,y=>if qub X c a y x then x else qjn X c a l y
def qld {K:Nat->Type} (X:Codecs K) (c a:Nat):List (K c)->K c->List (K c)
 | [],y=>[y]
 | x::l,y=>if qub X c a y x then y::l else x::qld X c a l y
def zlt (s:List UInt8) (n:Int):Int:=((Utf8.decode ⟨s.toArray⟩ n.toNat).1:Nat)
def zbb (s:List UInt8) (n:Int):Int:=n+((Utf8.decode ⟨s.toArray⟩ n.toNat).2:Nat)
def qu {K:Nat->Type} (X:Codecs K) (tbl:Tbl K) (inv:Nat->List (NV K)->Prop) (meas:Nat->List (NV K)->Nat):zl2 K where
 ff _:=False
 tt:=True
 and:=And
 imp p q:=p->q
 impL p q:=p->q ()
 lat q:=q ()
 ilit n:=n
 iop:=zon
 icmp:=qve
 ineg k n:=(InK k (-n),-n)
 iconv k n:=(InK k n,n)
 ibest mx a b:=if mx then (if b > a then b else a) else (if b<a then b else a)
 blit b:=b
 bnot b:=!b
 beq a b:=(a == b,a=b,a≠b)
 braw b:=(b=true,b=false)
 ball:=qm0
 slit s:=s
 scat a b:=(qrj (a.length+b.length),a++b)
 scmp:=qvu
 slen s:=ln s
 sget:=bx
 ssub:=qpr
 lof _ l:=l
 llen _ l:=ln l
 lget c l i:=l.getD i.toNat (X.dflt c)
 lsub _ l lo hi:=qpr l lo hi
 lcat _ l x:=(qrj (l.length+x.length),l++x)
 lset _ l i x:=l.set i.toNat x
 lrep _ x n:=List.replicate n.toNat x
 leI a b:=a<=b
 sbytes s:=X.u8 ▸ s
 bstr l:=X.u8 ▸ l
 within:=Wn
 eqI a b:=a=b
 eqB a b:=a=b
 eqS a b:=a=b
 eqL _ a b:=a=b
 allI _ g:=∀ n:Int,g n
 allB g:=∀ b:Bool,g b
 allS g:=∀ s:List UInt8,g s
 allL c g:=∀ l:List (K c),g l
 inv:=inv
 dec j ns ms:=meas j ns<meas j ms
 fn:=tbl
 cells:=X.cells
 pack:=X.pack
 mhas:=qq2 X
 mget:=qjn X
 mput:=qld X
 srune:=zlt
 snext:=zbb
end Go.E3
/- E3: VALUES WITHOUT MEMORY AGAINST E2's: the relation, and what keeps it. -/
namespace Go.E3
open Go Go.E2
variable {K:Nat->Type}
structure LG where
 lt:Tree V
 ln:Nat
 lp:List Tmp
 la:Code
 lb:Code
 ld:Nat
structure Wd where
 g:Nat->Option O
 M:Nat->Prop
 c:Nat->Nat
 nu:Nat->Bool
 n:Nat
 owns:Nat->Option Nat
 eta:Nat->Option Nat
 ce:TypeId->Option Nat
 cl:Nat->Prop
 nx:Nat
 b:Nat
 lp:Nat->Option LG
 fl:Nat
def q2a (w:Wd) (sz:Nat->Nat) (i c:Nat):V->Prop
 | .nils=>True
 | .slice nm gn off len _ cap=>cap=some len∨(cap=none/\w.eta i=some nm/\∃ cs e a b ex,w.g nm=some (.row cs e gn a b ex)/\off+len * sz c=cs.length/\b<=cs.length/\w.ce e=some c/\(c=0∨b=0))
 | _=>False
def NB:V->Prop
 | .nils=>True
 | .slice _ _ off len _ cap=>cap=none/\off=0/\0<len
 | _=>False
def qli (w:Wd) (sz:Nat->Nat) (c:Nat) (own:Option (Nat×Nat)) (v:V):Prop:=
 match own with
 | none=>True
 | some (i,s)=>i<w.n/\(∀ a,w.owns i=some a->s<=a)/\(w.owns i=some s->q2a w sz i c v)/\(s % 2=1->NB v)
inductive Rep (X:Codecs K) (sz:Nat->Nat) (w:Wd):PV K->V->Prop
 | int {k:IntKind} {lit:Option Int} {n:Int} (h:∀ m,lit=some m->m=n):Rep X sz w (.int k lit n) (.int k n)
 | lit {b:Bool}:Rep X sz w (.lit b) (.bool b)
 | sb {id:Nat} {neg b:Bool} {pt pf:Prop} (h1:pt↔b=true) (h2:pf↔b=false) (h3:id≠0->id<w.n/\b=(w.nu id != neg)):Rep X sz w (.sb id neg b pt pf) (.bool b)
 | str {s:List UInt8}:Rep X sz w (.str s) (.str s)
 | nils:Rep X sz w .nils .nils
 | nlist {c:Nat} {own:Option (Nat×Nat)} (h:qli w sz c own .nils):Rep X sz w (.list c [] own) .nils
 | list {c:Nat} {l:List (K c)} {own:Option (Nat×Nat)} {nm gn off len z:Nat} {cap:Option Nat} {cs:List V} {e:TypeId} {gen floor frz:Nat} {ex:Bool}
   (hg:w.g nm=some (.row cs e gen floor frz ex)) (hf:floor<=gn) (hM:¬ w.M nm) (hlen:len=l.length) (hb:off+len * sz c<=cs.length) (hz:0<sz c/\(z=sz c∨(0<z/\l=[]/\cap=some 0))) (hcap:∀ k,cap=some k->len<=k)
   (hc:∀ i (h:i<l.length) (j:Nat) (p:PV K),(X.cells c (l[i]'h))[j]? = some p->Rep X sz w p (cs.getD (off+i * sz c+j) zs))
   (ho:qli w sz c own (.slice nm gn off len z cap)):Rep X sz w (.list c l own) (.slice nm gn off len z cap)
 | cell {id off lim:Nat} (h:id<w.n):Rep X sz w (.cell id off lim) (.ptr (w.c id) 0 off lim)
 | eptr {ps:List (PV K)} {off nm gn d lim:Nat} {cs:List V} {e:TypeId} {gen floor frz:Nat} {ex:Bool}
   (hg:w.g nm=some (.row cs e gen floor frz ex)) (hf:floor<=gn) (hM:¬ w.M nm) (h1:d+ps.length<=lim) (h2:lim<=cs.length)
   (hc:∀ (j:Nat) (p:PV K),ps[j]? = some p->Rep X sz w p (cs.getD (d+j) zs)):Rep X sz w (.eptr ps off) (.ptr nm gn (d+off) lim)
 | mlist {id c:Nat} {fx:Bool} {n:Int} (h:id<w.n) (h0:0<=n) (hz:0<sz c):Rep X sz w (.mlist id c fx n) (.slice (w.c id) 0 0 n.toNat (sz c) (if fx then some n.toNat else none))
 | mptr {id c:Nat} {i n:Int} {off:Nat} (h:id<w.n) (h0:0<=i) (h1:i<n):Rep X sz w (.mptr id c i n off) (.ptr (w.c id) 0 (i.toNat * sz c+off) (n.toNat * sz c))
 | nilp:Rep X sz w .nilp .nilp
 | map {id:Nat} (h:id<w.n):Rep X sz w (.map id) (.map (w.c id))
 | func {f:Nat} {a c:List (PV K)} {va vc:List V} (ha:a.length=va.length) (hc:c.length=vc.length)
   (h1:∀ (j:Nat) (p:PV K),a[j]? = some p->Rep X sz w p (va.getD j zs)) (h2:∀ (j:Nat) (p:PV K),c[j]? = some p->Rep X sz w p (vc.getD j zs)):Rep X sz w (.func f a c) (.func (.func f) va vc)
 | nilf:Rep X sz w .nilf .nilf
 | yield {id:Nat} (h:id<w.n):Rep X sz w (.yield id) (.func (.yield (w.c id)) [] [])
 | iface {t:TypeId} {p:PV K} {v:V} (h:Rep X sz w p v):Rep X sz w (.iface t p) (.iface t v)
 | nili:Rep X sz w .nili .nili
 | agg {ps:List (PV K)} {vs:List V} (hl:ps.length=vs.length) (h:∀ (j:Nat) (p:PV K),ps[j]? = some p->Rep X sz w p (vs.getD j zs)):Rep X sz w (.agg ps) (.agg vs)
 | tuple {ps:List (PV K)} {vs:List V} (hl:ps.length=vs.length) (h:∀ (j:Nat) (p:PV K),ps[j]? = some p->Rep X sz w p (vs.getD j zs)):Rep X sz w (.tuple ps) (.tuple vs)
 | plist {es n:Nat} {fx:Bool} {ps:List (PV K)} {nm gn d:Nat} {cs:List V} {e:TypeId} {gen floor frz:Nat} {ex:Bool}
   (hg:w.g nm=some (.row cs e gen floor frz ex)) (hf:floor<=gn) (hM:¬ w.M nm) (h0:0<es) (h1:ps.length=n * es) (h2:d+ps.length<=cs.length)
   (hc:∀ (j:Nat) (p:PV K),ps[j]? = some p->Rep X sz w p (cs.getD (d+j) zs)):Rep X sz w (.plist es n fx ps) (.slice nm gn d n es (if fx then some n else none))
def ql (X:Codecs K) (sz:Nat->Nat) (w:Wd) (ps:List (PV K)) (vs:List V):Prop:=
 ps.length=vs.length/\∀ (j:Nat) (p:PV K),ps[j]? = some p->Rep X sz w p (vs.getD j zs)
structure LeB (w w':Wd):Prop where
 n:w.n<=w'.n
 mem:∀ nm cs e gen floor frz ex,w.g nm=some (.row cs e gen floor frz ex)->¬ w.M nm->¬ w'.M nm/\∃ cs2 gen' frz' ex',w'.g nm=some (.row (cs++cs2) e gen' floor frz' ex')
 c:∀ id,id<w.n->w'.c id=w.c id
 nu:∀ id,id<w.n->w'.nu id=w.nu id
 o1:∀ i,i<w.n->w.owns i=none->w'.owns i=none
 o2:∀ i s s',i<w.n->w.owns i=some s->w'.owns i=some s'->s<=s'
 o3:∀ i s,i<w.n->w.owns i=some s->w'.owns i=some s->w'.eta i=w.eta i/\∀ nm,w.eta i=some nm->w.g nm≠some .dfr->w'.g nm=w.g nm
 ce:w'.ce=w.ce
 cl:∀ id,id<w.n->(w'.cl id↔w.cl id)
 nx:w.nx<=w'.nx
 b:w'.b=w.b
 Mu:∀ n,n<w.b->w.M n->w'.M n
 lp:∀ id,id<w.n->w'.lp id=w.lp id
structure Le (w w':Wd):Prop extends LeB w w' where
 df:∀ m,w.g m=some .dfr->w'.g m=some .dfr
 fl:w'.fl=w.fl
theorem LeB.refl (w:Wd):LeB w w:=
 ⟨zN _,λnm cs e a b c ex h f=>⟨f,[],a,c,ex,by rw [zJ];exact h⟩,λ_ _=>rfl,λ_ _=>rfl,λ_ _ h=>h,
  λ_ _ _ _ h d=>by rw [h] at d;cases d;exact zN _,λ_ _ _ _ _=>⟨rfl,λ_ _ _=>rfl⟩,rfl,λ_ _=>.rfl,zN _,rfl,λ_ _ h=>h,λ_ _=>rfl⟩
theorem Le.refl (w:Wd):Le w w:=⟨.refl w,λ_ h=>h,rfl⟩
theorem LeB.trans {w w' o:Wd} (h:LeB w w') (d:LeB w' o):LeB w o where
 n:=zR h.n d.n
 mem nm cs e gen floor frz ex hg hM:=by
  obtain ⟨v,cs2,p,q,ex',x⟩:=h.mem nm cs e gen floor frz ex hg hM;obtain ⟨r,y,j,k,t,u⟩:=d.mem nm _ e p floor q ex' x v;exact ⟨r,cs2++y,j,k,t,by rw [<-List.append_assoc];exact u⟩
 c id hi:=(d.c id (zL hi h.n)).trans (h.c id hi)
 nu id hi:=(d.nu id (zL hi h.n)).trans (h.nu id hi)
 o1 i hi h0:=d.o1 i (zL hi h.n) (h.o1 i hi h0)
 o2 i s s' hi h0 h2:=by
  cases f:w'.owns i with
  | none=>rw [d.o1 i (zL hi h.n) f] at h2;cases h2
  | some g=>exact zR (h.o2 i s g hi h0 f) (d.o2 i g s' (zL hi h.n) f h2)
 o3 i s hi h0 h2:=by
  have l:=zL hi h.n;cases f:w'.owns i with
  | none=>rw [d.o1 i l f] at h2;cases h2
  | some g=>
   have a:=h.o2 i s g hi h0 f;have b:=d.o2 i g s l f h2;obtain rfl:g=s:=by omega
   obtain ⟨A,g1⟩:=h.o3 i g hi h0 f;obtain ⟨B,g2⟩:=d.o3 i g l f h2;refine ⟨B.trans A,λnm m z=>?_⟩;rw [g2 nm (by rw [A];exact m) (by rw [g1 nm m z];exact z),g1 nm m z]
 ce:=d.ce.trans h.ce
 cl id hi:=(d.cl id (zL hi h.n)).trans (h.cl id hi)
 nx:=zR h.nx d.nx
 b:=d.b.trans h.b
 Mu n m hm:=d.Mu n (by rw [h.b];exact m) (h.Mu n m hm)
 lp id hi:=(d.lp id (zL hi h.n)).trans (h.lp id hi)
theorem Le.trans {w w' a:Wd} (h:Le w w') (b:Le w' a):Le w a:=⟨h.toLeB.trans b.toLeB,λm c=>b.df m (h.df m c),b.fl.trans h.fl⟩
theorem qli.qbb {w w':Wd} (h:LeB w w') {sz:Nat->Nat} {c:Nat} {own:Option (Nat×Nat)} {v:V} (B:qli w sz c own v):qli w' sz c own v:=by
 cases own with
 | none=>trivial
 | some x=>
  obtain ⟨i,s⟩:=x;obtain ⟨k,u,C,D⟩:=B;have l:∀ d,w'.owns i=some d->s<=d:=by
   intro d q;cases f:w.owns i with
   | none=>rw [h.o1 i k f] at q;cases q
   | some g=>exact zR (u g f) (h.o2 i g d k f q)
  refine ⟨zL k h.n,l,λo=>?_,D⟩;cases f:w.owns i with
  | none=>rw [h.o1 i k f] at o;cases o
  | some g=>
   have a:=u g f;have b:=h.o2 i g s k f o;obtain rfl:g=s:=by omega
   have p:=C f;obtain ⟨E,g1⟩:=h.o3 i g k f o;cases v with
   | nils=>trivial
   | slice nm gn off len z cap=>
    rcases p with p | ⟨m,y,cs,e,j,r,ex,A,t⟩
    .exact .inl p
    .exact .inr ⟨m,by rw [E];exact y,cs,e,j,r,ex,by rw [g1 nm y (by rw [A];simp)];exact A,t.1,t.2.1,by rw [h.ce];exact t.2.2⟩
   | _=>exact p
theorem qb0 {α:Type} {l a:List α} {n:Nat} {d:α} (h:n<l.length):(l++a).getD n d=l.getD n d:=by
 simp only [List.getD_eq_getElem?_getD,List.getElem?_append_left h]
theorem qli.mono {w w':Wd} (h:Le w w') {sz:Nat->Nat} {c:Nat} {own:Option (Nat×Nat)} {v:V} (a:qli w sz c own v):qli w' sz c own v:=a.qbb h.toLeB
theorem Rep.qbb {X:Codecs K} {sz:Nat->Nat} {w w':Wd} (P:∀ c x,(X.cells c x).length=sz c) (h:LeB w w') {p:PV K} {v:V} (r:Rep X sz w p v):Rep X sz w' p v:=by
 induction r with
 | int h=>exact .int h
 | lit=>exact .lit
 | sb q E G=>exact .sb q E λo=>⟨zL (G o).1 h.n,by rw [h.nu _ (G o).1];exact (G o).2⟩
 | str=>exact .str
 | nils=>exact .nils
 | nlist H=>exact .nlist (H.qbb h)
 | @list c l own nm gn off len z cap cs e b a f ex y A B C R I D F H g=>
  obtain ⟨k,cs2,s,t,ex',m⟩:=h.mem nm cs e b a f ex y B;refine .list m A k C (by rw [List.length_append];omega) I D (λi hi j p u=>?_) (H.qbb h);have O:j<sz c:=by
   rw [<-P c (l[i]'hi)];exact (List.getElem?_eq_some_iff.1 u).1
  have J:off+i * sz c+j<cs.length:=by
   have:(i+1) * sz c<=len * sz c:=zU _ (by omega);rw [Nat.add_mul,Nat.one_mul] at this;omega
  rw [qb0 J];exact g i hi j p u
 | @cell id off lim hi=>
  rw [<-h.c id hi];exact .cell (zL hi h.n)
 | @eptr ps off nm gn d lim cs e b a f ex y A B q E F g=>
  obtain ⟨k,cs2,s,t,ex',m⟩:=h.mem nm cs e b a f ex y B;refine .eptr m A k q (by rw [List.length_append];omega) (λj p u=>?_);have O:=(List.getElem?_eq_some_iff.1 u).1;rw [qb0 (by omega)];exact g j p u
 | @plist S n fx ps nm gn d cs e b a f ex y A B o q E F g=>
  obtain ⟨k,cs2,s,t,ex',m⟩:=h.mem nm cs e b a f ex y B;refine .plist m A k o q (by rw [List.length_append];omega) (λj p u=>?_);have O:=(List.getElem?_eq_some_iff.1 u).1;rw [qb0 (by omega)];exact g j p u
 | @mlist id c fx n hi o I=>
  rw [<-h.c id hi];exact .mlist (zL hi h.n) o I
 | @mptr id c i n off hi o q=>
  rw [<-h.c id hi];exact .mptr (zL hi h.n) o q
 | nilp=>exact .nilp
 | @map id hi=>
  rw [<-h.c id hi];exact .map (zL hi h.n)
 | func Q F q E L M=>exact .func Q F L M
 | nilf=>exact .nilf
 | @yield id hi=>
  rw [<-h.c id hi];exact .yield (zL hi h.n)
 | iface _ g=>exact .iface g
 | nili=>exact .nili
 | agg N _ g=>exact .agg N g
 | tuple N _ g=>exact .tuple N g
theorem Rep.mono {X:Codecs K} {sz:Nat->Nat} {w w':Wd} (a:∀ c x,(X.cells c x).length=sz c) (h:Le w w') {p:PV K} {v:V} (r:Rep X sz w p v):Rep X sz w' p v:=r.qbb a h.toLeB
theorem ql.qbb {X:Codecs K} {sz:Nat->Nat} {w w':Wd} (a:∀ c x,(X.cells c x).length=sz c) (h:LeB w w') {ps:List (PV K)} {vs:List V} (r:ql X sz w ps vs):ql X sz w' ps vs:=
 ⟨r.1,λj p b=>(r.2 j p b).qbb a h⟩
theorem ql.mono {X:Codecs K} {sz:Nat->Nat} {w w':Wd} (a:∀ c x,(X.cells c x).length=sz c) (h:Le w w') {ps:List (PV K)} {vs:List V} (r:ql X sz w ps vs):ql X sz w' ps vs:=
 ⟨r.1,λj p b=>(r.2 j p b).mono a h⟩
section
variable {X:Codecs K} {sz:Nat->Nat} {w:Wd}
theorem Rep.zvc {p:PV K} {v:V} (r:Rep X sz w p v):¬ ZS v:=by
 rintro ⟨nm,g,off,len,cap,b⟩;cases r with
 | list e f i c l d=>
  simp only [V.slice.injEq] at b;obtain ⟨j,a⟩:=d;rcases a with a | ⟨a,_⟩<;>omega
 | mlist h k d=>
  simp only [V.slice.injEq] at b;omega
 | plist e f i k=>
  simp only [V.slice.injEq] at b;omega
 | _=>cases b
theorem Rep.qyi {p:PV K} {v:V} (r:Rep X sz w p v):isHole v=false:=by
 rw [<-Bool.not_eq_true];intro h;obtain ⟨u,rfl,a⟩:=qq5.1 h;cases r with
 | @tuple ps vs b c=>
  cases ps with
  | nil=>simp at b
  | cons q ps=>exact (c 0 q rfl).zvc a
theorem ql.qyi {ps:List (PV K)} {vs:List V} (r:ql X sz w ps vs):∀ v ∈ vs,isHole v=false:=by
 intro v a;obtain ⟨i,hi,rfl⟩:=List.mem_iff_getElem.1 a;have b:i<ps.length:=by rw [r.1];exact hi
 have:=r.2 i _ (List.getElem?_eq_getElem b);rw [List.getD_eq_getElem?_getD,List.getElem?_eq_getElem hi] at this;exact this.qyi
theorem ql.nil:ql X sz w [] []:=⟨rfl,λj p h=>by simp at h⟩
theorem ql.cons {p:PV K} {ps:List (PV K)} {v:V} {vs:List V} (h:Rep X sz w p v) (a:ql X sz w ps vs):ql X sz w (p::ps) (v::vs):=by
 refine ⟨by simp [a.1],λj q b=>?_⟩;cases j with
 | zero=>simp_all
 | succ j=>simp at b;simpa using a.2 j q b
theorem ql.zk {p:PV K} {ps:List (PV K)} {vs:List V} (h:ql X sz w (p::ps) vs):∃ v a,vs=v::a/\Rep X sz w p v/\ql X sz w ps a:=by
 cases vs with
 | nil=>have:=h.1;simp at this
 | cons v a=>
  refine ⟨v,a,rfl,?_,?_,λj q b=>?_⟩
  .simpa using h.2 0 p rfl
  .have:=h.1;simpa using this
  .simpa using h.2 (j+1) q (by simpa using b)
theorem ql.z6 {vs:List V} (h:ql X sz w [] vs):vs=[]:=by
 have:=h.1;exact List.eq_nil_of_length_eq_zero this.symm
theorem ql.append {ps a:List (PV K)} {vs us:List V} (h:ql X sz w ps vs) (b:ql X sz w a us):ql X sz w (ps++a) (vs++us):=by
 induction ps generalizing vs with
 | nil=>rw [h.z6];exact b
 | cons p ps c=>
  obtain ⟨v,d,rfl,e,f⟩:=h.zk;exact .cons e (c f)
theorem ql.take {ps:List (PV K)} {vs:List V} (n:Nat) (h:ql X sz w ps vs):ql X sz w (ps.take n) (vs.take n):=by
 refine ⟨by simp [h.1],λj p a=>?_⟩;rw [List.getElem?_take] at a;split at a
 .rename_i b;have:=h.2 j p a;rw [List.getD_eq_getElem?_getD] at this ⊢;rw [List.getElem?_take,zT b];exact this
 .cases a
theorem ql.drop {ps:List (PV K)} {vs:List V} (n:Nat) (h:ql X sz w ps vs):ql X sz w (ps.drop n) (vs.drop n):=by
 refine ⟨by simp [h.1],λj p a=>?_⟩;rw [List.getElem?_drop] at a;have:=h.2 _ p a;rw [List.getD_eq_getElem?_getD] at this ⊢;rw [List.getElem?_drop];exact this
theorem ql.get {ps:List (PV K)} {vs:List V} {j:Nat} {p:PV K} (h:ql X sz w ps vs) (b:ps[j]? = some p):∃ v,vs[j]? = some v/\Rep X sz w p v:=by
 have c:=(List.getElem?_eq_some_iff.1 b).1;have a:j<vs.length:=by rw [<-h.1];exact c
 refine ⟨vs[j],List.getElem?_eq_getElem a,?_⟩;have:=h.2 j p b;rw [List.getD_eq_getElem?_getD,List.getElem?_eq_getElem a] at this;exact this
theorem Rep.qqq {ps:List (PV K)} {vs:List V} (h:ql X sz w ps vs):Rep X sz w (.agg ps) (.agg vs):=.agg h.1 h.2
theorem Rep.tuple' {ps:List (PV K)} {vs:List V} (h:ql X sz w ps vs):Rep X sz w (.tuple ps) (.tuple vs):=.tuple h.1 h.2
theorem Rep.qcw {ps:List (PV K)} {v:V} (h:Rep X sz w (.agg ps) v):∃ vs,v=.agg vs/\ql X sz w ps vs:=by
 cases h with
 | agg a h=>exact ⟨_,rfl,a,h⟩
theorem Rep.qei {ps:List (PV K)} {v:V} (h:Rep X sz w (.tuple ps) v):∃ vs,v=.tuple vs/\ql X sz w ps vs:=by
 cases h with
 | tuple a h=>exact ⟨_,rfl,a,h⟩
theorem Rep.undef:Rep X sz w qmm zs:=.tuple' .nil
theorem Rep.cellsOf {p:PV K} {v:V} (h:Rep X sz w p v) (a:(∀ ps,p≠.agg ps)):p.cellsOf=[p]/\v.cells=[v]:=by
 cases h with
 | agg=>simp_all
 | _=>exact ⟨rfl,rfl⟩
theorem Rep.cells {p:PV K} {v:V} (h:Rep X sz w p v):ql X sz w p.cellsOf v.cells:=by
 cases p with
 | agg ps=>
  obtain ⟨vs,rfl,a⟩:=h.qcw;exact a
 | _=>
  have:=h.cellsOf (by intro ps b;cases b);rw [this.1,this.2];exact .cons h .nil
theorem Rep.jg {p:PV K} {v:V} (h:Rep X sz w p v) (a:qae p=true):v.jg=true:=by
 cases h<;>first | rfl | (simp [qae] at a)
theorem ql.qsu {ps:List (PV K)} {vs:List V} (h:ql X sz w ps vs) (a:ps.all qae=true):vs.all V.jg=true:=by
 induction ps generalizing vs with
 | nil=>rw [h.z6];rfl
 | cons p ps b=>
  obtain ⟨v,c,rfl,d,e⟩:=h.zk;simp only [List.all_cons,zA] at a ⊢;exact ⟨d.jg a.1,b e a.2⟩
theorem Rep.bool {p:PV K} {b:Bool} (h:Rep X sz w p (.bool b)):p=.lit b∨∃ id neg a c,p=.sb id neg b a c/\(a↔b=true)/\(c↔b=false)/\(id≠0->id<w.n/\b=(w.nu id != neg)):=by
 cases h with
 | lit=>exact .inl rfl
 | sb d e f=>grind
end
end Go.E3
/- E3: STATES AGAINST E2's MEMORY: the relation; operands, conditions, cells. -/
namespace Go.E3
open Go Go.E2
variable {K:Nat->Type}
structure CfgOk (X:Codecs K) (sz:Nat->Nat) (C:ZC K):Prop where
 len:∀ c x,(X.cells c x).length=sz c
 pos:∀ e c,C.codec e=some c->0<sz c
 size:∀ e c ti,C.codec e=some c->C.E.types e=some ti->ti.size=sz c
 inj:∀ e e' c,C.codec e=some c->C.codec e'=some c->e=e'
 one:∀ c x,(X.cells c x).all qae=true
 u8:∀ x:K 0,X.cells 0 x=[.int .u8 none (((X.u8 ▸ x:UInt8).toNat:Nat):Int)]
 pack:∀ c cs pre x,X.pack c cs=some (pre,x)->pre->∀ w vs,ql X sz w cs vs->ql X sz w (X.cells c x) vs
def qj1 (X:Codecs K):ZT K->List (PV K)
 | .cs _ ps=>ps
 | .ml c l=>l.flatMap (X.cells c)
 | .lp _=>[]
 | .mp ..=>[]
 | .si ..=>[]
def qwu (ct:ZT K) (e:TypeId) (ex:Bool):Prop:=
 match ct with
 | .cs (some t) _=>e=t/\ex=true
 | _=>True
theorem zj0 {t:Option TypeId} {ps b:List (PV K)} {e:TypeId} {ex:Bool} (h:qwu (.cs t ps) e ex):qwu (.cs t b) e ex:=by
 cases t with
 | none=>trivial
 | some a=>exact h
def qdo (g:LG):LMode->O
 | .ready=>.loop .ready none g.lt g.ln g.lp g.la g.lb g.ld
 | .busy=>.loop .busy none g.lt g.ln g.lp g.la g.lb g.ld
 | .done none=>.loop .done (some .ret) g.lt g.ln g.lp g.la g.lb g.ld
 | .done (some i)=>.loop .done (some (.exit i)) g.lt g.ln g.lp g.la g.lb g.ld
def jc:List Leaf->List V->Prop
 | [],[]=>True
 | .int k::l,.int a _::vs=>k=a/\jc l vs
 | .str::l,.str _::vs=>jc l vs
 | .bool::l,.bool _::vs=>jc l vs
 | _,_=>False
def q9h (X:Codecs K) (sz:Nat->Nat) (w:Wd) (c:Nat) (a:Leaf) (b:Bool) (x:K c) (e:V×V×Nat):Prop:=
 ql X sz w ((X.cells c x).take 1) [e.1]/\jc [a] [e.1]/\ql X sz w ((X.cells c x).drop 1) e.2.1.cells/\q7n e.2.1=b
def qbq (X:Codecs K) (sz:Nat->Nat) (w:Wd) (id:Nat) (ct:ZT K) (o:Option O):Prop:=
 match ct with
 | .cs t ps=>∃ vs e ex,o=some (.row vs e 0 0 0 ex)/\qwu (.cs t ps:ZT K) e ex/\ql X sz w (qj1 X (.cs t ps)) vs
 | .ml c l=>∃ vs e ex,o=some (.row vs e 0 0 0 ex)/\qwu (.ml c l:ZT K) e ex/\ql X sz w (qj1 X (.ml c l)) vs
 | .mp c f h l=>∃ d a,o=some (.map d a)/\d.length=l.length/\∀ (i:Nat) (x:K c) (e:V×V×Nat),l[i]? = some x->d[i]? = some e->q9h X sz w c f h x e
 | .si s n=>∃ b:Nat,n=(b:Int)/\o=some (.siter s b)
 | .lp r=>∃ g,w.lp id=some g/\o=some (qdo g r.mode)/\r.n=g.ln/\r.params=g.lp/\r.assign=g.la/\r.body=g.lb/\∀ i p,r.tmps.get i=some p->∃ v,g.lt.get i=some v/\Rep X sz w p v
def q5s:ZT K->Bool
 | .cs .. | .ml ..=>true
 | _=>false
theorem qbq.qbb {X:Codecs K} {sz:Nat->Nat} {w w':Wd} (m:∀ c x,(X.cells c x).length=sz c) (h:LeB w w') {id:Nat} (hi:id<w.n) {ct:ZT K} {o:Option O} (r:qbq X sz w id ct o):qbq X sz w' id ct o:=by
 cases ct with
 | cs t ps=>
  obtain ⟨vs,e,ex,f,j,d⟩:=r;exact ⟨vs,e,ex,f,j,d.qbb m h⟩
 | ml c l=>
  obtain ⟨vs,e,ex,f,j,d⟩:=r;exact ⟨vs,e,ex,f,j,d.qbb m h⟩
 | mp c C D l=>
  obtain ⟨q,k,f,j,d⟩:=r;exact ⟨q,k,f,j,λi x e a b=>⟨(d i x e a b).1.qbb m h,(d i x e a b).2.1,(d i x e a b).2.2.1.qbb m h,(d i x e a b).2.2.2⟩⟩
 | si s n=>exact r
 | lp E=>
  obtain ⟨g,f,j,d,u,y,z,A⟩:=r;refine ⟨g,by rw [h.lp id hi];exact f,j,d,u,y,z,λi p B=>?_⟩;obtain ⟨v,a,b⟩:=A i p B;exact ⟨v,a,b.qbb m h⟩
theorem qbq.mono {X:Codecs K} {sz:Nat->Nat} {w w':Wd} (a:∀ c x,(X.cells c x).length=sz c) (h:Le w w') {id:Nat} (hi:id<w.n) {ct:ZT K} {o:Option O} (r:qbq X sz w id ct o):qbq X sz w' id ct o:=r.qbb a h.toLeB hi
theorem qbq.row {X:Codecs K} {sz:Nat->Nat} {w:Wd} {id:Nat} {ct:ZT K} (a:q5s ct=true) {vs:List V} {e:TypeId} {ex:Bool} (b:qwu ct e ex) (d:ql X sz w (qj1 X ct) vs):qbq X sz w id ct (some (.row vs e 0 0 0 ex)):=by
 cases ct with
 | cs t ps=>exact ⟨vs,e,ex,rfl,b,d⟩
 | ml c l=>exact ⟨vs,e,ex,rfl,b,d⟩
 | lp r=>cases a
 | mp c f g l=>cases a
 | si s n=>cases a
theorem qbq.some {X:Codecs K} {sz:Nat->Nat} {w:Wd} {id:Nat} {ct:ZT K} {o:Option O} (r:qbq X sz w id ct o):o≠some .dfr/\o≠none:=by
 cases ct with
 | cs t ps=>
  obtain ⟨vs,e,ex,a,b,f⟩:=r;rw [a];exact ⟨by simp,by simp⟩
 | ml c l=>
  obtain ⟨vs,e,ex,a,b,f⟩:=r;rw [a];exact ⟨by simp,by simp⟩
 | mp c i j l=>
  obtain ⟨k,d,a,b,f⟩:=r;rw [a];exact ⟨by simp,by simp⟩
 | si s n=>
  obtain ⟨h,_,a⟩:=r;rw [a];exact ⟨by simp,by simp⟩
 | lp m=>
  obtain ⟨g,a,b,_⟩:=r;rw [b];unfold qdo
  split<;>exact ⟨by simp,by simp⟩
def zda (C:ZC K):Prop:=∀ f,C.ans f=false->C.E.spec f=none
def zl4 (C:ZC K):Prop:=
 ∀ f,C.prim f=true->∀ (H:Heap) (nm off lim:Nat) (vs:List V) (e:TypeId) (ex:Bool),(∀ n,H.next<=n->H.get n=none)->H.get nm=some (.row vs e 0 0 0 ex)->off+2<=lim->lim<=vs.length->
  (vs[off+1]? = some .nils->qaa C.E (.func f) [.ptr nm 0 off lim] H λv H'=>v=.str []/\H'=H)/\
  ∀ (b g len:Nat) (cells:List V) (d:TypeId) (a c:Nat) (h:Bool) (l:List UInt8),vs[off+1]? = some (.slice b g 0 len 1 none)->H.get b=some (.row cells d g a c h)->cells.length=len->a<=g->0<len->len<=140737488355328->
   C.codec d=some 0->qc6 cells=some l->(∀ v ∈ cells,isHole v=false)->H.ro<=b->b≠nm->qaa C.E (.func f) [.ptr nm 0 off lim] H λv H'=>v=.str l/\H'=H.put b (.row cells d g a (max c len) h)
def qt (C:ZC K):Prop:=zda C/\zl4 C
structure RelH (X:Codecs K) (sz:Nat->Nat) (C:ZC K) (base:Heap) (st:StV K) (H:Heap) (w:Wd):Prop where
 wf:∀ n,H.next<=n->H.get n=none
 rob:base.ro<=base.next/\base.qp=C.ng/\∀ gn o,C.gobj gn=some o->base.get gn=some o/\gn<base.next
 g:w.g=H.get
 nx:w.nx=H.next
 b:w.b=base.next
 Mlt:∀ n,w.M n->n<H.next
 n:w.n=st.next
 one:1<=st.next
 keeps:Keeps base H
 cl:∀ id,w.cl id->id<st.next/\w.c id<H.next/\base.next<=w.c id
 cinj:∀ id id',w.cl id->w.cl id'->w.c id=w.c id'->id=id'
 cells:∀ id ct,look st.cells id=some ct->w.cl id/\w.M (w.c id)/\qbq X sz w id ct (H.get (w.c id))
 owns:∀ i,w.owns i=look st.owns i
 ownn:∀ i s,look st.owns i=some s->i<st.next
 eta:∀ i s nm,look st.owns i=some s->w.eta i=some nm->base.next<=nm/\nm<H.next/\¬ w.M nm
 einj:∀ i j s s' nm,look st.owns i=some s->look st.owns j=some s'->w.eta i=some nm->w.eta j=some nm->i=j
 ce:w.ce=C.codec
 known:∀ id b,look st.known id=some b->id≠0/\id<st.next/\w.nu id=b
 globs:∀ gn ps,C.qp gn=some ps->gn<base.qp/\∃ vs e fl fz ex,base.get gn=some (.row vs e 0 fl fz ex)/\gn<base.next/\Rep X sz w (.eptr ps 0) (.ptr gn 0 0 vs.length)
def qmy (X:Codecs K) (sz:Nat->Nat) (w:Wd) (t:Tree (PV K)) (fr:Fr):Prop:=∀ i p,t.get i=some p->∃ v,fr.tmp i=some v/\Rep X sz w p v
def q19 (b:Nat) (w:Wd) (ds:List Dfr):Prop:=(∀ x ∈ ds,∃ m,x=.mark m/\b<=m/\w.fl<=m/\w.g m=some .dfr)/\ds.Nodup/\w.fl<=w.nx
theorem q19.mono {b:Nat} {w w':Wd} (h:Le w w') {ds:List Dfr} (a:q19 b w ds):q19 b w' ds:=by
 refine ⟨λx c=>?_,a.2.1,by rw [h.fl];exact zR a.2.2 h.nx⟩;obtain ⟨m,d,e,f,g⟩:=a.1 x c;exact ⟨m,d,e,by rw [h.fl];exact f,h.df m g⟩
theorem q19.nil {b:Nat} {w:Wd} (h:w.fl<=w.nx):q19 b w []:=⟨λx a=>(by cases a),List.nodup_nil,h⟩
structure Rel (X:Codecs K) (sz:Nat->Nat) (C:ZC K) (base:Heap) (st:StV K) (fr:Fr) (H:Heap) (w:Wd):Prop where
 h:RelH X sz C base st H w
 f:qmy X sz w st.tmps fr
 n:fr.n=st.n
 ds:q19 base.next w fr.defers
structure Near (st st':StV K):Prop where
 tmps:st'.tmps=st.tmps
 n:st'.n=st.n
 cells:st'.cells=st.cells
 owns:st'.owns=st.owns
theorem Near.refl (st:StV K):Near st st:=⟨rfl,rfl,rfl,rfl⟩
theorem Near.trans {st b a:StV K} (h:Near st b) (c:Near b a):Near st a:=
 ⟨c.tmps.trans h.tmps,c.n.trans h.n,c.cells.trans h.cells,c.owns.trans h.owns⟩
section
variable {X:Codecs K} {sz:Nat->Nat} {C:ZC K} {base H:Heap} {st:StV K} {fr:Fr} {w:Wd}
theorem zcm {id:Nat} {b:Bool} {l:List (Nat×Bool)} {j:Nat} {a:Bool} (h:look (zde id b l) j=some a):(id≠0/\j=id/\a=b)∨look l j=some a:=by
 unfold zde at h;by_cases c:id=0
 .subst c;simp only [Nat.beq_refl,zO,↓reduceIte] at h;exact .inr h
 .have:Nat.beq id 0=false:=by rw [<-Bool.not_eq_true,Nat.beq_eq];exact c
  rw [this] at h;simp only [zQ,Bool.false_eq_true,↓reduceIte,look] at h;by_cases d:id=j
  .subst d;simp only [↓reduceIte,zS] at h;exact .inl ⟨c,rfl,h.symm⟩
  .rw [zF d] at h;exact .inr h
theorem qk9 {l:List (Nat×ZT K)} {id:Nat} {ps:List (PV K)} (h:qyd l id=some ps):look l id=some (.cs (qug l id) ps):=by
 unfold qyd at h;split at h
 .rename_i t a e;cases h;rw [qug,e]
 .cases h
theorem qfv {l:List (Nat×ZT K)} {id c:Nat} {x:List (K c)} (h:qp2 l id c=some x):look l id=some (.ml c x):=by
 unfold qp2 at h;split at h
 .rename_i b y e;split at h
  .rename_i a;subst a;cases h;exact e
  .cases h
 .cases h
theorem RelH.ext (ok:CfgOk X sz C) (R:RelH X sz C base st H w) {m:Nat} {nu':Nat->Bool} (hm:st.next<=m) (f:∀ id,id<st.next->nu' id=w.nu id) :
  Le w {w with n:=m,nu:=nu'}/\RelH X sz C base {st with next:=m} H {w with n:=m,nu:=nu'}:=by
 have c:Le w {w with n:=m,nu:=nu'}:=
  ⟨⟨by rw [R.n];exact hm,λnm cs e k l o ex h r=>⟨r,[],k,o,ex,by rw [zJ];exact h⟩,λ_ _=>rfl,λid hi=>f id (by rw [<-R.n];exact hi),λ_ _ h=>h,
   λ_ _ _ _ h q=>by rw [h] at q;cases q;exact zN _,λ_ _ _ _ _=>⟨rfl,λ_ _ _=>rfl⟩,rfl,λ_ _=>.rfl,zN _,rfl,λ_ _ h=>h,λ_ _=>rfl⟩,λ_ h=>h,rfl⟩
 refine ⟨c,⟨R.wf,R.rob,R.g,R.nx,R.b,R.Mlt,rfl,zR R.one hm,R.keeps,λid h=>?_,R.cinj,λid ps h=>?_,R.owns,λi s h=>zL (R.ownn i s h) hm,R.eta,R.einj,R.ce,λid b h=>?_,λgn ps h=>?_⟩⟩
 .obtain ⟨a,d,j⟩:=R.cl id h;exact ⟨zL a hm,d,j⟩
 .obtain ⟨a,d,j⟩:=R.cells id ps h;exact ⟨a,d,j.mono ok.len c (by rw [R.n];exact (R.cl id a).1)⟩
 .obtain ⟨p,a,d⟩:=R.known id b h;exact ⟨p,zL a hm,(f id a).trans d⟩
 .obtain ⟨p,vs,e,fl,t,ex,a,d,j⟩:=R.globs gn ps h;exact ⟨p,vs,e,fl,t,ex,a,d,j.mono ok.len c⟩
theorem RelH.zeu (R:RelH X sz C base st H w) {id:Nat} {b:Bool} (hi:id≠0->id<st.next/\w.nu id=b):RelH X sz C base {st with known:=zde id b st.known} H w:=
 ⟨R.wf,R.rob,R.g,R.nx,R.b,R.Mlt,R.n,R.one,R.keeps,R.cl,R.cinj,R.cells,R.owns,R.ownn,R.eta,R.einj,R.ce,λj c h=>by
  rcases zcm h with ⟨a,rfl,rfl⟩ | h
  .exact ⟨a,hi a⟩
  .exact R.known j c h,R.globs⟩
variable {tbl:Tbl K} {inv:Nat->List (NV K)->Prop} {meas:Nat->List (NV K)->Nat}
theorem qw6 {p:PV K} {b:Bool} {k:Bool->StV K->Prop} (R:RelH X sz C base st H w) (j:Rep X sz w p (.bool b)) (h:br (qu X tbl inv meas) st p k) :
  ∃ a,k b a/\Near st a/\a.next=st.next/\RelH X sz C base a H w:=by
 rcases j.bool with rfl | ⟨id,neg,r,s,rfl,l,m,d⟩
 .exact ⟨st,h,.refl st,rfl,R⟩
 .simp only [br] at h;cases f:look st.known id with
  | some v=>
   rw [f] at h;obtain ⟨c,o,g⟩:=R.known _ _ f;have e:=(d c).2;rw [g] at e;simp only [<-e] at h;exact ⟨st,h,.refl st,rfl,R⟩
  | none=>
   rw [f] at h;obtain ⟨q,e⟩:=h;have i:id≠0->id<st.next:=λc=>by have:=(d c).1;rw [R.n] at this;exact this
   cases b with
   | true=>
    refine ⟨_,q (l.2 rfl),⟨rfl,rfl,rfl,rfl⟩,rfl,R.zeu λc=>⟨i c,?_⟩⟩;have:=(d c).2;revert this;cases w.nu id<;>cases neg<;>simp
   | false=>
    refine ⟨_,e (m.2 rfl),⟨rfl,rfl,rfl,rfl⟩,rfl,R.zeu λc=>⟨i c,?_⟩⟩;have:=(d c).2;revert this;cases w.nu id<;>cases neg<;>simp
theorem zat {v:V} (h:qg3 v=true):Rep X sz w (ofV (qu X tbl inv meas) v) v:=by
 unfold qg3 at h;split at h
 .simp only [ofV];exact .int λm a=>by cases a;rfl
 .simp only [ofV];exact .lit
 .simp only [ofV];exact .str
 .simp only [ofV];exact .nilp
 .simp only [ofV];exact .nils
 .simp only [ofV];exact .nilf
 .simp only [ofV];exact .nili
 .simp only [ofV,ofL];exact .func rfl rfl (λj p h=>by simp at h) (λj p h=>by simp at h)
 .cases h
theorem zas {l:List V} (h:l.all qg3=true):ql X sz w (ofL (qu X tbl inv meas) l) l:=by
 induction l with
 | nil=>simp only [ofL];exact .nil
 | cons v l a=>
  simp only [List.all_cons,zA] at h;exact .cons (zat h.1) (a h.2)
theorem qqv {v:V} {p:PV K} (h:qlo (qu X tbl inv meas) v=some p):Rep X sz w p v:=by
 unfold qlo at h;split at h
 .rename_i cs;cases a:cs.all qg3 with
  | true=>
   rw [a] at h;simp only [zO,↓reduceIte,zS] at h;subst h;simp only [ofV];exact .qqq (zas a)
  | false=>rw [a] at h;cases h
 .simp only [zS] at h;subst h;exact .undef
 .cases a:qg3 v with
  | true=>
   simp only [a,zO,↓reduceIte,zS] at h;subst h;exact zat a
  | false=>simp only [a,zQ,Bool.false_eq_true,↓reduceIte] at h;cases h
theorem qe5 {ti:TI} {ps:List (PV K)} (h:zeroCells (qu X tbl inv meas) ti=some ps):ql X sz w ps ti.zero.cells:=by
 unfold zeroCells at h;cases a:ti.zero.cells.all qg3 with
 | true=>
  rw [a] at h;simp only [zO,↓reduceIte,zS] at h;subst h;exact zas a
 | false=>rw [a] at h;cases h
theorem qo (R:Rel X sz C base st fr H w) {x:Operand} {p:PV K} (h:jj (qu X tbl inv meas) C st x=some p):∃ v,opd fr H x=some v/\Rep X sz w p v:=by
 cases x with
 | tmp t=>exact R.f t p h
 | const c=>
  obtain ⟨u,a,b⟩:=zI.1 h;exact ⟨u,a,qqv b⟩
 | global gn=>
  obtain ⟨ps,a,b⟩:=zM.1 h;subst b;obtain ⟨d,vs,e,fl,m,ex,g,i,k⟩:=R.h.globs gn ps a;refine ⟨_,?_,k⟩;have l:Nat.blt gn H.qp=true:=by rw [Nat.blt_eq,R.h.keeps.qp];exact d
  simp only [opd,l,zO,R.h.keeps.old gn i,g]
 | func f=>
  simp only [jj,zS] at h;subst h;exact ⟨_,rfl,.func rfl rfl (λj p h=>by simp at h) (λj p h=>by simp at h)⟩
theorem qcc (R:Rel X sz C base st fr H w):∀ {l:List Operand} {ps:List (PV K)},qey (qu X tbl inv meas) C st l=some ps->∃ vs,qay fr H l=some vs/\ql X sz w ps vs
 | [],ps,h=>by
  simp only [qey,zS] at h;subst h;exact ⟨[],rfl,.nil⟩
 | x::l,ps,h=>by
  simp only [qey] at h;obtain ⟨p,a,b⟩:=zI.1 h;obtain ⟨c,d,e⟩:=zM.1 b;subst e;obtain ⟨v,f,g⟩:=qo R a;obtain ⟨vs,i,j⟩:=qcc R d;exact ⟨v::vs,zg f i,.cons g j⟩
theorem qfw {fr':Fr} {H':Heap}:∀ {l:List Operand},(∀ x ∈ l,opd fr' H' x=opd fr H x)->qay fr' H' l=qay fr H l
 | [],_=>rfl
 | x::l,h=>by
  simp only [qay,h x zC,qfw λy a=>h y (zG _ a)]
theorem qvn {ti:TI} {ps:List (PV K)} {vs:List V} {off:Nat} {p:PV K} (r:ql X sz w ps vs) (h:zay ti ps off=some p):∃ v,qjy ti vs off=some v/\Rep X sz w p v:=by
 unfold zay at h;unfold qjy;cases a:ti.isAgg with
 | true=>
  rw [a] at h;simp only [zO,↓reduceIte] at h ⊢;rw [<-r.1];cases b:Nat.ble (off+ti.size) ps.length with
  | true=>
   rw [b] at h;simp only [zO,↓reduceIte,zS] at h ⊢;subst h;exact ⟨_,rfl,.qqq ((r.drop off).take ti.size)⟩
  | false=>rw [b] at h;cases h
 | false=>
  rw [a] at h;simp only [zQ,Bool.false_eq_true,↓reduceIte] at h ⊢;exact r.get h
theorem qii {ps a:List (PV K)} {vs us:List V} (r:ql X sz w ps vs) (b:ql X sz w a us) (off:Nat):ql X sz w (qcr ps off a) (setCells vs off us):=by
 unfold qcr setCells;rw [b.1];exact ((r.take off).append b).append (r.drop _)
theorem qjr {place:Nat->Option (Nat×Nat)}:∀ {parts:List (Nat×PV K)} {vparts:List (Nat×V)} {ps c:List (PV K)} {vs:List V},
  parts.map (·.1)=vparts.map (·.1)->ql X sz w (parts.map (·.2)) (vparts.map (·.2))->ql X sz w ps vs->qxu place ps parts=some c->∃ us,qds place vs vparts=some us/\ql X sz w c us
 | [],vparts,ps,c,vs,b,d,r,h=>by
  cases vparts with
  | nil=>
   simp only [qxu,zS] at h;subst h;exact ⟨vs,rfl,r⟩
  | cons _ _=>simp at b
 | (i,p)::parts,vparts,ps,c,vs,b,d,r,h=>by
  cases vparts with
  | nil=>simp at b
  | cons x vparts=>
   obtain ⟨j,v⟩:=x;simp only [List.map_cons,List.cons.injEq] at b;obtain ⟨rfl,b⟩:=b;simp only [List.map_cons] at d;obtain ⟨o,l,f,m,n⟩:=d.zk;simp only [List.cons.injEq] at f;obtain ⟨rfl,rfl⟩:=f;simp only [qxu] at h;split at h
   .cases h
   .rename_i off a e;have g:=m.cells;simp only [qds,e];rw [<-g.1,<-r.1];cases k:(Nat.beq p.cellsOf.length a&&Nat.ble (off+a) ps.length) with
    | false=>rw [k] at h;cases h
    | true=>
     rw [k] at h;simp only [zO,↓reduceIte] at h ⊢;exact qjr b n (qii r g off) h
end
end Go.E3
/- E3: OPERATORS AND COMPARISONS against E2's. -/
namespace Go.E3
open Go Go.E2
variable {K:Nat->Type}
theorem qo1 {k:IntKind} {x:Int} (h:InK k x):k.wrap x=x:=by
 cases k<;>simp only [InK] at h<;>simp only [IntKind.wrap,IntKind.bits,IntKind.signed]<;>
 first
  | omega
  | (simp;omega)
  | (rw [Int.bmod_eq_of_le]<;>omega)
def qhy (c:Bool×Prop×Prop):Prop:=(c.2.1↔c.1=true)/\(c.2.2↔c.1=false)
theorem qq4 {op:BinOp} {a b:Int} {c:Bool×Prop×Prop} (h:qve op a b=some c):qhy c:=by
 cases op<;>simp only [qve,zS,reduceCtorEq] at h<;>subst h<;>constructor<;>simp<;>omega
theorem zad {op:BinOp} {k:IntKind} {a b:Int} {c:Bool×Prop×Prop} (h:qve op a b=some c):jb op k a b=some (.bool c.1):=by
 cases op<;>simp only [qve,zS,reduceCtorEq] at h<;>subst h<;>simp only [jb,zS,V.bool.injEq]<;>first | rfl | (rw [Bool.eq_iff_iff];simp)
theorem zoo {op:BinOp} {k:IntKind} {a b:Int} {r:Prop×Int} (h:zon op k a b=some r) (c:r.1):jb op k a b=some (.int k r.2):=by
 cases op<;>simp only [zon,zS,reduceCtorEq] at h<;>subst h<;>simp only [jb]
 .rw [qo1 c]
 .rw [qo1 c]
 .rw [qo1 c]
 .rw [zF c.1,qo1 c.2]
 .rw [zF c]
theorem qrd {op:BinOp} {a b:List UInt8} {c:Bool×Prop×Prop} (h:qvu op a b=some c):qhy c:=by
 cases op<;>simp only [qvu,zS,reduceCtorEq] at h<;>subst h<;>constructor<;>simp
theorem za7 {op:BinOp} {a b:List UInt8} {c:Bool×Prop×Prop} (h:qvu op a b=some c):qks op a b=some (.bool c.1):=by
 cases op<;>simp only [qvu,zS,reduceCtorEq] at h<;>subst h<;>simp only [qks,zS,V.bool.injEq]
 .rw [Bool.eq_iff_iff];simp
 .rw [Bool.eq_iff_iff];simp
theorem qhy.not {c:Bool×Prop×Prop} (h:qhy c):qhy (!c.1,c.2.2,c.2.1):=by
 refine ⟨?_,?_⟩
 .rw [h.2];simp
 .rw [h.1];simp
theorem qw1:∀ {l:List (Bool×Prop×Prop)},(∀ c ∈ l,qhy c)->qhy (qm0 l)/\(qm0 l).1=l.all (·.1)
 | [],_=>by simp [qm0,qhy]
 | [c],h=>by simp [qm0,h c zC]
 | c::d::l,h=>by
  have a:=h c zC;obtain ⟨b,f⟩:=qw1 (l:=d::l) λx g=>h x (zG _ g);have e:qm0 (c::d::l)=(c.1&&(qm0 (d::l)).1,c.2.1/\(qm0 (d::l)).2.1,c.2.2∨(qm0 (d::l)).2.2):=rfl;rw [e];refine ⟨⟨?_,?_⟩,?_⟩
  .rw [a.1,b.1];simp
  .rw [a.2,b.2];cases c.1<;>simp
  .rw [List.all_cons,f]
def qhq:V->V->Bool
 | .int _ a,.int _ b=>a == b
 | .str a,.str b=>a == b
 | .bool a,.bool b=>a == b
 | _,_=>false
def qe6:List V->List V->Bool
 | [],[]=>true
 | a::c,b::d=>qhq a b&&qe6 c d
 | _,_=>false
section
variable {X:Codecs K} {sz:Nat->Nat} {w:Wd} {tbl:Tbl K} {inv:Nat->List (NV K)->Prop} {meas:Nat->List (NV K)->Nat}
theorem q0g {x y:PV K} {a b:V} {c:Bool×Prop×Prop} (rx:Rep X sz w x a) (e:Rep X sz w y b) (h:eqP (qu X tbl inv meas) x y=some c):qhy c/\c.1=qhq a b/\
  ((∃ k i j,a=.int k i/\b=.int k j)∨(∃ s t,a=.str s/\b=.str t)∨(∃ s t,a=.bool s/\b=.bool t)):=by
 unfold eqP at h;split at h
 .rename_i k g n l o m;cases rx;cases e;split at h
  .rename_i f;subst f;have d:qve .eql n m=some c:=h;refine ⟨qq4 d,?_,.inl ⟨k,n,m,rfl,rfl⟩⟩;simp only [qve,zS] at d;subst d;simp only [qhq];rw [Bool.eq_iff_iff];simp
  .cases h
 .rename_i s t;cases rx;cases e;have d:qvu .eql s t=some c:=h;refine ⟨qrd d,?_,.inr (.inl ⟨s,t,rfl,rfl⟩)⟩;simp only [qvu,zS] at d;subst d;simp only [qhq];rw [Bool.eq_iff_iff];simp
 all_goals first
  | (cases h;done)
  | (cases rx;cases e
     have d:=Option.some.inj h;subst d;exact ⟨⟨by simp [qu],by simp [qu]⟩,rfl,.inr (.inr ⟨_,_,rfl,rfl⟩)⟩)
theorem qxl:∀ {i j:List (PV K)} {e f:List V} {cs:List (Bool×Prop×Prop)},ql X sz w i e->ql X sz w j f->q71 (qu X tbl inv meas) i j=some cs->
  (∀ c ∈ cs,qhy c)/\cs.all (·.1)=qe6 e f
 | [],[],e,f,cs,rx,g,h=>by
  rw [rx.z6,g.z6];simp only [q71,zS] at h;subst h;exact ⟨λc p=>(by cases p),rfl⟩
 | [],y::j,e,f,cs,rx,g,h=>by simp [q71] at h
 | x::i,[],e,f,cs,rx,g,h=>by simp [q71] at h
 | x::i,y::j,e,f,cs,rx,g,h=>by
  obtain ⟨a,q,rfl,k,l⟩:=rx.zk;obtain ⟨b,r,rfl,m,n⟩:=g.zk;simp only [q71] at h;obtain ⟨c,s,t⟩:=zI.1 h;obtain ⟨u,v,z⟩:=zM.1 t;subst z;obtain ⟨A,B,_⟩:=q0g k m s;obtain ⟨C,D⟩:=qxl l n v;refine ⟨λd o=>?_,?_⟩
  .rcases zD.1 o with rfl | o
   .exact A
   .exact C d o
  .simp only [List.all_cons,qe6,B,D]
theorem qf0:∀ {l:List Leaf} {ps:List (PV K)} {vs:List V},ql X sz w ps vs->tiled l ps=true->jc l vs
 | l,[],vs,r,h=>by
  rw [r.z6];cases l with
  | nil=>trivial
  | cons _ _=>simp [tiled] at h
 | l,p::ps,vs,r,h=>by
  obtain ⟨v,b,rfl,c,a⟩:=r.zk;cases l with
  | nil=>simp [tiled] at h
  | cons k l=>
   cases k<;>cases c<;>first
    | (simp [tiled] at h;done)
    | (simp only [tiled,zA,decide_eq_true_eq] at h
       simp only [jc]
       first
        | exact ⟨h.1,qf0 a h.2⟩
        | exact qf0 a h)
end
theorem qch:∀ {l:List Leaf} {vs:List V},jc l vs->vs.length=l.length
 | [],[],_=>rfl
 | [],_::_,h=>by simp [jc] at h
 | k::l,[],h=>by simp [jc] at h
 | k::l,v::vs,h=>by
  cases k<;>cases v<;>first
   | (simp [jc] at h;done)
   | (simp only [jc] at h
      simp only [List.length_cons]
      first
       | rw [qch h.2]
       | rw [qch h])
theorem qe3:∀ {l a:List Leaf} {vs:List V},jc (l++a) vs->jc l (vs.take l.length)/\jc a (vs.drop l.length)
 | [],a,vs,h=>by simpa [jc] using h
 | k::l,a,[],h=>by simp [jc] at h
 | k::l,a,v::vs,h=>by
  rw [List.cons_append] at h;simp only [List.length_cons,List.take_succ_cons,List.drop_succ_cons];cases k<;>cases v<;>first
   | (simp [jc] at h;done)
   | (simp only [jc] at h ⊢
      first
       | exact ⟨⟨h.1,(qe3 h.2).1⟩,(qe3 h.2).2⟩
       | exact qe3 h)
theorem qxb {f d c e:List V} (h:f.length=c.length):qe6 (f++d) (c++e)=(qe6 f c&&qe6 d e):=by
 induction f generalizing c with
 | nil=>
  cases c with
  | nil=>simp [qe6]
  | cons _ _=>simp at h
 | cons a f g=>
  cases c with
  | nil=>simp at h
  | cons b c=>
   simp only [List.length_cons,Nat.add_right_cancel_iff] at h;simp only [List.cons_append,qe6,g h,Bool.and_assoc]
mutual
theorem q5e (E:Env):∀ (d:Nat) (t:TypeId) (l:List Leaf),qza E d t=some l->
  ∀ ti,E.types t=some ti->(ti.isAgg=true->0<l.length/\ti.size=l.length/\∀ j m,jc l j->jc l m->eqV E d t (.agg j) (.agg m)=some (qe6 j m))/\
   (ti.isAgg=false->l.length=1/\∀ a b,jc l [a]->jc l [b]->eqV E d t a b=some (qhq a b))
 | 0,_,_,h=>by simp [qza] at h
 | d+1,t,l,h=>by
  intro ti e;simp only [qza,e] at h;split at h
  .rename_i k i;cases f:ti.isAgg with
   | true=>rw [f] at h;cases h
   | false=>
    rw [f] at h;simp only [Bool.not_false,zO,↓reduceIte,zS] at h;subst h;refine ⟨λh=>(by cases h),λ_=>⟨rfl,λa b g c=>?_⟩⟩;cases a<;>simp only [jc] at g;cases b<;>simp only [jc] at c;obtain ⟨rfl,_⟩:=g;obtain ⟨rfl,_⟩:=c;simp only [eqV,e,i,if_true,qhq]
  .rename_i i;cases f:ti.isAgg with
   | true=>rw [f] at h;cases h
   | false=>
    rw [f] at h;simp only [Bool.not_false,zO,↓reduceIte,zS] at h;subst h;refine ⟨λh=>(by cases h),λ_=>⟨rfl,λa b g c=>?_⟩⟩;cases a<;>simp only [jc] at g;cases b<;>simp only [jc] at c;simp only [eqV,e,i,qhq]
  .rename_i i;cases f:ti.isAgg with
   | true=>rw [f] at h;cases h
   | false=>
    rw [f] at h;simp only [Bool.not_false,zO,↓reduceIte,zS] at h;subst h;refine ⟨λh=>(by cases h),λ_=>⟨rfl,λa b g c=>?_⟩⟩;cases a<;>simp only [jc] at g;cases b<;>simp only [jc] at c;simp only [eqV,e,i,qhq]
  .rename_i q i;cases n:(E.eqOk t&&ti.isAgg) with
   | false=>rw [n] at h;cases h
   | true=>
    rw [n] at h;simp only [zO,↓reduceIte] at h;simp only [zA] at n;obtain ⟨p,g,c⟩:=zI.1 h;cases o:(Nat.beq ti.size p.length&&Nat.blt 0 p.length) with
    | false=>rw [o] at c;cases c
    | true=>
     rw [o] at c;simp only [zO,↓reduceIte,zS] at c;subst c;rw [zA,Nat.beq_eq,Nat.blt_eq] at o;refine ⟨λ_=>⟨o.2,o.1,λj m r s=>?_⟩,λh=>(by rw [n.2] at h;cases h)⟩;simp only [eqV,e,i,n.1,zO,↓reduceIte];have:=q5a E d q.toList 0 p g j m (by simpa using r) (by simpa using s);simpa using this
  .cases h
theorem q5a (E:Env):∀ (d:Nat) (u:List Field) (off:Nat) (l:List Leaf),q1w E d u off=some l->
  ∀ b c:List V,jc l (b.drop off)->jc l (c.drop off)->eqFields E d u b c=some (qe6 (b.drop off) (c.drop off))
 | 0,_,_,_,h=>by simp [q1w] at h
 | d+1,[],off,l,h=>by
  intro b c v w;simp only [q1w,zS] at h;subst h;have J:=List.eq_nil_of_length_eq_zero (qch v);have K:=List.eq_nil_of_length_eq_zero (qch w);rw [J,K];rfl
 | d+1,f::u,off,l,h=>by
  intro b c v w;simp only [q1w] at h;cases m:Nat.beq f.offset off with
  | false=>rw [m] at h;cases h
  | true=>
   rw [m] at h;simp only [zO,↓reduceIte] at h;rw [Nat.beq_eq] at m;obtain ⟨a,n,L⟩:=zI.1 h;obtain ⟨r,M,N⟩:=zM.1 L;subst N;obtain ⟨g,o⟩:=qe3 v;obtain ⟨i,p⟩:=qe3 w;rw [List.drop_drop] at o p;have la:=qch v;have lb:=qch w;rw [List.length_append,List.length_drop] at la lb;have z:=qch g;have A:=qch i;rw [List.length_take,List.length_drop] at z A;have hty:∃ ti,E.types f.type=some ti:=by
    cases d with
    | zero=>simp [qza] at n
    | succ d=>
     simp only [qza] at n;split at n
     .cases n
     .rename_i ti j;exact ⟨ti,j⟩
   obtain ⟨ti,j⟩:=hty;have rest:=q5a E d u (off+a.length) r M b c o p;have e:∀ x:List V,x.drop off=(x.drop off).take a.length++x.drop (off+a.length):=by
    intro x;rw [<-List.drop_drop];exact (List.take_append_drop _ _).symm
   have q:((b.drop off).take a.length).length=((c.drop off).take a.length).length:=by
    rw [qch g,qch i]
   simp only [eqFields,j];rw [e b,e c,qxb q];have key:=q5e E d f.type a n ti j;cases y:ti.isAgg with
   | true=>
    obtain ⟨B,s,k⟩:=key.1 y;have C:Nat.ble (off+ti.size) b.length=true:=by rw [Nat.ble_eq];omega
    have D:Nat.ble (off+ti.size) c.length=true:=by rw [Nat.ble_eq];omega
    rw [s] at C D;simp only [qjy,y,zO,↓reduceIte,m,s,C,D,zB];rw [k _ _ g i];simp only [zB];cases O:qe6 ((b.drop off).take a.length) ((c.drop off).take a.length) with
    | true=>simp only [zO,↓reduceIte,Bool.true_and,rest]
    | false=>simp only [zQ,Bool.false_eq_true,↓reduceIte,Bool.false_and]
   | false=>
    obtain ⟨t,k⟩:=key.2 y;have F:off<b.length:=by omega
    have G:off<c.length:=by omega
    have H:(b.drop off).take a.length=[b[off]]:=by rw [t,List.drop_eq_getElem_cons F];rfl
    have I:(c.drop off).take a.length=[c[off]]:=by rw [t,List.drop_eq_getElem_cons G];rfl
    simp only [qjy,y,zQ,Bool.false_eq_true,↓reduceIte,m,List.getElem?_eq_getElem F,List.getElem?_eq_getElem G,zB];rw [H] at g;rw [I] at i;rw [H,I];rw [k _ _ g i];simp only [zB,qe6,Bool.and_true];cases O:qhq b[off] c[off] with
    | true=>simp only [zO,↓reduceIte,Bool.true_and,rest]
    | false=>simp only [zQ,Bool.false_eq_true,↓reduceIte,Bool.false_and]
end
end Go.E3
/- E3: OPERATIONS ON VALUES ALONE against E2's. -/
namespace Go.E3
open Go Go.E2
variable {K:Nat->Type}
section
variable {X:Codecs K} {sz:Nat->Nat} {C:ZC K} {base H:Heap} {st:StV K} {fr:Fr} {w:Wd}
variable {tbl:Tbl K} {inv:Nat->List (NV K)->Prop} {meas:Nat->List (NV K)->Nat}
def Res (X:Codecs K) (sz:Nat->Nat) (C:ZC K) (base H:Heap) (st:StV K) (w:Wd) (k:PV K->StV K->Prop) (b:V->Prop):Prop:=
 ∃ p a v w',k p a/\Near st a/\RelH X sz C base a H w'/\Le w w'/\Rep X sz w' p v/\b v
theorem Res.here {k:PV K->StV K->Prop} {a:V->Prop} {p:PV K} {v:V} (R:RelH X sz C base st H w) (b:k p st) (r:Rep X sz w p v) (he:a v):Res X sz C base H st w k a:=
 ⟨p,st,v,w,b,.refl st,R,.refl w,r,he⟩
theorem Res.cond (ok:CfgOk X sz C) {k:PV K->StV K->Prop} {b:V->Prop} {c:Bool×Prop×Prop} (R:RelH X sz C base st H w) (d:qhy c) (e:k (q55 st c).1 (q55 st c).2) (he:b (.bool c.1)):Res X sz C base H st w k b:=by
 obtain ⟨a,f⟩:=R.ext ok (m:=st.next+1) (nu':=λid=>if id=st.next then c.1 else w.nu id) (Nat.le_succ _) (λid hi=>by rw [zF (by omega)]);refine ⟨_,_,_,_,e,⟨rfl,rfl,rfl,rfl⟩,f,a,.sb d.1 d.2 λg=>⟨Nat.lt_succ_self _,?_⟩,he⟩;simp
theorem qgw {neg:Bool} {c:Bool×Prop×Prop} (h:qhy c):qhy (qr4 (qu X tbl inv meas) neg c)/\(qr4 (qu X tbl inv meas) neg c).1=(c.1 != neg):=by
 cases neg with
 | false=>simp only [qr4,zQ];exact ⟨h,by simp⟩
 | true=>simp only [qr4,zO];exact ⟨h.not,by simp [ztt,qu]⟩
def qr0 (E:Env) (neg:Bool) (t:TypeId) (a b:V) (r:Bool):Prop:=qbr E (if neg=true then .neq else .eql) t a b=some (.bool (r != neg))
theorem qk3 {E:Env} {neg:Bool} {t:TypeId} {a b:V} {r:Bool} (hi:∀ k i d j,a=.int k i->b≠.int d j) (c:∀ x y,a=.str x->b≠.str y) (h:eqV E 1000 t a b=some r):qr0 E neg t a b r:=by
 unfold qr0;cases neg
 .simp only [Bool.false_eq_true,if_false];cases a<;>cases b<;>first
   | (exact absurd rfl (hi _ _ _ _ rfl))
   | (exact absurd rfl (c _ _ rfl))
   | (simp only [qbr,h,zH];simp)
 .simp only [if_true];cases a<;>cases b<;>first
   | (exact absurd rfl (hi _ _ _ _ rfl))
   | (exact absurd rfl (c _ _ rfl))
   | (simp only [qbr,h,zH];simp)
theorem q5b {E:Env} {t:TypeId} {ti:TI} {x y:PV K} {a b:V} {r:Bool} (l:E.types t=some ti) (rx:Rep X sz w x a) (m:Rep X sz w y b) (h:zd5 E ti.under x y=some r):(∀ k i n j,a=.int k i->b≠.int n j)/\(∀ s q,a=.str s->b≠.str q)/\eqV E 1000 t a b=some r/\¬ (a=.nili/\b=.nili):=by
 unfold zd5 at h;split at h
 all_goals first
  | (cases h;done)
  | (rename_i f
     cases rx;cases m;simp only [zS] at h;subst h;refine ⟨by simp,by simp,?_,by simp⟩;simp only [eqV,l,f]
     done)
  | (rename_i e i o z j p A f
     cases rx;cases m;obtain ⟨u,v,c⟩:=zI.1 h;cases d:(!Nat.beq u.size 0&&Nat.beq i j) with
     | false=>rw [d] at c;cases c
     | true=>
      rw [d] at c;simp only [zO,↓reduceIte,zS] at c;subst c;simp only [zA] at d;have g:i=j:=zE d.2;subst g;refine ⟨by simp,by simp,?_,by simp⟩;simp only [eqV,l,f,v,zB,Nat.beq_refl,d.1,Bool.and_self,zO,↓reduceIte])
theorem qcv (ok:CfgOk X sz C) {k:PV K->StV K->Prop} {a:V->Prop} {c:Option (Bool×Prop×Prop)} (R:RelH X sz C base st H w) (h:qu6 st False c k) (b:∀ d,c=some d->qhy d/\a (.bool d.1)):Res X sz C base H st w k a:=by
 cases c with
 | none=>exact absurd h id
 | some d=>exact .cond ok R (b d rfl).1 h (b d rfl).2
theorem q58 (ok:CfgOk X sz C) (R:RelH X sz C base st H w) {neg:Bool} {t e:TypeId} {ti:TI} (f:C.E.types t=some ti) (hu:ti.under=.slice e) {x y:PV K} {a b:V} {k:PV K->StV K->Prop} (rx:Rep X sz w x a) (m:Rep X sz w y b)
  (h:zfd (qu X tbl inv meas) neg x y st k):Res X sz C base H st w k λv=>∃ r,qr0 C.E neg t a b r/\v=.bool (r != neg)/\¬ (a=.nili/\b=.nili):=by
 unfold zfd at h;have n:∀ r:Bool,qhy (r,r=true,r=false):=λr=>⟨Iff.rfl,Iff.rfl⟩;split at h
 .cases rx;cases m;refine .here R h .lit ⟨true,qk3 (by simp) (by simp) ?_,rfl,by simp⟩;simp only [eqV,f,hu]
 .rename_i c l own;cases m;cases rx with
  | nlist p=>
   have i:=h true (λ_=>rfl);refine qcv ok R i λd j=>?_;cases j;have g:=qgw (X:=X) (tbl:=tbl) (inv:=inv) (meas:=meas) (neg:=neg) (n true);refine ⟨g.1,true,qk3 (by simp) (by simp) ?_,congrArg V.bool g.2,by simp⟩;simp only [eqV,f,hu]
  | list=>
   have i:=h false (λo=>Bool.noConfusion o);refine qcv ok R i λd j=>?_;cases j;have g:=qgw (X:=X) (tbl:=tbl) (inv:=inv) (meas:=meas) (neg:=neg) (n false);refine ⟨g.1,false,qk3 (by simp) (by simp) ?_,congrArg V.bool g.2,by simp⟩;simp only [eqV,f,hu]
 .exact absurd h id
theorem qxm (ok:CfgOk X sz C) (R:RelH X sz C base st H w) {neg:Bool} {t:TypeId} {x y:PV K} {a b:V} {k:PV K->StV K->Prop} (rx:Rep X sz w x a) (q:Rep X sz w y b)
  (h:zh0 (qu X tbl inv meas) C.E neg t x y st k):Res X sz C base H st w k λv=>∃ r,qr0 C.E neg t a b r/\v=.bool (r != neg)/\¬ (a=.nili/\b=.nili):=by
 unfold zh0 at h;split at h
 .rename_i S i n J j m;cases rx with | int G=>cases q with | int I=>
  split at h
  .rename_i L;subst L;have:=G i rfl;subst this;have:=I j rfl;subst this;refine .here R h .lit ⟨i == j,?_,rfl,by simp⟩;cases neg<;>simp [qr0,qbr,jb,bne]
  .exact absurd h id
 .rename_i S l1 i J l2 j _;cases rx with | int G=>cases q with | int I=>
  split at h
  .rename_i L;subst L;refine qcv ok R h λd u=>?_;obtain ⟨c,f,rfl⟩:=zM.1 u
   replace f:qve .eql i j=some c:=f
   have g:=qgw (X:=X) (tbl:=tbl) (inv:=inv) (meas:=meas) (neg:=neg) (qq4 f);refine ⟨g.1,c.1,?_,by rw [g.2],by simp⟩;have:=zad (k:=S) f;simp only [jb,zS,V.bool.injEq] at this;cases neg<;>simp [qr0,qbr,jb,<-this,bne]
  .exact absurd h id
 .rename_i s A;cases rx;cases q;refine qcv ok R h λd u=>?_;obtain ⟨c,f,rfl⟩:=zM.1 u
  replace f:qvu .eql s A=some c:=f
  have g:=qgw (X:=X) (tbl:=tbl) (inv:=inv) (meas:=meas) (neg:=neg) (qrd f);refine ⟨g.1,c.1,?_,by rw [g.2],by simp⟩;have:=za7 f;simp only [qks,zS,V.bool.injEq] at this;cases neg<;>simp [qr0,qbr,qks,<-this]
 .rename_i T U;obtain ⟨vs,rfl,B⟩:=rx.qcw;obtain ⟨us,rfl,D⟩:=q.qcw;split at h
  .rename_i ti l o W;cases z:(ti.isAgg&&(tiled l T&&tiled l U)) with
   | false=>rw [z] at h;exact absurd h id
   | true=>
    rw [z] at h;simp only [zO] at h;simp only [zA] at z;refine qcv ok R h λd u=>?_;obtain ⟨cs,f,rfl⟩:=zM.1 u;obtain ⟨M,F⟩:=qxl B D f;obtain ⟨N,O⟩:=qw1 M;have g:=qgw (X:=X) (tbl:=tbl) (inv:=inv) (meas:=meas) (neg:=neg) N;refine ⟨g.1,(qm0 cs).1,?_,?_,by simp⟩
    .refine qk3 (by simp) (by simp) ?_;have:=((q5e C.E 1000 t l W ti o).1 z.1).2.2 vs us (qf0 B z.2.1) (qf0 D z.2.2);rw [this,O,F]
    .exact congrArg V.bool g.2
  .exact absurd h id
 .rename_i x y _ _ _ _;split at h
  .exact absurd h id
  .rename_i ti o;split at h
   .rename_i P;refine qcv ok R h λd u=>?_;obtain ⟨c,f,rfl⟩:=zM.1 u;obtain ⟨M,Q,p⟩:=q0g rx q f;have g:=qgw (X:=X) (tbl:=tbl) (inv:=inv) (meas:=meas) (neg:=neg) M;refine ⟨g.1,c.1,?_,by rw [g.2],?_⟩
    .rcases p with ⟨Y,i,j,rfl,rfl⟩ | ⟨s,A,rfl,rfl⟩ | ⟨s,A,rfl,rfl⟩
     .cases neg<;>simp [qr0,qbr,jb,Q,qhq,bne]
     .cases neg<;>simp [qr0,qbr,qks,Q,qhq]
     .refine qk3 (by simp) (by simp) ?_;simp only [eqV,o,P,Q,qhq]
    .rcases p with ⟨Y,i,j,rfl,rfl⟩ | ⟨s,A,rfl,rfl⟩ | ⟨s,A,rfl,rfl⟩<;>simp
   .rename_i e P;exact q58 ok R o P rx q h
   .split at h
    .rename_i r Z;obtain ⟨G,I,h3,h4⟩:=q5b o rx q Z;exact .here R h .lit ⟨r,qk3 G I h3,rfl,h4⟩
    .exact absurd h id
theorem q2d (ok:CfgOk X sz C) (R:RelH X sz C base st H w) {op:BinOp} {t:TypeId} {x y:PV K} {a b:V} {k:PV K->StV K->Prop} (G:op≠.shl/\op≠.shr) (rx:Rep X sz w x a) (u:Rep X sz w y b)
  (h:q7p (qu X tbl inv meas) op x y st k):Res X sz C base H st w k λv=>qbr C.E op t a b=some v/\¬ (a=.nili/\b=.nili):=by
 unfold q7p at h;have e:∀ f i j,qbr C.E op t (.int f i) (.int f j)=jb op f i j:=by
  intro f i j;cases op<;>simp_all [qbr]
 split at h
 .rename_i f i n z j m;cases rx with | int l=>cases u with | int o=>
  split at h
  .rename_i A;subst A;have:=l i rfl;subst this;have:=o j rfl;subst this;split at h
   .rename_i I n B;exact .here R h (.int λm D=>by cases D;rfl) ⟨by rw [e,B];rfl,by simp⟩
   .rename_i r B;exact .here R h .lit ⟨by rw [e,B],by simp⟩
   .exact absurd h id
  .exact absurd h id
 .rename_i f M i z N j _;cases rx with | int l=>cases u with | int o=>
  split at h
  .rename_i A;subst A;split at h
   .rename_i c F;refine qcv ok R h λd p=>?_;cases p;exact ⟨qq4 F,by rw [e,zad F],by simp⟩
   .split at h
    .rename_i r J;exact .here R h.2 (.int λm D=>by cases D) ⟨by rw [e,zoo J h.1],by simp⟩
    .exact absurd h id
  .exact absurd h id
 .rename_i s q;cases rx;cases u;have g:qbr C.E op t (.str s) (.str q)=qks op s q:=by
   cases op<;>simp_all [qbr]
  split at h
  .obtain ⟨l,o⟩:=h;refine .here R o .str ⟨?_,by simp⟩;have L:s.length+q.length<=1000000000:=l;have:Nat.ble (s.length+q.length) room=true:=by rw [Nat.ble_eq];unfold room;omega
   rw [g];simp only [qks,this,zO];rfl
  .refine qcv ok R h λd p=>?_;exact ⟨qrd p,by rw [g,za7 p],by simp⟩
 .exact absurd h id
theorem q7q (ok:CfgOk X sz C) (R:RelH X sz C base st H w) {op:BinOp} {t:TypeId} {x y:PV K} {a b:V} {k:PV K->StV K->Prop} (rx:Rep X sz w x a) (i:Rep X sz w y b)
  (h:zma (qu X tbl inv meas) C op t x y st k):Res X sz C base H st w k λv=>qbr C.E op t a b=some v/\¬ (a=.nili/\b=.nili):=by
 unfold zma at h;split at h
 .obtain ⟨p,c,v,w',f,g,d,e,j,r,l,rfl,m⟩:=qxm ok R rx i h;exact ⟨p,c,_,w',f,g,d,e,j,l,m⟩
 .obtain ⟨p,c,v,w',f,g,d,e,j,r,l,rfl,m⟩:=qxm ok R rx i h;exact ⟨p,c,_,w',f,g,d,e,j,l,m⟩
 .exact absurd h id
 .exact absurd h id
 .rename_i n f g d e;exact q2d ok R ⟨d,e⟩ rx i h
theorem zc6 (R:RelH X sz C base st H w) {op:UnOp} {x:PV K} {a:V} {k:PV K->StV K->Prop} (rx:Rep X sz w x a) (h:unP (qu X tbl inv meas) op x st k):Res X sz C base H st w k λv=>q1z op a=some v:=by
 unfold unP at h;split at h
 .rename_i g l n;cases rx with | int e=>
  obtain ⟨d,c⟩:=h;refine .here R c (.int λm i=>by cases i) ?_;have:g.wrap (0-n) = -n:=by rw [Int.zero_sub];exact qo1 d
  simp only [q1z,this];rfl
 .cases rx;exact .here R h .lit rfl
 .rename_i id neg b j o;cases rx with | sb e d c=>
  refine .here R h (.sb (b:=!b) (by rw [d];simp) (by rw [e];simp) λf=>⟨(c f).1,?_⟩) rfl;rw [(c f).2];cases w.nu id<;>cases neg<;>rfl
 .exact absurd h id
end
end Go.E3
/- E3: OPERATIONS ON VALUES ALONE against E2's, one by one. -/
namespace Go.E3
open Go Go.E2
variable {K:Nat->Type}
section
variable {X:Codecs K} {sz:Nat->Nat} {C:ZC K} {base H:Heap} {st:StV K} {fr:Fr} {w:Wd}
variable {tbl:Tbl K} {inv:Nat->List (NV K)->Prop} {meas:Nat->List (NV K)->Nat}
theorem qf {α:Type} {o:Option α} {k:α->Prop} (h:onS False o k):∃ a,o=some a/\k a:=by
 cases o with
 | none=>exact absurd h id
 | some a=>exact ⟨a,rfl,h⟩
theorem Res.pass {k:PV K->StV K->Prop} {c a:V->Prop} (h:Res X sz C base H st w k c) (he:∀ v,c v->a v):Res X sz C base H st w k a:=by
 obtain ⟨p,b,v,w',d,e,f,g,i,j⟩:=h;exact ⟨p,b,v,w',d,e,f,g,i,he v j⟩
def qen (op:Op):Bool:=
 match op with
 | .move _ | .assign _ | .pick .. | .build .. | .nilCheck _ | .binOp .. | .unOp .. | .convert .. | .makeInterface .. | .slice .. | .fieldAddr .. | .field .. | .indexAddr .. | .index .. | .extract ..=>true
 | .makeFunc .. | .typeAssert ..=>true
 | .call c=>match c.callee with
  | .builtin .len | .builtin .max | .builtin .min=>true
  | _=>false
 | _=>false
theorem qsg {i:PV K} {v:V} (h:Rep X sz w i v):∀ k l n,i=.int k l n->v=.int k n:=by
 rintro k l n rfl;cases h;rfl
theorem qpe {i:PV K} {n:Nat} {k:Nat->Prop} {v:V} (r:Rep X sz w i v) (h:sel (qu X tbl inv meas) i n k):∃ c j,v=.int c (j:Nat)/\j<n/\k j:=by
 unfold sel at h;split at h
 .rename_i c j x;cases r with | int e=>
  have:=e j rfl;subst this;split at h
  .rename_i b;refine ⟨c,j.toNat,?_,by omega,h⟩;congr 1;omega
  .exact absurd h id
 .rename_i c x;cases r with | int e=>
  obtain ⟨m,h⟩:=h;have o:0<=x/\x<(n:Int):=m;refine ⟨c,x.toNat,by congr 1;omega,by omega,?_⟩;have d:∀ (l:List Nat),(l.foldr (λ(j:Nat) (r:Prop)=>((x=(j:Int))->k j)/\r) True)->∀ j ∈ l,x=(j:Int)->k j:=by
   intro l
   induction l with
   | nil=>intro _ j b;cases b
   | cons a l p=>
    intro f j b g;rcases zD.1 b with rfl | b
    .exact f.1 g
    .exact p f.2 j b g
  exact d (List.range n) h x.toNat (List.mem_range.2 (by omega)) (by omega)
 .exact absurd h id
theorem qfp {c:Nat} {p:PV K} {l:List (K c)} {v:V} (r:Rep X sz w p v) (h:asL (qu X tbl inv meas) c p=some l):Rep X sz w (.list c l none) v:=by
 unfold asL at h;split at h
 .cases r;have e:some []=some l:=h;cases e;exact .nlist trivial
 .rename_i m n own;split at h
  .rename_i d;subst d;cases h;cases r with
   | nlist=>exact .nlist trivial
   | list f g i a j k b d o=>exact .list f g i a j k b d trivial
  .cases h
 .cases h
theorem jv {c:Nat} {l:List (K c)} {own:Option (Nat×Nat)} {v:V} (r:Rep X sz w (.list c l own) v):(l=[]/\v=.nils)∨
  ∃ nm gn off z cap cs e f a m ex,v=.slice nm gn off l.length z cap/\w.g nm=some (.row cs e f a m ex)/\a<=gn/\¬ w.M nm/\off+l.length * sz c<=cs.length/\(0<sz c/\(z=sz c∨(0<z/\l=[]/\cap=some 0)))/\(∀ k,cap=some k->l.length<=k)/\
   (∀ i (h:i<l.length) (j:Nat) (p:PV K),(X.cells c (l[i]'h))[j]? = some p->Rep X sz w p (cs.getD (off+i * sz c+j) zs))/\qli w sz c own (.slice nm gn off l.length z cap):=by
 cases r with
 | nlist=>exact .inl ⟨rfl,rfl⟩
 | list n o q b s t d u x=>
  subst b;exact .inr ⟨_,_,_,_,_,_,_,_,_,_,_,rfl,n,o,q,s,t,d,u,x⟩
theorem qut {c nm gn off z:Nat} {cap:Option Nat} {l:List (K c)} (a:0<sz c/\(z=sz c∨(0<z/\l=[]/\cap=some 0))):V.qb2 (sz c) (.slice nm gn off l.length z cap)=.slice nm gn off l.length (sz c) cap:=by
 rcases a.2 with rfl | ⟨_,_,rfl⟩
 .exact V.qg4
 .rfl
theorem qym (R:Rel X sz C base st fr H w) {x:Option Operand} {n:Option Int} (h:zfs (qu X tbl inv meas) C st x=some n):∃ v,qhm fr H x=some v/\(∀ i,n=some i->∃ k,v=some (.int k i))/\(n=none->v=none):=by
 cases x with
 | none=>
  simp only [zfs,zS] at h;subst h;exact ⟨none,rfl,(λi hi=>(by cases hi)),λ_=>rfl⟩
 | some x=>
  simp only [zfs] at h;split at h
  .rename_i k l m a;simp only [zS] at h;subst h;obtain ⟨v,b,r⟩:=qo R a;have:=qsg r k l m rfl;subst this;exact ⟨_,qup b,(λi hi=>⟨k,(by cases hi;rfl)⟩),λc=>(by cases c)⟩
  .cases h
theorem qax {n:Option Int} {v:Option V} {lo hi d:Nat} (a:∀ i,n=some i->∃ k,v=some (.int k i)) (b:n=none->v=none) (c:∀ i,n=some i->(lo:Int)<=i/\i<=hi):jx lo hi v d=some ((n.map Int.toNat).getD d):=by
 cases n with
 | none=>rw [b rfl];rfl
 | some i=>
  obtain ⟨k,rfl⟩:=a i rfl;exact q4w (c i rfl)
theorem zju {c:Nat} {l:List (K c)} {v:V} {lo hi:Option Int} {vlo f:Option V} (r:Rep X sz w (.list c l none) v)
  (G:∀ i,lo=some i->∃ k,vlo=some (.int k i)) (H:lo=none->vlo=none) (I:∀ i,hi=some i->∃ k,f=some (.int k i)) (J:hi=none->f=none) (x:(qpr l lo hi).1) :
  ∃ u,qbe (sz c) v vlo f none=some u/\Rep X sz w (.list c (qpr l lo hi).2 none) u:=by
 have R:∃ a b:Nat,a<=b/\b<=l.length/\(lo.map Int.toNat).getD 0=a/\(hi.map Int.toNat).getD l.length=b/\(∀ i,lo=some i->0<=i/\i<=(b:Int))/\(∀ i,hi=some i->0<=i/\i<=(l.length:Int))/\(qpr l lo hi).2=(l.take b).drop a:=by
  cases lo with
  | none=>cases hi with
   | none=>exact ⟨0,l.length,by omega,by omega,rfl,rfl,by simp,by simp,by simp [qpr]⟩
   | some j=>
    have y:0<=j/\j<=(l.length:Int):=x;refine ⟨0,j.toNat,by omega,by omega,rfl,rfl,by simp,?_,by simp [qpr,upto]⟩;intro i hi;cases hi;exact y
  | some i=>cases hi with
   | none=>
    have y:0<=i/\i<=(l.length:Int):=x;refine ⟨i.toNat,l.length,by omega,by omega,rfl,rfl,?_,by simp,by simp [qpr,Go.E3.fr]⟩;intro j S;cases S;omega
   | some j=>
    have y:0<=i/\i<=j/\j<=(l.length:Int):=x;refine ⟨i.toNat,j.toNat,by omega,by omega,rfl,rfl,?_,?_,by simp [qpr,Go.E3.sub]⟩
    .intro m n;cases n;omega
    .intro m n;cases n;omega
 obtain ⟨a,b,T,o,L,A,q,s,U⟩:=R;rw [U];unfold qbe;rcases jv r with ⟨rfl,rfl⟩ | ⟨nm,gn,off,z,cap,cs,e,W,B,Y,ex,rfl,Z,hf,hM,M,N,h,hc,ho⟩
 .have C:b=0:=by simpa using o
  subst C;have D:a=0:=by omega
  subst D;have E:jx 0 0 f 0=some 0:=by
   have:=qax (lo:=0) (hi:=0) (d:=0) I J (λi hi=>by have:=s i hi;simpa using this);rw [this];simp only [List.length_nil] at A;rw [A]
  have F:jx 0 0 vlo 0=some 0:=by
   have:=qax (lo:=0) (hi:=0) (d:=0) G H (λi hi=>by have:=q i hi;simpa using this);rw [this,L]
  refine ⟨.nils,?_,?_⟩
  .have n:jx 0 0 none 0=some 0:=rfl;simp only [V.qb2,qdv,n,zB,E,F];rfl
  .simp only [List.take_nil,List.drop_nil];exact .nlist trivial
 .have a0:l.length<=cap.getD l.length:=by
   cases cap with
   | none=>exact zN _
   | some k=>exact h k rfl
  have E:jx 0 (cap.getD l.length) f l.length=some b:=by
   have:=qax (lo:=0) (hi:=cap.getD l.length) (d:=l.length) I J (λi hi=>by have:=s i hi;omega);rw [this,A]
  have F:jx 0 b vlo 0=some a:=by
   have:=qax (lo:=0) (hi:=b) (d:=0) G H (λi hi=>by have:=q i hi;omega);rw [this,L]
  have g:((l.take b).drop a).length=b-a:=by
   rw [List.length_drop,List.length_take];omega
  refine ⟨.slice nm gn (off+a * sz c) (b-a) (sz c) (cap.map (· - a)),?_,?_⟩
  .rw [qut N];simp only [qdv,Nat.beq_refl,Bool.not_true,zQ];rw [E];simp only [zB];rw [F];rfl
  .refine .list Z hf hM g.symm ?_ ⟨N.1,.inl rfl⟩ ?_ ?_ trivial
   .have:a * sz c+(b-a) * sz c=b * sz c:=by rw [<-Nat.add_mul];congr 1;omega
    have:b * sz c<=l.length * sz c:=zU _ o;omega
   .intro k O;cases cap with
    | none=>cases O
    | some P=>
     cases O;have:=h P rfl;show b-a<=P-a;omega
   .intro i hi j p Q;have t:a+i<l.length:=by rw [g] at hi;omega
    have he:((l.take b).drop a)[i]'hi=l[a+i]'t:=by
     rw [List.getElem_drop,List.getElem_take]
    rw [he] at Q;have:=hc (a+i) t j p Q;have e3:off+a * sz c+i * sz c+j=off+(a+i) * sz c+j:=by rw [Nat.add_mul];omega
    rw [e3];exact this
theorem qhg (s:∀ c x,(X.cells c x).length=sz c) (t:w.g=H.get) {c:Nat} {l:List (K c)} {own:Option (Nat×Nat)} {v:V} (r:Rep X sz w (.list c l own) v) (I:0<sz c):∃ cs,km H (sz c) v=some (l.length,cs)/\ql X sz w (l.flatMap (X.cells c)) cs:=by
 unfold km;rcases jv r with ⟨rfl,rfl⟩ | ⟨nm,gn,off,z,cap,cs,e,J,i,L,ex,rfl,B,M,R,d,m,n,C,N⟩
 .exact ⟨[],rfl,.nil⟩
 .rw [qut m];rw [t] at B;have O:Nat.ble i gn=true:=by rw [Nat.ble_eq];exact M
  have D:Nat.ble (off+l.length * sz c) (off+l.length * sz c)=true:=by rw [Nat.ble_eq];exact zN _
  have E:Nat.ble (off+l.length * sz c) cs.length=true:=by rw [Nat.ble_eq];exact d
  suffices f:ql X sz w (l.flatMap (X.cells c)) ((cs.drop off).take (l.length * sz c)) from
   ⟨_,by simp only [qcj,Nat.beq_refl,zO,zq,B,O,D,E,Bool.and_self,qhl f.qyi,zH],f⟩
  .have o:(l.flatMap (X.cells c)).length=l.length * sz c:=by
    clear d D E C n r N m
    induction l with
    | nil=>simp
    | cons x l u=>rw [List.flatMap_cons,List.length_append,s,u,List.length_cons,Nat.add_mul];omega
   refine ⟨by rw [o,List.length_take,List.length_drop];omega,λj p b=>?_⟩;have F:=(List.getElem?_eq_some_iff.1 b).1;rw [o] at F;have y:∀ (k:List (K c)) (j:Nat) (p:PV K),(k.flatMap (X.cells c))[j]? = some p->∃ (h:j / sz c<k.length),(X.cells c (k[j / sz c]'h))[j % sz c]? = some p:=by
    intro k
    induction k with
    | nil=>intro j p b;simp at b
    | cons x k u=>
     intro j p b;rw [List.flatMap_cons] at b;by_cases a:j<sz c
     .rw [List.getElem?_append_left (by rw [s];exact a)] at b;have q:j / sz c=0:=Nat.div_eq_of_lt a;refine ⟨by rw [q];simp,?_⟩;simp only [q,List.getElem_cons_zero,Nat.mod_eq_of_lt a];exact b
     .rw [List.getElem?_append_right (by rw [s];omega),s] at b;obtain ⟨G,A⟩:=u _ _ b;have q:j / sz c=(j-sz c) / sz c+1:=by
       rw [<-Nat.sub_add_cancel (Nat.le_of_not_lt a),Nat.add_div_right _ I,Nat.add_sub_cancel]
      have P:j % sz c=(j-sz c) % sz c:=by
       rw [Nat.mod_eq_sub_mod (Nat.le_of_not_lt a)]
      refine ⟨by rw [q,List.length_cons];omega,?_⟩;simp only [q,List.getElem_cons_succ,P];exact A
   obtain ⟨G,A⟩:=y l j p b;have:=C _ G _ p A;have Q:off+j / sz c * sz c+j % sz c=off+j:=by
    rw [Nat.mul_comm,Nat.add_assoc,Nat.div_add_mod]
   rw [Q] at this;rw [List.getD_eq_getElem?_getD] at this ⊢;rw [List.getElem?_take,zT F,List.getElem?_drop];exact this
theorem Rel.ztr (ok:CfgOk X sz C) (R:Rel X sz C base st fr H w) {a:StV K} {w':Wd} (b:Near st a) (d:RelH X sz C base a H w') (hle:Le w w'):Rel X sz C base a fr H w':=
 ⟨d,λi p c=>by
  rw [b.tmps] at c;obtain ⟨v,e,g⟩:=R.f i p c;exact ⟨v,e,g.mono ok.len hle⟩,by rw [b.n];exact R.n,R.ds.mono hle⟩
theorem Res.mono {a:StV K} {w1:Wd} {k:PV K->StV K->Prop} {c:V->Prop} (d:Near st a) (hle:Le w w1) (h:Res X sz C base H a w1 k c):Res X sz C base H st w k c:=by
 obtain ⟨p,b,v,w',e,f,g,i,j,l⟩:=h;exact ⟨p,b,v,w',e,d.trans f,g,hle.trans i,j,l⟩
theorem zip_fst {α β γ:Type}:∀ {l:List α} {a:List β} {b:List γ},a.length=b.length->(l.zip a).map (·.1)=(l.zip b).map (·.1)
 | [],_,_,_=>by simp
 | x::l,[],[],_=>by simp
 | x::l,[],_::_,h=>by simp at h
 | x::l,_::_,[],h=>by simp at h
 | x::l,y::a,z::b,h=>by
  simp only [List.zip_cons_cons,List.map_cons,zip_fst (l:=l) (a:=a) (b:=b) (by simpa using h)]
theorem q4h {α:Type}:∀ {l:List α} {ps:List (PV K)} {vs:List V},ql X sz w ps vs->ql X sz w ((l.zip ps).map (·.2)) ((l.zip vs).map (·.2))
 | [],_,_,_=>by simpa using ql.nil
 | x::l,[],vs,h=>by rw [h.z6];simpa using ql.nil
 | x::l,p::ps,vs,h=>by
  obtain ⟨v,a,rfl,b,c⟩:=h.zk;simp only [List.zip_cons_cons,List.map_cons];exact .cons b (q4h c)
theorem q2f {E:Env} {ti:TI} {parts:List Nat} {ps:List (PV K)} {vs:List V} {k:PV K->StV K->Prop} (R:RelH X sz C base st H w) (r:ql X sz w ps vs) (h:q7r (qu X tbl inv meas) E ti parts ps st k) :
  Res X sz C base H st w k λv=>(match ti.under with
   | .struct c=>if !c.toList.all (λf=>(E.types f.type).isSome) then none else ((qds (λi=>(c[i]?).bind λf=>(E.types f.type).map λfi=>(f.offset,fi.size)) ti.zero.cells (parts.zip vs)).map V.agg)
   | .array _ e=>(E.types e).bind λd=>((qds (λi=>some (i * d.size,d.size)) ti.zero.cells (parts.zip vs)).map V.agg)
   | _=>none)=some v:=by
 unfold q7r at h;obtain ⟨z,s,h⟩:=qf h;have o:=qe5 (X:=X) (sz:=sz) (w:=w) s;have p:∀ {g:List (PV K)} {us:List V},ql X sz w g us->(parts.zip g).map (·.1)=(parts.zip us).map (·.1):=by
  intro g us t;exact zip_fst t.1
 have q:ql X sz w ((parts.zip ps).map (·.2)) ((parts.zip vs).map (·.2)):=by
  exact q4h r
 split at h
 .rename_i c j;cases l:c.toList.all (λf=>(E.types f.type).isSome) with
  | false=>rw [l] at h;exact absurd h id
  | true=>
   rw [l] at h;simp only [zO,↓reduceIte] at h;obtain ⟨cs,m,h⟩:=qf h;obtain ⟨us,a,b⟩:=qjr (p r) q o m;refine .here R h (.qqq b) ?_;simp only [j,l,Bool.not_true,zQ,Bool.false_eq_true,↓reduceIte];have:qds (λi=>(c[i]?).bind λf=>(E.types f.type).map λfi=>(f.offset,fi.size)) ti.zero.cells (parts.zip vs)=some us:=a;rw [this];rfl
 .rename_i n e j;obtain ⟨d,u,h⟩:=qf h;obtain ⟨cs,m,h⟩:=qf h;obtain ⟨us,a,b⟩:=qjr (p r) q o m;refine .here R h (.qqq b) ?_;simp only [j,u,zB,a,zH]
 .exact absurd h id
theorem qtw {α β:Type} (h:α=β) (l:List α):(h ▸ l:List β)=l.map λx=>(h ▸ x:β):=by
 subst h;simp
theorem q4x (ok:CfgOk X sz C):∀ {l:List (K 0)} {cs:List V},ql X sz w (l.flatMap (X.cells 0)) cs->qc6 cs=some (X.u8 ▸ l:List UInt8)
 | [],cs,r=>by
  rw [r.z6,qtw];rfl
 | x::l,cs,r=>by
  rw [List.flatMap_cons,ok.u8,List.singleton_append] at r;obtain ⟨v,vs,rfl,b,c⟩:=r.zk;cases b;have a:=q4x ok c;rw [qtw] at a ⊢;have d:(0:Int)<=(((X.u8 ▸ x:UInt8).toNat:Nat):Int)/\(((X.u8 ▸ x:UInt8).toNat:Nat):Int)<256:=by
   have:=(X.u8 ▸ x:UInt8).toNat_lt;omega
  simp only [qc6,zT d,a,zH,List.map_cons,Int.toNat_natCast,UInt8.ofNat_toNat]
end
end Go.E3
/- E3: OPERATIONS ON VALUES ALONE against E2's: the theorem. -/
namespace Go.E3
open Go Go.E2
variable {K:Nat->Type}
section
variable {X:Codecs K} {sz:Nat->Nat} {C:ZC K} {base H:Heap} {st:StV K} {fr:Fr} {w:Wd}
variable {tbl:Tbl K} {inv:Nat->List (NV K)->Prop} {meas:Nat->List (NV K)->Nat}
theorem q9l {p:PV K} {v:V} {k:Bool->StV K->Prop} (r:Rep X sz w p v) (h:br (qu X tbl inv meas) st p k):∃ b,v=.bool b:=by
 cases r with
 | lit=>exact ⟨_,rfl⟩
 | sb=>exact ⟨_,rfl⟩
 | _=>exact absurd h id
theorem zjv {s:List UInt8} {lo hi:Option Int} {vlo c:Option V}
  (l:∀ i,lo=some i->∃ k,vlo=some (.int k i)) (m:lo=none->vlo=none) (n:∀ i,hi=some i->∃ k,c=some (.int k i)) (o:hi=none->c=none) (e:(qpr s lo hi).1) :
  qbe 1 (.str s) vlo c none=some (.str (qpr s lo hi).2):=by
 have p:∃ a b:Nat,a<=b/\b<=s.length/\(lo.map Int.toNat).getD 0=a/\(hi.map Int.toNat).getD s.length=b/\(∀ i,lo=some i->0<=i/\i<=(b:Int))/\(∀ i,hi=some i->0<=i/\i<=(s.length:Int))/\(qpr s lo hi).2=(s.take b).drop a:=by
  cases lo with
  | none=>cases hi with
   | none=>exact ⟨0,s.length,by omega,by omega,rfl,rfl,by simp,by simp,by simp [qpr]⟩
   | some j=>
    have f:0<=j/\j<=(s.length:Int):=e;refine ⟨0,j.toNat,by omega,by omega,rfl,rfl,by simp,?_,by simp [qpr,upto]⟩;intro i hi;cases hi;exact f
  | some i=>cases hi with
   | none=>
    have f:0<=i/\i<=(s.length:Int):=e;refine ⟨i.toNat,s.length,by omega,by omega,rfl,rfl,?_,by simp,by simp [qpr,Go.E3.fr]⟩;intro j q;cases q;omega
   | some j=>
    have f:0<=i/\i<=j/\j<=(s.length:Int):=e;refine ⟨i.toNat,j.toNat,by omega,by omega,rfl,rfl,?_,?_,by simp [qpr,Go.E3.sub]⟩
    .grind
    .grind
 obtain ⟨a,b,r,t,u,v,g,h,w⟩:=p;rw [w];have x:jx 0 s.length c s.length=some b:=by
  have:=qax (lo:=0) (hi:=s.length) (d:=s.length) n o (λi hi=>by have:=h i hi;omega);rw [this,v]
 have y:jx 0 b vlo 0=some a:=by
  have:=qax (lo:=0) (hi:=b) (d:=0) l m (λi hi=>by have:=g i hi;omega);rw [this,u]
 simp only [qbe,V.qb2,qdv,x,y,zB,zH]
theorem q1g {fr':Fr} {H':Heap} {x:Option Operand} (h:∀ y,x=some y->opd fr' H' y=opd fr H y):qhm fr' H' x=qhm fr H x:=by
 cases x with
 | none=>rfl
 | some y=>simp only [qhm,h y rfl]
theorem qt1 (ok:CfgOk X sz C) (R:Rel X sz C base st fr H w) {inl:ZI K} {o:Oper} {k:PV K->StV K->Prop} {fr':Fr} {H':Heap} (hp:qen o.op=true)
  (D:∀ x ∈ o.op.operands.toList,opd fr' H' x=opd fr H x)
  (h:qba (qu X tbl inv meas) C inl o st k):Res X sz C base H st w k λv=>zb C.E o fr' H'=some (.val v,H'):=by
 cases A:o.op with
 | move x=>
  simp only [qba,A] at h;obtain ⟨p,I,g⟩:=qf h;clear h;have h:=g;clear g;obtain ⟨v,e,r⟩:=qo R I;have F:=(D x (by simp [A,Op.operands])).trans e;exact .here R.h h r (by simp only [zb,A,F,zH])
 | assign x=>
  simp only [qba,A] at h;obtain ⟨p,I,g⟩:=qf h;clear h;have h:=g;clear g;obtain ⟨v,e,r⟩:=qo R I;have F:=(D x (by simp [A,Op.operands])).trans e;exact .here R.h h r (by simp only [zb,A,F,zH])
 | pick c a b=>
  simp only [qba,A] at h;obtain ⟨p,I,g⟩:=qf h;clear h;have h:=g;clear g;obtain ⟨v,e,r⟩:=qo R I;obtain ⟨t,rfl⟩:=q9l r h;obtain ⟨ah,h,hn,av,R'⟩:=qw6 R.h r h;obtain ⟨q,h2,g⟩:=qf h;clear h;have h:=g;clear g;obtain ⟨u,T,r2⟩:=qo (R.ztr ok hn R' (.refl w)) h2;have F:=(D c (by simp [A,Op.operands])).trans e;have e3:opd fr' H' (if t then a else b)=some u:=by
   rw [<-T];cases t
   .exact D b (by simp [A,Op.operands])
   .exact D a (by simp [A,Op.operands])
  refine ⟨q,ah,u,w,h,hn,R',.refl w,r2,?_⟩;simp only [zb,A,F,e3,zH]
 | build t parts=>
  simp only [qba,A] at h;obtain ⟨ti,B,g⟩:=qf h;clear h;have h:=g;clear g;obtain ⟨ps,I,g⟩:=qf h;clear h;have h:=g;clear g;obtain ⟨vs,e,r⟩:=qcc R I;have F:qay fr' H' (parts.toList.map (·.2))=some vs:=by
   rw [qfw λx hx=>D x ?_]
   .exact e
   .simpa [A,Op.operands] using hx
  refine (q2f R.h r h).pass λv Z=>?_;simp only [zb,A,B,zB,F];split at Z
  .rename_i fs G;simp only [G];cases hf:(!fs.toList.all λf=>(C.E.types f.type).isSome) with
   | true=>rw [hf] at Z;cases Z
   | false=>
    rw [hf] at Z;simp only [zQ,Bool.false_eq_true,↓reduceIte] at Z ⊢;rw [Z];rfl
  .rename_i n e' G;simp only [G];obtain ⟨ei,h2,h3⟩:=zI.1 Z;simp only [h2,zB];rw [h3];rfl
  .cases Z
 | nilCheck x=>
  simp only [qba,A] at h;obtain ⟨p,I,g⟩:=qf h;clear h;have h:=g;clear g;obtain ⟨v,e,r⟩:=qo R I;have F:=(D x (by simp [A,Op.operands])).trans e;split at h
  .cases r with
   | cell hi=>exact .here R.h h (.cell hi) (by simp only [zb,A,F])
  .have r0:=r;cases r;exact .here R.h h r0 (by simp only [zb,A,F])
  .have r0:=r;cases r;exact .here R.h h r0 (by simp only [zb,A,F])
  .have r0:=r;cases r;exact .here R.h h r0 (by simp only [zb,A,F])
  .exact absurd h id
 | binOp op t x y u=>
  simp only [qba,A] at h;obtain ⟨p,I,g⟩:=qf h;clear h;have h:=g;clear g;obtain ⟨q,h2,g⟩:=qf h;clear h;have h:=g;clear g;obtain ⟨a,P,J⟩:=qo R I;obtain ⟨b,eb,rb⟩:=qo R h2;have F:=(D x (by simp [A,Op.operands])).trans P;have T:=(D y (by simp [A,Op.operands])).trans eb;refine (q7q ok R.h J rb h).pass λv Z=>?_;obtain ⟨Z,hn⟩:=Z;simp only [zb,A,F,T,zB];split
  .exact absurd ⟨rfl,rfl⟩ hn
  .rw [Z];rfl
 | unOp op t x=>
  simp only [qba,A] at h;obtain ⟨p,I,g⟩:=qf h;clear h;have h:=g;clear g;obtain ⟨a,P,J⟩:=qo R I;have F:=(D x (by simp [A,Op.operands])).trans P;refine (zc6 R.h J h).pass λv Z=>?_;simp only [zb,A,F,zB,Z,zH]
 | convert s d x=>simp only [qba,A] at h;exact absurd h id
 | makeInterface t x=>
  simp only [qba,A] at h;obtain ⟨ti,B,g⟩:=qf h;clear h;have h:=g;clear g;obtain ⟨p,I,g⟩:=qf h;clear h;have h:=g;clear g;obtain ⟨a,P,J⟩:=qo R I;have F:=(D x (by simp [A,Op.operands])).trans P;split at h
  .exact absurd h id
  .rename_i ai;refine .here R.h h (.iface J) ?_;simp only [zb,A,B,zB];rw [F]
   first
    | rfl
    | (split
       .rename_i u G;exact absurd G (ai _)
       .rfl)
 | makeFunc fn first a0=>
  cases fn with
  | func f=>
   simp only [qba,A] at h;obtain ⟨a,I,g⟩:=qf h;clear h;have h:=g;clear g;obtain ⟨c,h2,g⟩:=qf h;clear h;have h:=g;clear g;obtain ⟨va,P,J⟩:=qcc R I;obtain ⟨vc,ec,rc⟩:=qcc R h2;have F:qay fr' H' first.toList=some va:=by
    rw [qfw λx hx=>D x ?_]
    .exact P
    .simp [A,Op.operands,hx]
   have T:qay fr' H' a0.toList=some vc:=by
    rw [qfw λx hx=>D x ?_]
    .exact ec
    .simp [A,Op.operands,hx]
   refine .here R.h h (.func J.1 rc.1 J.2 rc.2) ?_;simp only [zb,A,F,T,zB,zH]
  | _=>simp only [qba,A] at h;exact absurd h id
 | slice t x lo hi mx=>
  cases mx with
  | some m=>cases lo<;>cases hi<;>(simp only [qba,A] at h;exact absurd h id)
  | none=>
   simp only [qba,A] at h;obtain ⟨ti,B,g⟩:=qf h;clear h;have h:=g;clear g;obtain ⟨p,I,g⟩:=qf h;clear h;have h:=g;clear g;obtain ⟨aw,h2,g⟩:=qf h;clear h;have h:=g;clear g;obtain ⟨ax,h3,g⟩:=qf h;clear h;have h:=g;clear g;obtain ⟨a,P,J⟩:=qo R I;obtain ⟨vlo,aj,l1,l2⟩:=qym R h2;obtain ⟨ak,al,r1,r2⟩:=qym R h3;have F:=(D x (by simp [A,Op.operands])).trans P;have T:qhm fr' H' lo=some vlo:=by
    rw [q1g λy hy=>D y ?_]
    .exact aj
    .subst hy;simp [A,Op.operands]
   have e3:qhm fr' H' hi=some ak:=by
    rw [q1g λy hy=>D y ?_]
    .exact al
    .subst hy;simp [A,Op.operands]
   unfold zgk at h;split at h
   .rename_i s G;cases J;refine .here R.h h.2 .str ?_;have:=zjv l1 l2 r1 r2 h.1;simp only [zb,A,B,F,T,e3,zB,G,this,zH];rfl
   .rename_i e G;obtain ⟨c,hc,g⟩:=qf h;clear h;have h:=g;clear g;obtain ⟨ei,L,g⟩:=qf h;clear h;have h:=g;clear g;obtain ⟨l,hl,g⟩:=qf h;clear h;have h:=g;clear g;have rl:=qfp J hl;obtain ⟨u,aa,an⟩:=zju rl l1 l2 r1 r2 h.1;refine .here R.h h.2 an ?_;have a4:=ok.size e c ei hc L;rw [<-a4] at aa;simp only [zb,A,B,F,T,e3,zB,G];cases a with
    | str s=>cases rl
    | _=>simp only [L,zB,aa,zH]
   .exact absurd h id
 | fieldAddr s x j=>
  simp only [qba,A] at h;obtain ⟨ti,B,g⟩:=qf h;clear h;have h:=g;clear g;obtain ⟨f,hf,g⟩:=qf h;clear h;have h:=g;clear g;obtain ⟨fi,a1,g⟩:=qf h;clear h;have h:=g;clear g;cases V:Nat.beq fi.size 0 with
  | true=>rw [V] at h;exact absurd h id
  | false=>
   rw [V] at h;simp only [zQ,Bool.false_eq_true,↓reduceIte] at h;obtain ⟨p,I,g⟩:=qf h;clear h;have h:=g;clear g;obtain ⟨a,P,J⟩:=qo R I;have F:=(D x (by simp [A,Op.operands])).trans P;split at h
   .cases J with
    | cell hi=>exact .here R.h h (.cell hi) (by simp only [zb,A,B,hf,a1,zB,V,zQ,Bool.false_eq_true,↓reduceIte,F])
   .cases J with
    | @eptr ps off nm gn d lim cs e a5 Q a6 ex hg a2 hM q1 q2 hc=>
     refine .here R.h h (.eptr hg a2 hM q1 q2 hc) ?_;simp only [zb,A,B,hf,a1,zB,V,zQ,Bool.false_eq_true,↓reduceIte,F,Nat.add_assoc]
   .cases J with
    | mptr hi h0 hn=>
     refine .here R.h h (.mptr hi h0 hn) ?_;simp only [zb,A,B,hf,a1,zB,V,zQ,Bool.false_eq_true,↓reduceIte,F,Nat.add_assoc]
   .exact absurd h id
 | field t x j=>
  simp only [qba,A] at h;obtain ⟨ti,B,g⟩:=qf h;clear h;have h:=g;clear g;obtain ⟨f,hf,g⟩:=qf h;clear h;have h:=g;clear g;obtain ⟨fi,a1,g⟩:=qf h;clear h;have h:=g;clear g;obtain ⟨p,I,g⟩:=qf h;clear h;have h:=g;clear g;obtain ⟨a,P,J⟩:=qo R I;have F:=(D x (by simp [A,Op.operands])).trans P;split at h
  .obtain ⟨vs,rfl,rl⟩:=J.qcw;obtain ⟨q,hq,g⟩:=qf h;clear h;have h:=g;clear g;obtain ⟨u,G,ru⟩:=qvn rl hq;exact .here R.h h ru (by simp only [zb,A,B,hf,a1,F,zB,G,zH])
  .exact absurd h id
 | indexAddr t x i=>
  simp only [qba,A] at h;obtain ⟨ti,B,g⟩:=qf h;clear h;have h:=g;clear g;obtain ⟨p,I,g⟩:=qf h;clear h;have h:=g;clear g;obtain ⟨q,h2,g⟩:=qf h;clear h;have h:=g;clear g;obtain ⟨a,P,J⟩:=qo R I;obtain ⟨b,eb,rb⟩:=qo R h2;have F:=(D x (by simp [A,Op.operands])).trans P;have T:=(D i (by simp [A,Op.operands])).trans eb;unfold zae at h;split at h
  .rename_i e G;split at h
   .rename_i es m _ ay;obtain ⟨ei,L,g⟩:=qf h;clear h;have h:=g;clear g;cases V:Nat.beq ei.size es with
    | false=>rw [V] at h;exact h.elim
    | true=>
     rw [V] at h;simp only [zO,↓reduceIte] at h;have:=zE V;subst this;obtain ⟨kd,j,rfl,hj,h⟩:=qpe rb h;cases J with
     | @plist _ _ _ _ nm gn d cs e' a5 Q a6 ex hg hf hM h0 q1 q2 hc=>
      refine .here R.h h (.eptr (off:=j * ei.size) (d:=d) (lim:=d+m * ei.size) hg hf hM (by omega) (by omega) hc) ?_;have N:Nat.beq ei.size ei.size=true/\(0:Int)<=(j:Int)/\(j:Int)<(m:Int):=⟨Nat.beq_refl _,by omega,by omega⟩;simp only [zb,A,B,F,T,G,L,zB,kj,zT N,zH,Int.toNat_natCast]
   .obtain ⟨c,hc,g⟩:=qf h;clear h;have h:=g;clear g;obtain ⟨ei,L,g⟩:=qf h;clear h;have h:=g;clear g;have a4:=ok.size e c ei hc L;split at h
    .rename_i kd lt n;have hb:=qsg rb kd lt n rfl;subst hb;split at h
     .rename_i id c' fx m _;cases a7:Nat.beq c c' with
      | false=>
       rw [a7] at h;exact h.elim
      | true=>
       rw [a7] at h;simp only [zO,↓reduceIte] at h;have:=zE a7;subst this;obtain ⟨hw,h⟩:=h;have W:0<=n/\n<m:=hw;cases J with
       | mlist hi h0=>
        refine .here R.h h (.mptr hi W.1 W.2) ?_;have N:Nat.beq ei.size (sz c)=true/\0<=n/\n<((m.toNat:Nat):Int):=⟨by rw [a4,Nat.beq_refl],by omega⟩;simp only [zb,A,B,F,T,G,L,zB,kj,zT N,zH,Nat.add_zero,Nat.zero_add]
     obtain ⟨l,hl,g⟩:=qf h;clear h;have h:=g;clear g;have rl:=qfp J hl;obtain ⟨hw,h⟩:=h;have W:0<=n/\n<(l.length:Int):=hw;rcases jv rl with ⟨rfl,rfl⟩ | ⟨nm,gn,off,z,cap,cs,e',a5,Q,a6,ex,rfl,hg,a2,hM,ab,V,au,Y,_⟩
     .simp at W;omega
     .have hi:n.toNat<l.length:=by omega
      obtain rfl:z=sz c:=by
       rcases V.2 with h | ⟨_,rfl,_⟩
       .exact h
       .simp at hi
      have he:l.getD n.toNat (X.dflt c)=l[n.toNat]'hi:=by rw [List.getD_eq_getElem?_getD,List.getElem?_eq_getElem hi];rfl
      have ad:(n.toNat+1) * sz c<=l.length * sz c:=zU _ (by omega);rw [Nat.add_mul,Nat.one_mul] at ad;refine .here R.h h (v:=.ptr nm gn (off+n.toNat * sz c+0) (off+l.length * sz c)) (.eptr hg a2 hM ?_ ab ?_) ?_
      .show off+n.toNat * sz c+(X.cells c (l.getD n.toNat (X.dflt c))).length<=_;rw [ok.len];omega
      .intro j p hp;have ae:(X.cells c (l.getD n.toNat (X.dflt c)))[j]? = some p:=hp;rw [he] at ae;exact Y _ hi j p ae
      .have N:Nat.beq ei.size (sz c)=true/\0<=n/\n<(l.length:Int):=⟨by rw [a4,Nat.beq_refl],W⟩;simp only [zb,A,B,F,T,G,L,zB,kj,zT N,zH,Nat.add_zero]
    .exact absurd h id
  .rename_i m e G;obtain ⟨ei,L,g⟩:=qf h;clear h;have h:=g;clear g;split at h
   .obtain ⟨kd,j,rfl,hj,h⟩:=qpe rb h;cases J with
    | cell hi=>
     refine .here R.h h (.cell hi) ?_;have N:(0:Int)<=(j:Int)/\(j:Int)<(m:Int):=by omega
     simp only [zb,A,B,F,T,G,L,zB,zT N,Int.toNat_natCast]
   .obtain ⟨kd,j,rfl,hj,h⟩:=qpe rb h;cases J with
    | @eptr ps off nm gn d lim cs e' a5 Q a6 ex hg a2 hM q1 q2 Y=>
     refine .here R.h h (.eptr hg a2 hM q1 q2 Y) ?_;have N:(0:Int)<=(j:Int)/\(j:Int)<(m:Int):=by omega
     simp only [zb,A,B,F,T,G,L,zB,zT N,Int.toNat_natCast,Nat.add_assoc]
   .exact absurd h id
  .exact absurd h id
 | index t x i=>
  simp only [qba,A] at h;obtain ⟨ti,B,g⟩:=qf h;clear h;have h:=g;clear g;obtain ⟨p,I,g⟩:=qf h;clear h;have h:=g;clear g;obtain ⟨q,h2,g⟩:=qf h;clear h;have h:=g;clear g;obtain ⟨a,P,J⟩:=qo R I;obtain ⟨b,eb,rb⟩:=qo R h2;have F:=(D x (by simp [A,Op.operands])).trans P;have T:=(D i (by simp [A,Op.operands])).trans eb;unfold ixP at h;split at h
  .rename_i G;split at h
   .rename_i s kd lt n;have hb:=qsg rb kd lt n rfl;subst hb;cases J;obtain ⟨hw,h⟩:=h;have W:0<=n/\n<(s.length:Int):=hw;refine .here R.h h (.int λm U=>by cases U) ?_;have hi:n.toNat<s.length:=by omega
    simp only [zb,A,B,F,T,G,zB,zT W.1,List.getElem?_eq_getElem hi,zH];have:(qu X tbl inv meas).sget s n=((s[n.toNat]'hi).toNat:Int):=by
     show bx s n=_;unfold bx;rw [List.getD_eq_getElem?_getD,List.getElem?_eq_getElem hi];rfl
    rw [this]
   .exact absurd h id
  .rename_i m e G;split at h
   .obtain ⟨vs,rfl,rl⟩:=J.qcw;obtain ⟨ei,L,g⟩:=qf h;clear h;have h:=g;clear g;obtain ⟨kd,j,rfl,hj,h⟩:=qpe rb h;obtain ⟨q,hq,g⟩:=qf h;clear h;have h:=g;clear g;obtain ⟨u,ao,ru⟩:=qvn rl hq;have N:(0:Int)<=(j:Int)/\(j:Int)<(m:Int):=by omega
    exact .here R.h h ru (by simp only [zb,A,B,F,T,G,L,zB,zT N,Int.toNat_natCast,ao,zH])
   .exact absurd h id
  .exact absurd h id
 | typeAssert x s t c=>
  cases c with
  | false=>simp only [qba,A] at h;exact absurd h id
  | true=>
  simp only [qba,A] at h;obtain ⟨ti,B,h⟩:=qf h;obtain ⟨p,I,h⟩:=qf h;obtain ⟨v,e,r⟩:=qo R I;have F:=(D x (by simp [A,Op.operands])).trans e;have aq:q2e (qu X tbl inv meas) t ti p st k->Res X sz C base H st w k λu=>qg8 t ti.zero true v=some u:=by
   intro h;cases p with
   | nili=>
    obtain ⟨z,V,h⟩:=qf h;cases r;exact .here R.h h (.tuple' (.cons (qqv V) (.cons .lit .nil))) (by simp only [qg8,zO,↓reduceIte])
   | iface u q=>
    cases r with | iface rq=>
    simp only [q2e] at h;cases hb:Nat.beq u t with
    | true=>
     rw [hb] at h;exact .here R.h h (.tuple' (.cons rq (.cons .lit .nil))) (by simp only [qg8,hb,zO,↓reduceIte])
    | false=>
     rw [hb] at h;obtain ⟨z,V,h⟩:=qf h;exact .here R.h h (.tuple' (.cons (qqv V) (.cons .lit .nil))) (by simp only [qg8,hb,zQ,Bool.false_eq_true,↓reduceIte,zO,↓reduceIte])
   | _=>exact absurd h id
  split at h
  .exact absurd h id
  .rename_i az;refine (aq h).pass λu G=>?_;simp only [zb,A,B,zB,F,G,zH]
 | extract x i=>
  simp only [qba,A] at h;obtain ⟨p,I,g⟩:=qf h;clear h;have h:=g;clear g;obtain ⟨a,P,J⟩:=qo R I;have F:=(D x (by simp [A,Op.operands])).trans P;split at h
  .obtain ⟨vs,rfl,rl⟩:=J.qei;obtain ⟨q,hq,g⟩:=qf h;clear h;have h:=g;clear g;obtain ⟨u,G,ru⟩:=rl.get hq;exact .here R.h h ru (by simp only [zb,A,F,zB,G,zH])
  .exact absurd h id
 | call c=>
  simp only [qba,A] at h;obtain ⟨ps,I,g⟩:=qf h;clear h;have h:=g;clear g;obtain ⟨vs,P,J⟩:=qcc R I;have F:qay fr' H' c.args.toList=some vs:=by
   rw [qfw λx hx=>D x ?_]
   .exact P
   .simp only [A,Op.operands,Call.operands,Array.toList_append,List.mem_append];exact .inr hx
  simp only [qen,A] at hp;split at hp
  .rename_i M;simp only [M] at h;simp only [zb,A,F,M,zB];unfold qiu at h;split at h
   .rename_i x t hb O;obtain ⟨a,af,rfl,S,a3⟩:=J.zk;have:=a3.z6;subst this;split at h
    .rename_i ti B;split at h
     .rename_i n e' p' G;refine .here R.h h (.int λm U=>by cases U;rfl) ?_;simp only [qam,O,B,zB,G];rfl
     .rename_i s G;cases S;refine .here R.h h (.int λm U=>by cases U) ?_;simp only [qam,O,B,zB,G];rfl
     .rename_i e' G;cases S;refine .here R.h h (.int λm U=>by cases U;rfl) ?_;simp only [qam,O,B,zB,G];rfl
     .rename_i e' c' l own G;refine .here R.h h (v:=qcn l.length) (.int λm U=>by cases U) ?_;rcases jv S with ⟨rfl,rfl⟩ | ⟨nm,gn,off,z,cap,cs,T,a5,Q,a6,ex,rfl,_⟩
      .simp only [qam,O,B,zB,G];rfl
      .simp only [qam,O,B,zB,G]
     .rename_i e' aA c' ar n' G;cases S with
      | mlist hi h0=>
       refine .here R.h h (v:=qcn n'.toNat) ?_ ?_
       .have:((n'.toNat:Nat):Int)=n':=Int.toNat_of_nonneg h0;show Rep X sz w _ (.int .i64 ((n'.toNat:Nat):Int));rw [this];exact .int λm U=>by cases U
       .simp only [qam,O,B,zB,G]
     .rename_i e' aB n' ar aC G;cases S with
      | plist=>
       refine .here R.h h (v:=qcn n') (.int λm U=>by cases U;rfl) ?_;simp only [qam,O,B,zB,G]
     .exact absurd h id
    .exact absurd h id
   all_goals first
    | contradiction
    | (exact absurd h id)
  .rename_i M;simp only [M] at h;simp only [zb,A,F,M,zB];unfold qiu at h;split at h
   all_goals first
    | contradiction
    | (exact absurd h id)
    | (obtain ⟨x,af,rfl,S,a3⟩:=J.zk
       obtain ⟨y,ag,rfl,a8,a9⟩:=a3.zk;have:=a9.z6;subst this;cases S;cases a8;exact .here R.h h (.int λm U=>by cases U) rfl)
  .rename_i M;simp only [M] at h;simp only [zb,A,F,M,zB];unfold qiu at h;split at h
   all_goals first
    | contradiction
    | (exact absurd h id)
    | (obtain ⟨x,af,rfl,S,a3⟩:=J.zk
       obtain ⟨y,ag,rfl,a8,a9⟩:=a3.zk;have:=a9.z6;subst this;cases S;cases a8;exact .here R.h h (.int λm U=>by cases U) rfl)
  .cases hp
 | _=>simp [qen,A] at hp
end
end Go.E3
/- E3: OPERATIONS ON MEMORY against E2's. -/
namespace Go.E3
open Go Go.E2
variable {K:Nat->Type}
theorem qdh {α:Type}:∀ {l:List (Nat×α)} {n:Nat} {a:α} {j:Nat},look (qez l n a) j=if j=n then some a else look l j
 | [],n,a,j=>by
  simp only [qez,look,cond_eq_ite,Nat.beq_eq];by_cases h:n=j
  .subst h;simp
  .rw [zF h,zF (Ne.symm h)]
 | (i,b)::l,n,a,j=>by
  simp only [qez,cond_eq_ite,Nat.beq_eq];by_cases hi:i=n
  .subst hi;rw [zT rfl];simp only [look,cond_eq_ite,Nat.beq_eq];by_cases c:i=j
   .subst c;simp
   .rw [zF c,zF (Ne.symm c),zF c]
  .rw [zF hi];simp only [look,cond_eq_ite,Nat.beq_eq];by_cases c:i=j
   .subst c;rw [zT rfl,zF hi,zT rfl]
   .rw [zF c,zF c,qdh]
theorem qaw {α:Type} {l:List (Nat×α)} {n:Nat} {a:α} {j:Nat}:look ((n,a)::l) j=if j=n then some a else look l j:=by
 simp only [look,cond_eq_ite,Nat.beq_eq];by_cases h:n=j
 .subst h;simp
 .grind
section
variable {X:Codecs K} {sz:Nat->Nat} {C:ZC K} {base H:Heap} {st:StV K} {fr:Fr} {w:Wd}
variable {tbl:Tbl K} {inv:Nat->List (NV K)->Prop} {meas:Nat->List (NV K)->Nat}
theorem Le.ext {m:Nat} {nu':Nat->Bool} (hm:w.n<=m) (a:∀ id,id<w.n->nu' id=w.nu id):Le w {w with n:=m,nu:=nu'}:=
 ⟨⟨hm,λnm cs e b c d ex h g=>⟨g,[],b,d,ex,by rw [zJ];exact h⟩,λ_ _=>rfl,a,λ_ _ h=>h,
  λ_ _ _ _ h f=>by rw [h] at f;cases f;exact zN _,λ_ _ _ _ _=>⟨rfl,λ_ _ _=>rfl⟩,rfl,λ_ _=>.rfl,zN _,rfl,λ_ _ h=>h,λ_ _=>rfl⟩,λ_ h=>h,rfl⟩
theorem q5o {neg b:Bool} {a c:Prop} {ps:List (PV K)} {n:Nat}:qbw (.sb 0 neg b a c::ps) n=(.sb n neg b a c::(qbw ps (n+1)).1,(qbw ps (n+1)).2):=by
 simp only [qbw]
theorem q2y {p:PV K} {ps:List (PV K)} {n:Nat} (h:∀ neg b a c,p≠.sb 0 neg b a c):qbw (p::ps) n=(p::(qbw ps n).1,(qbw ps n).2):=by
 cases p with
 | sb id neg b a c=>
  cases id with
  | zero=>grind
  | succ m=>rfl
 | _=>rfl
theorem qf8 (a:∀ c x,(X.cells c x).length=sz c):∀ {ps:List (PV K)} {vs:List V} {w:Wd},ql X sz w ps vs->1<=w.n->
  ∃ nu',(∀ id,id<w.n->nu' id=w.nu id)/\w.n<=(qbw ps w.n).2/\ql X sz {w with n:=(qbw ps w.n).2,nu:=nu'} (qbw ps w.n).1 vs
 | [],vs,w,r,h=>⟨w.nu,λ_ _=>rfl,zN _,by simp only [qbw];exact r⟩
 | p::ps,vs,w,r,h=>by
  obtain ⟨v,l,rfl,i,j⟩:=r.zk;by_cases k:∃ neg b e f,p=.sb 0 neg b e f
  .obtain ⟨neg,b,e,f,rfl⟩:=k;cases i with | sb m o s=>
   have g:Le w {w with n:=w.n+1,nu:=λid=>if id=w.n then (b != neg) else w.nu id}:=Le.ext (Nat.le_succ _) (λid hi=>by rw [zF (by omega)]);obtain ⟨nu',g1,g2,d⟩:=qf8 a (j.mono a g) (by show 1<=w.n+1;omega);simp only at g1 g2 d;rw [q5o];refine ⟨nu',λid hi=>?_,zR (Nat.le_succ _) g2,.cons (.sb m o λt=>⟨g2,?_⟩) d⟩
   .rw [g1 id (by omega),zF (by omega)]
   .show b=(nu' w.n != neg);rw [g1 w.n (by omega),zT rfl];cases b<;>cases neg<;>rfl
  .obtain ⟨nu',g1,g2,d⟩:=qf8 a j h;rw [q2y (by intro neg b e f q;exact k ⟨_,_,_,_,q⟩)];exact ⟨nu',g1,g2,.cons (i.mono a (Le.ext g2 g1)) d⟩
theorem qh6 (ok:CfgOk X sz C) (R:RelH X sz C base st H w) {p:PV K} {v:V} (r:Rep X sz w p v):∃ w',Near st (qdm p st).2/\RelH X sz C base (qdm p st).2 H w'/\Le w w'/\Rep X sz w' (qdm p st).1 v:=by
 unfold qdm;split
 .rename_i neg b h i;cases r with | sb f g j=>
  obtain ⟨a,c⟩:=R.ext ok (m:=st.next+1) (nu':=λid=>if id=st.next then (b != neg) else w.nu id) (Nat.le_succ _) (λid hi=>by rw [zF (by omega)]);refine ⟨_,⟨rfl,rfl,rfl,rfl⟩,c,a,.sb f g λk=>⟨Nat.lt_succ_self _,?_⟩⟩;show b=((if st.next=st.next then (b != neg) else w.nu st.next) != neg);rw [zT rfl];cases b<;>cases neg<;>rfl
 .rename_i cs;obtain ⟨vs,rfl,e⟩:=r.qcw;obtain ⟨nu',g1,g2,d⟩:=qf8 ok.len e (by rw [R.n];exact R.one);rw [R.n] at g1 g2 d;obtain ⟨a,c⟩:=R.ext ok g2 g1;exact ⟨_,⟨rfl,rfl,rfl,rfl⟩,c,a,.qqq d⟩
 .rename_i cs;obtain ⟨vs,rfl,e⟩:=r.qei;obtain ⟨nu',g1,g2,d⟩:=qf8 ok.len e (by rw [R.n];exact R.one);rw [R.n] at g1 g2 d;obtain ⟨a,c⟩:=R.ext ok g2 g1;exact ⟨_,⟨rfl,rfl,rfl,rfl⟩,c,a,.tuple' d⟩
 .exact ⟨w,.refl st,R,.refl w,r⟩
theorem qxc {ti:TI} {H':Heap} {nm gn off lim:Nat} {cs:List V} {e:TypeId} {gen floor k:Nat} {ex:Bool} {ps:List (PV K)} {d:Nat} {q:PV K}
  (m:H'.get nm=some (.row cs e gen floor k ex)) (n:floor<=gn) (D:d+ps.length<=lim) (o:lim<=cs.length) (r:∀ (j:Nat) (p:PV K),ps[j]? = some p->Rep X sz w p (cs.getD (d+j) zs))
  (E:off+ti.size<=ps.length) (b:(if ti.isAgg then some (.agg ((ps.drop off).take ti.size)) else if Nat.beq ti.size 1 then ps[off]? else none)=some q) :
  ∃ v,jr H' ti (.ptr nm gn (d+off) lim)=some v/\Rep X sz w q v:=by
 have s:Nat.ble floor gn=true:=by rw [Nat.ble_eq];exact n
 have t:Nat.ble (d+off+ti.size) lim=true:=by rw [Nat.ble_eq];omega
 have u:Nat.ble lim cs.length=true:=by rw [Nat.ble_eq];exact o
 have a:ql X sz w ((ps.drop off).take ti.size) ((cs.drop (d+off)).take ti.size):=by
  refine ⟨by rw [List.length_take,List.length_drop,List.length_take,List.length_drop];omega,λj p f=>?_⟩;rw [List.getElem?_take] at f;split at f
  .rename_i x;rw [List.getElem?_drop] at f;have:=r _ p f;rw [List.getD_eq_getElem?_getD] at this ⊢;rw [List.getElem?_take,zT x,List.getElem?_drop,Nat.add_assoc];exact this
  .cases f
 have c:zq H' ti.size (.ptr nm gn (d+off) lim)=some ((cs.drop (d+off)).take ti.size):=by
  simp only [zq,m,s,t,u,Bool.and_self,zO,↓reduceIte,qhl a.qyi]
 cases i:ti.isAgg with
 | true=>
  rw [i] at b;simp only [zO,↓reduceIte,zS] at b;subst b;exact ⟨_,by simp only [jr,c,zB,i,zO,↓reduceIte],.qqq a⟩
 | false=>
  rw [i] at b;simp only [zQ,Bool.false_eq_true,↓reduceIte] at b;cases l:Nat.beq ti.size 1 with
  | false=>rw [l] at b;cases b
  | true=>
   rw [l] at b;simp only [zO,↓reduceIte] at b;have g:=zE l;rw [g] at a c;have h:off<ps.length:=by omega
   have y:(ps.drop off).take 1=[q]:=by
    rw [List.drop_eq_getElem_cons h];rw [List.getElem?_eq_getElem h] at b;cases b;rfl
   rw [y] at a;obtain ⟨v,z,A,B,C⟩:=a.zk;have:=C.z6;subst this;refine ⟨v,?_,B⟩;simp only [jr,g,c,zB,i,zQ,Bool.false_eq_true,↓reduceIte,A]
theorem qxw (b:∀ c x,(X.cells c x).length=sz c) {c:Nat}:∀ {l:List (K c)} {i:Nat} (h:i<l.length) {j:Nat} {p:PV K},(X.cells c (l[i]'h))[j]? = some p->(l.flatMap (X.cells c))[i * sz c+j]? = some p
 | [],i,h,_,_,_=>by simp at h
 | x::l,0,h,j,p,a=>by
  simp only [List.getElem_cons_zero] at a;rw [List.flatMap_cons,Nat.zero_mul,Nat.zero_add,List.getElem?_append_left (List.getElem?_eq_some_iff.1 a).1];exact a
 | x::l,i+1,h,j,p,a=>by
  simp only [List.getElem_cons_succ] at a;have d:=qxw b (l:=l) (i:=i) (by simpa using h) a;rw [List.flatMap_cons,List.getElem?_append_right (by rw [b,Nat.add_mul,Nat.one_mul];omega),b];have:(i+1) * sz c+j-sz c=i * sz c+j:=by rw [Nat.add_mul,Nat.one_mul];omega
  rw [this];exact d
theorem qi2 (a:∀ c x,(X.cells c x).length=sz c) {c:Nat}:∀ {l:List (K c)},(l.flatMap (X.cells c)).length=l.length * sz c
 | []=>by simp
 | x::l=>by rw [List.flatMap_cons,List.length_append,a,qi2 a,List.length_cons,Nat.add_mul];omega
theorem q5m (ok:CfgOk X sz C) {c:Nat} {l:List (K c)}:(l.flatMap (X.cells c)).all qae=true:=by
 rw [List.all_eq_true];intro p a;obtain ⟨x,_,b⟩:=List.mem_flatMap.1 a;exact List.all_eq_true.1 (ok.one c x) p b
theorem q1h {ti:TI} {H':Heap} {nm d off lim:Nat} {vs:List V} {e:TypeId} {ex:Bool} {all ps:List (PV K)} {q:PV K} (f:H'.get nm=some (.row vs e 0 0 0 ex)) (c:ql X sz w all vs)
  (a:∀ (j:Nat) (p:PV K),ps[j]? = some p->all[d+j]? = some p) (g:d+ps.length<=lim) (i:lim<=all.length) (h:loadAt ti ps off=some q):∃ u,jr H' ti (.ptr nm 0 (d+off) lim)=some u/\Rep X sz w q u:=by
 unfold loadAt at h;cases b:Nat.ble (off+ti.size) ps.length with
 | false=>simp_all
 | true=>
  rw [b] at h;rw [Nat.ble_eq] at b;exact qxc f (zN _) g (by rw [<-c.1];exact i) (λj p k=>c.2 _ p (a j p k)) b h
theorem qjb (R:RelH X sz C base st H w) {ti:TI} {p q:PV K} {v:V} (r:Rep X sz w p v) (h:zak st ti p=some q) :
  ∃ nm gn off lim,v=.ptr nm gn off lim/\nm<H.next/\(∀ H':Heap,H'.get nm=H.get nm->∃ u,jr H' ti v=some u/\Rep X sz w q u)/\
   ((∃ id,(∃ o l,p=.cell id o l)/\nm=w.c id/\∃ ct,look st.cells id=some ct)∨(∃ cs o,p=.eptr cs o/\¬ w.M nm)):=by
 unfold zak at h;split at h
 .rename_i id off lim;obtain ⟨ps,A,f⟩:=zI.1 h;have z:=qk9 A;cases a:(Nat.ble (off+ti.size) lim&&Nat.ble lim ps.length) with
  | false=>rw [a] at f;cases f
  | true=>
   rw [a] at f;simp only [zO,↓reduceIte] at f;simp only [zA,Nat.ble_eq] at a;cases r with
   | cell hi=>
    obtain ⟨k,_,vs,e,ex,b,_,m⟩:=R.cells id _ z;have m:ql X sz w ps vs:=m;refine ⟨_,_,_,_,rfl,(R.cl id k).2.1,λH' n=>?_,.inl ⟨id,⟨_,_,rfl⟩,rfl,_,z⟩⟩;have:=q1h (ti:=ti) (H':=H') (nm:=w.c id) (d:=0) (off:=off) (lim:=lim) (ps:=ps.take lim) (q:=q) (by rw [n];exact b) m (λj p i=>by
      rw [List.getElem?_take] at i;split at i
      .rw [Nat.zero_add];exact i
      .cases i) (by rw [List.length_take];omega) a.2 ?_
    .rw [Nat.zero_add] at this;exact this
    .unfold loadAt;have s:Nat.ble (off+ti.size) (ps.take lim).length=true:=by rw [Nat.ble_eq,List.length_take];omega
     rw [s,zT rfl,<-f];cases ti.isAgg with
     | true=>
      simp only [zO,↓reduceIte];congr 2;rw [List.drop_take,List.take_take];congr 1;omega
     | false=>
      simp only [zQ,Bool.false_eq_true,↓reduceIte];cases t:Nat.beq ti.size 1 with
      | false=>rfl
      | true=>
       simp only [zO,↓reduceIte];have:=zE t;rw [List.getElem?_take,zT (by omega)]
 .rename_i cs off;unfold loadAt at h;cases a:Nat.ble (off+ti.size) cs.length with
  | false=>rw [a] at h;cases h
  | true=>
   rw [a] at h;simp only [zO,↓reduceIte] at h;rw [Nat.ble_eq] at a;cases r with
   | @eptr ps off nm gn d lim B e D x E ex b F G I J L=>
    rw [R.g] at b;refine ⟨_,_,_,_,rfl,?_,λH' n=>qxc (by rw [n];exact b) F I J L a h,.inr ⟨_,_,rfl,G⟩⟩;by_cases y:nm<H.next
    .exact y
    .rw [R.wf nm (by omega)] at b;cases b
 .cases h
theorem qns (ok:CfgOk X sz C) (R:RelH X sz C base st H w) {ti:TI} {p:PV K} {v:V} {k:PV K->StV K->Prop} (r:Rep X sz w p v) (h:ze1 (qu X tbl inv meas) ti p st k) :
  ∃ q,k (qdm q st).1 (qdm q st).2/\∃ nm gn off lim,v=.ptr nm gn off lim/\nm<H.next/\(∀ H':Heap,H'.get nm=H.get nm->∃ u,jr H' ti v=some u/\Rep X sz w q u)/\
   ((∃ id,((∃ o l,p=.cell id o l)∨∃ c i n o,p=.mptr id c i n o)/\nm=w.c id/\∃ ct,look st.cells id=some ct)∨(∃ cs o,p=.eptr cs o/\¬ w.M nm)):=by
 unfold ze1 at h;split at h
 .rename_i id c i n off;obtain ⟨l,z,A⟩:=qf h;obtain ⟨f,B⟩:=A;obtain ⟨q,D,g⟩:=qf B;have x:n<=(l.length:Int):=f;have y:=qfv z;obtain ⟨m,U,vs,e,ex,E,_,F⟩:=R.cells id _ y;cases r with
  | mptr hi W Y=>
   have a:i.toNat<l.length:=by omega
   have G:l.getD i.toNat (X.dflt c)=l[i.toNat]'a:=by rw [List.getD_eq_getElem?_getD,List.getElem?_eq_getElem a];rfl
   refine ⟨q,g,_,_,_,_,rfl,(R.cl id m).2.1,λH' I=>?_,.inl ⟨id,.inr ⟨_,_,_,_,rfl⟩,rfl,_,y⟩⟩;have s:(i.toNat+1) * sz c<=n.toNat * sz c:=zU _ (by omega);have t:n.toNat * sz c<=l.length * sz c:=zU _ (by omega);rw [Nat.add_mul,Nat.one_mul] at s;have d:loadAt ti (X.cells c (l.getD i.toNat (X.dflt c))) off=some q:=D;rw [G] at d;refine q1h (by rw [I];exact E) F (λj p J=>qxw ok.len a J) (by rw [ok.len];omega) ?_ d;show _<=(l.flatMap (X.cells c)).length;rw [qi2 ok.len];exact t
 .obtain ⟨q,h,g⟩:=qf h;refine ⟨q,g,?_⟩;obtain ⟨nm,gn,off,lim,L,N,O,P⟩:=qjb R r h;refine ⟨nm,gn,off,lim,L,N,O,?_⟩;rcases P with ⟨id,Q,S,T⟩ | b
  .exact .inl ⟨id,.inl Q,S,T⟩
  .exact .inr b
end
end Go.E3
/- E3: STORES AND NEW VARIABLES AND LISTS against E2's. -/
namespace Go.E3
open Go Go.E2
variable {K:Nat->Type}
section
variable {X:Codecs K} {sz:Nat->Nat} {C:ZC K} {base H:Heap} {st:StV K} {fr:Fr} {w:Wd}
variable {tbl:Tbl K} {inv:Nat->List (NV K)->Prop} {meas:Nat->List (NV K)->Nat}
theorem q87 {ti:TI} {a x:PV K} {c:StV K} (h:q86 st ti a x=some c):∃ id off lim ps,a=.cell id off lim/\qyd st.cells id=some ps/\x.cellsOf.length=ti.size/\off+ti.size<=lim/\lim<=ps.length/\x.cellsOf.all qae=true/\
  c = {st with cells:=qez st.cells id (.cs (qug st.cells id) (qcr ps off x.cellsOf))}:=by
 unfold q86 at h;split at h
 .rename_i id off lim;obtain ⟨ps,e,d⟩:=zI.1 h;cases b:(Nat.beq x.cellsOf.length ti.size&&Nat.ble (off+ti.size) lim&&Nat.ble lim ps.length&&x.cellsOf.all qae) with
  | false=>rw [b] at d;cases d
  | true=>
   rw [b] at d;simp only [zO,↓reduceIte,zS] at d;simp only [zA,Nat.ble_eq] at b;exact ⟨id,off,lim,ps,rfl,e,zE b.1.1.1,b.1.1.2,b.1.2,b.2,d.symm⟩
 .cases h
theorem qjh (ok:CfgOk X sz C) (R:RelH X sz C base st H w) {id:Nat} {ct ct':ZT K} {o:O} (N:look st.cells id=some ct)
  (P:qbq X sz w id ct' (some o)):∃ w',RelH X sz C base {st with cells:=qez st.cells id ct'} (H.put (w.c id) o) w'/\Le w w':=by
 obtain ⟨k,x,y⟩:=R.cells id _ N;obtain ⟨z,A,l⟩:=R.cl id k;let H':=H.put (w.c id) o;have a:∀ nm,nm≠w.c id->H'.get nm=H.get nm:=λnm t=>zd t;have p:H'.get (w.c id)=some o:=zo;have j:Le w {w with g:=H'.get}:=by
  refine ⟨⟨zN _,λnm cs e B D E ex h u=>⟨u,[],B,E,ex,?_⟩,λ_ _=>rfl,λ_ _=>rfl,λ_ _ h=>h,λ_ _ _ _ h f=>(by rw [h] at f;cases f;exact zN _),λi s hi M _=>⟨rfl,λnm t _=>?_⟩,rfl,λ_ _=>.rfl,zN _,rfl,λ_ _ h=>h,λ_ _=>rfl⟩,λm F=>?_,rfl⟩
  .rw [zJ];show H'.get nm=_;rw [a nm (by intro q;subst q;exact u x),<-R.g];exact h
  .show H'.get nm=w.g nm;rw [R.owns] at M;obtain ⟨_,_,G⟩:=R.eta i s nm M t;rw [a nm (by intro q;subst q;exact G x),R.g]
  .show H'.get m=_;rw [R.g] at F;rw [a m (by intro q;subst q;exact y.some.1 F)];exact F
 refine ⟨{w with g:=H'.get},?_,j⟩;refine ⟨λn t=>?_,R.rob,rfl,R.nx,R.b,R.Mlt,R.n,R.one,R.keeps.put l _,R.cl,R.cinj,λd r f=>?_,R.owns,R.ownn,R.eta,R.einj,R.ce,R.known,λgn r f=>?_⟩
 .have I:H.next<=n:=t
  rw [a n (by omega)];exact R.wf n I
 .simp only [qdh] at f;by_cases hi:d=id
  .subst hi;rw [zT rfl] at f;cases f;refine ⟨k,x,?_⟩;show qbq X sz _ d _ (H'.get (w.c d));rw [p];exact P.mono ok.len j (by rw [R.n];exact z)
  .rw [zF hi] at f;obtain ⟨v,J,Q⟩:=R.cells d r f;refine ⟨v,J,?_⟩;show qbq X sz _ d _ (H'.get (w.c d));rw [a _ (by intro q;exact hi (R.cinj d id v k q))];exact Q.mono ok.len j (by rw [R.n];exact (R.cl d v).1)
 .obtain ⟨S,L,T,fl,U,ex',v,J,V⟩:=R.globs gn r f;exact ⟨S,L,T,fl,U,ex',v,J,V.mono ok.len j⟩
theorem q8z (ok:CfgOk X sz C) (R:RelH X sz C base st H w) {id:Nat} {ct ct':ZT K} {a:List V} {e:TypeId} {ex:Bool} (b:look st.cells id=some ct) (hlp:q5s ct'=true)
  (hty:qwu ct' e ex) (d:ql X sz w (qj1 X ct') a):∃ w',RelH X sz C base {st with cells:=qez st.cells id ct'} (H.put (w.c id) (.row a e 0 0 0 ex)) w'/\Le w w':=
 qjh ok R b (.row hlp hty d)
theorem qur {α:Type} {l:List (Nat×α)} {id:Nat} {x y:α} (h:look l id=some x) (j:Nat):(look (qez l id y) j).isSome=(look l j).isSome:=by
 rw [qdh];by_cases a:j=id
 .simp_all
 .rw [zF a]
theorem q60 (a:∀ c x,(X.cells c x).length=sz c) {c:Nat}:∀ {l:List (K c)} {i:Nat} (h:i<l.length) (x:K c),(l.set i x).flatMap (X.cells c)=qcr (l.flatMap (X.cells c)) (i * sz c) (X.cells c x)
 | [],i,h,_=>by simp at h
 | y::l,0,h,x=>by
  simp only [List.set_cons_zero,List.flatMap_cons,qcr,Nat.zero_mul,List.take_zero,List.nil_append,Nat.zero_add];rw [List.drop_append,a,a,List.drop_eq_nil_of_le (by rw [a];exact zN _)];simp
 | y::l,i+1,h,x=>by
  have b:=q60 a (l:=l) (i:=i) (by simpa using h) x;simp only [List.set_cons_succ,List.flatMap_cons,b];have d:(i+1) * sz c=(X.cells c y).length+i * sz c:=by rw [a,Nat.add_mul,Nat.one_mul,Nat.add_comm]
  simp only [qcr,d,List.take_length_add_append,Nat.add_assoc,List.drop_length_add_append,List.append_assoc]
theorem qz0 {xs a:List V} {d off m:Nat} (b:off+a.length<=m) (c:d+m<=xs.length):setCells xs d (setCells ((xs.drop d).take m) off a)=setCells xs (d+off) a:=by
 apply List.ext_getElem?;intro j;simp only [setCells,List.getElem?_append,List.length_append,List.length_take,List.length_drop,List.getElem?_take,List.getElem?_drop];have e:min d xs.length=d:=by omega
 have f:min off (min m (xs.length-d))=off:=by omega
 have g:min (d+off) xs.length=d+off:=by omega
 have h:off+a.length+(min m (xs.length-d)-(off+a.length))=m:=by omega
 repeat' split
 all_goals first
  | rfl
  | (exfalso;omega)
  | (congr 1;omega)
  | (rw [List.getElem?_eq_none (by omega)];done)
  | (rw [List.getElem?_eq_none (by omega),List.getElem?_eq_none (by omega)];done)
theorem q0o (a:∀ c x,(X.cells c x).length=sz c) {c:Nat}:∀ {l:List (K c)} {i:Nat} (h:i<l.length),((l.flatMap (X.cells c)).drop (i * sz c)).take (sz c)=X.cells c (l[i]'h)
 | [],i,h=>by simp at h
 | y::l,0,h=>by
  simp only [List.flatMap_cons,Nat.zero_mul,List.drop_zero,List.getElem_cons_zero];rw [<-a c y,List.take_left]
 | y::l,i+1,h=>by
  have b:=q0o a (l:=l) (i:=i) (by simpa using h);have d:(i+1) * sz c=(X.cells c y).length+i * sz c:=by rw [a,Nat.add_mul,Nat.one_mul,Nat.add_comm]
  simp only [List.flatMap_cons,List.getElem_cons_succ,d,List.drop_length_add_append];exact b
theorem qs9 (ok:CfgOk X sz C) (R:RelH X sz C base st H w) {ti:TI} {a x:PV K} {I p:V} {k:PV K->StV K->Prop} (ra:Rep X sz w a I) (rx:Rep X sz w x p) (h:q85 (qu X tbl inv meas) ti a x st k) :
  ∃ f id off lim H' w',k qmm f/\((∃ o l,a=.cell id o l)∨∃ c i n o,a=.mptr id c i n o)/\I=.ptr (w.c id) 0 off lim/\w.c id<H.next/\id<st.next/\w.cl id/\base.next<=w.c id/\
   (∀ H0:Heap,H0.get (w.c id)=H.get (w.c id)->H0.ro<=w.c id->∃ row,H'=H.put (w.c id) row/\qfm H0 ti I p=some (H0.put (w.c id) row))/\qfm H ti I p=some H'/\
   f.tmps=st.tmps/\f.n=st.n/\f.next=st.next/\RelH X sz C base f H' w'/\Le w w'/\(∀ j,(look f.cells j).isSome=(look st.cells j).isSome)/\(look st.cells id).isSome=true:=by
 have G:=rx.cells;have J:∀ {id off lim:Nat} {ct ct':ZT K} {vs:List V} {e:TypeId} {ex:Bool},look st.cells id=some ct->H.get (w.c id)=some (.row vs e 0 0 0 ex)->x.cellsOf.length=ti.size->
   off+ti.size<=lim->lim<=vs.length->x.cellsOf.all qae=true->q5s ct'=true->qwu ct' e ex->ql X sz w (qj1 X ct') (setCells vs off p.cells)->
   ∃ H' w',w.c id<H.next/\id<st.next/\w.cl id/\base.next<=w.c id/\
   (∀ H0:Heap,H0.get (w.c id)=H.get (w.c id)->H0.ro<=w.c id->∃ row,H'=H.put (w.c id) row/\qfm H0 ti (.ptr (w.c id) 0 off lim) p=some (H0.put (w.c id) row))/\qfm H ti (.ptr (w.c id) 0 off lim) p=some H'/\
   RelH X sz C base {st with cells:=qez st.cells id ct'} H' w'/\Le w w':=by
  intro id off lim ct ct' vs e ex g L b A B d hlp hty m;obtain ⟨u,hM,_⟩:=R.cells id _ g;obtain ⟨Q,D,q⟩:=R.cl id u;have v:∀ H0:Heap,H0.get (w.c id)=H.get (w.c id)->H0.ro<=w.c id->qfm H0 ti (.ptr (w.c id) 0 off lim) p=some (H0.put (w.c id) (.row (setCells vs off p.cells) e 0 0 0 ex)):=by
   intro H0 S E;have c1:Nat.beq p.cells.length ti.size=true:=by rw [<-G.1,b];exact Nat.beq_refl _
   have c2:(Nat.beq 0 0&&Nat.ble (off+p.cells.length) lim&&Nat.ble lim vs.length&&Nat.ble 0 off&&p.cells.all V.jg)=true:=by
    simp only [zA,Nat.ble_eq];exact ⟨⟨⟨⟨rfl,by rw [<-G.1,b];exact A⟩,B⟩,Nat.zero_le _⟩,G.qsu d⟩
   simp only [qfm,c1,zO,↓reduceIte,jk,S,L,c2,kq E]
  have E:H.ro<=w.c id:=by rw [R.keeps.ro];exact zR R.rob.1 q
  obtain ⟨w',R',F⟩:=q8z ok R (e:=e) (ex:=ex) g hlp hty m;exact ⟨_,w',D,Q,u,q,λH0 T s=>⟨_,rfl,v H0 T s⟩,v H rfl E,R',F⟩
 unfold q85 at h;split at h
 .rename_i id c i n off;obtain ⟨l,T,s⟩:=qf h;have g:=qfv T;obtain ⟨u,hM,vs,e,ex,L,hty,m⟩:=R.cells id _ g;have m:ql X sz w (l.flatMap (X.cells c)) vs:=m;cases P:(Nat.beq x.cellsOf.length ti.size&&Nat.ble (off+ti.size) (X.cells c (l.getD i.toNat (X.dflt c))).length&&x.cellsOf.all qae) with
  | false=>
   have s:(if (Nat.beq x.cellsOf.length ti.size&&Nat.ble (off+ti.size) (X.cells c (l.getD i.toNat (X.dflt c))).length&&x.cellsOf.all qae) then _ else False):=s;rw [P] at s;exact s.elim
  | true=>
   have s:(if (Nat.beq x.cellsOf.length ti.size&&Nat.ble (off+ti.size) (X.cells c (l.getD i.toNat (X.dflt c))).length&&x.cellsOf.all qae) then _ else False):=s;rw [P] at s;simp only [zO,↓reduceIte] at s;obtain ⟨r,U,F,M,W⟩:=qf s;simp only [zA,Nat.ble_eq] at P;obtain ⟨⟨b,N⟩,d⟩:=P;have b:=zE b;have a2:n<=(l.length:Int):=F;rw [ok.len] at N;cases ra with
   | mptr hi h0 hn=>
    have t:i.toNat<l.length:=by omega
    have he:l.getD i.toNat (X.dflt c)=l[i.toNat]'t:=by rw [List.getD_eq_getElem?_getD,List.getElem?_eq_getElem t];rfl
    have Y:(i.toNat+1) * sz c<=n.toNat * sz c:=zU _ (by omega);have a3:n.toNat * sz c<=l.length * sz c:=zU _ (by omega);rw [Nat.add_mul,Nat.one_mul] at Y;have a4:vs.length=l.length * sz c:=by rw [<-m.1,qi2 ok.len]
    have rel:ql X sz w (X.cells c (l[i.toNat]'t)) ((vs.drop (i.toNat * sz c)).take (sz c)):=by
     rw [<-q0o ok.len t];exact (m.drop _).take _
    have y:X.pack c (qcr (X.cells c (l.getD i.toNat (X.dflt c))) off x.cellsOf)=some (r.1,r.2):=U;rw [he] at y;have O:=ok.pack c _ r.1 r.2 y M w _ (qii rel G off);have z:=qii m O (i.toNat * sz c);rw [<-q60 ok.len t,qz0 (by rw [<-G.1];omega) (by omega)] at z;obtain ⟨H',w',Z,b2,b3,b4,b5,b6,b7,b8⟩:=J (off:=i.toNat * sz c+off) (lim:=n.toNat * sz c) (ct':=.ml c (l.set i.toNat r.2)) g L b (by omega) (by omega) d rfl trivial z;exact ⟨_,id,_,_,H',w',W,.inr ⟨_,_,_,_,rfl⟩,rfl,Z,b2,b3,b4,b5,b6,rfl,rfl,rfl,b7,b8,λj=>qur g j,by rw [g];rfl⟩
 .obtain ⟨f,a0,W⟩:=qf h;obtain ⟨id,off,lim,ps,rfl,g,b,A,B,d,rfl⟩:=q87 a0;have g:=qk9 g;obtain ⟨u,hM,vs,e,ex,L,hty,m⟩:=R.cells id _ g;have m:ql X sz w ps vs:=m;have a1:I=.ptr (w.c id) 0 off lim:=by cases ra;rfl
  subst a1;obtain ⟨H',w',Z,b2,b3,b4,b5,b6,b7,b8⟩:=J (ct':=.cs (qug st.cells id) (qcr ps off x.cellsOf)) g L b A (by rw [<-m.1];exact B) d rfl (zj0 hty) (qii m G off);exact ⟨_,id,off,lim,H',w',W,.inl ⟨_,_,rfl⟩,rfl,Z,b2,b3,b4,b5,b6,rfl,rfl,rfl,b7,b8,λj=>qur g j,by rw [g];rfl⟩
def Wd.new (w:Wd) (H:Heap) (row:O) (m:Nat) (wr:Bool) (e:Nat->Nat) (a:Nat->Option Nat) (b:Nat->Option Nat) (d:Nat->Prop):Wd:=
 {w with nx:=H.next+1,cl:=d,g:=(H.new row).get,M:=λn=>w.M n∨(wr=true/\n=H.next),n:=m,c:=e,owns:=a,eta:=b}
theorem Le.new (R:RelH X sz C base st H w) {row:O} {m:Nat} {wr:Bool} {u:Nat->Nat} {a d:Nat->Option Nat} {j:Nat->Prop} (t:st.next<=m) (y:∀ id,id<st.next->u id=w.c id)
  (z:∀ i,i<st.next->look st.owns i=none->a i=none) (A:∀ i s k,i<st.next->look st.owns i=some s->a i=some k->s<=k)
  (B:∀ i s,i<st.next->look st.owns i=some s->a i=some s->d i=w.eta i) (l:∀ id,id<st.next->(j id↔w.cl id)):Le w (w.new H row m wr u a d j):=by
 have f:∀ nm x,w.g nm=some x->(H.new row).get nm=some x/\nm<H.next:=by
  intro nm x h;rw [R.g] at h;have b:nm<H.next:=by
   by_cases b:nm<H.next
   .exact b
   .rw [R.wf nm (by omega)] at h;cases h
  exact ⟨by rw [ke b];exact h,b⟩
 refine ⟨⟨by rw [R.n];exact t,λnm cs e o p q ex h D=>?_,λid hi=>y id (by rw [<-R.n];exact hi),λ_ _=>rfl,λi hi h=>z i (by rw [<-R.n];exact hi) (by rw [<-R.owns];exact h),
  λi s k hi h r=>A i s k (by rw [<-R.n];exact hi) (by rw [<-R.owns];exact h) r,λi s hi h r=>⟨B i s (by rw [<-R.n];exact hi) (by rw [<-R.owns];exact h) r,λnm E _=>?_⟩,rfl,λid hi=>l id (by rw [<-R.n];exact hi),by rw [R.nx];exact Nat.le_succ _,rfl,λ_ _ h=>.inl h,λ_ _=>rfl⟩,λm t=>(f m _ t).1,rfl⟩
 .obtain ⟨F,G⟩:=f nm _ h;refine ⟨?_,[],o,q,ex,by rw [zJ];exact F⟩;rintro (v | ⟨_,v⟩)
  .exact D v
  .omega
 .rw [R.owns] at h;obtain ⟨_,b,_⟩:=R.eta i s nm h E;show (H.new row).get nm=w.g nm;rw [ke b,R.g]
theorem qee (ok:CfgOk X sz C) (R:RelH X sz C base st H w) {ct:ZT K} {row:O} {lp':Nat->Option LG} (hlp:∀ id,id<st.next->lp' id=w.lp id)
  (z:∀ w',Le w w'->w'.lp=lp'->qbq X sz w' st.next ct (some row)) :
  ∃ w',RelH X sz C base {st with cells:=(st.next,ct)::st.cells,next:=st.next+1} (H.new row) w'/\Le w w'/\w'.c st.next=H.next/\st.next<w'.n:=by
 let d:Nat->Nat:=λid=>if id=st.next then H.next else w.c id
 let E:=w.new H row (st.next+1) true d w.owns w.eta (λid=>w.cl id∨id=st.next);let w':={E with lp:=lp'};have a:Le w E:=by
  refine Le.new R (Nat.le_succ _) (λid hi=>zF (by omega)) (λi _ h=>by rw [R.owns];exact h) (λi s S _ h j=>?_) (λ_ _ _ _ _=>rfl) (λid hi=>⟨λh=>h.elim (λh=>h) (λh=>by omega),.inl⟩);rw [R.owns,h] at j;cases j;exact zN _
 have l:Le w w':=⟨⟨a.n,a.mem,a.c,a.nu,a.o1,a.o2,a.o3,a.ce,a.cl,a.nx,a.b,a.Mu,λid hi=>hlp id (by rw [<-R.n];exact hi)⟩,a.df,a.fl⟩;have o:d st.next=H.next:=zT rfl
 have J:=R.keeps.next
 refine ⟨w',?_,l,?_⟩
 .refine ⟨λn p=>?_,R.rob,rfl,qi.symm,R.b,λn p=>?_,rfl,Nat.le_succ_of_le R.one,R.keeps.new _,λid h=>?_,λf g F G L=>?_,λe q j=>?_,R.owns,λi s h=>Nat.lt_succ_of_lt (R.ownn i s h),λi s nm h p=>?_,R.einj,R.ce,λid b h=>?_,λgn q j=>?_⟩
  .have A:H.next+1<=n:=by
    have:(H.new row).next=H.next+1:=qi
    omega
   show (H.new row).get n=none;have:(H.new row).get n=H.get n:=by
    obtain ⟨t,nx,ro,T⟩:=H;simp only [Heap.new,Heap.get,Tree.zn];rw [zF];have:nx+1<=n:=A;omega
   rw [this];exact R.wf n (by omega)
  .show n<(H.new row).next
   rw [qi];rcases p with p | ⟨_,p⟩
   .have:=R.Mlt n p;omega
   .omega
  .by_cases hi:id=st.next
   .subst hi;refine ⟨Nat.lt_succ_self _,?_,?_⟩
    .show d st.next<(H.new row).next;rw [o,qi];exact Nat.lt_succ_self _
    .show base.next<=d st.next;rw [o];exact J
   .have j:w.cl id:=h.elim (λh=>h) (λh=>absurd h hi);obtain ⟨k,r,u⟩:=R.cl id j;have v:d id=w.c id:=zF hi;refine ⟨Nat.lt_succ_of_lt k,?_,?_⟩
    .show d id<(H.new row).next;rw [v,qi];omega
    .show base.next<=d id;rw [v];exact u
  .have m:d f=d g:=L;by_cases x:f=st.next<;>by_cases y:g=st.next
   .omega
   .have:=(R.cl g (G.elim (λh=>h) (λh=>absurd h y))).2.1;rw [x,o,show d g=w.c g from zF y] at m;omega
   .have:=(R.cl f (F.elim (λh=>h) (λh=>absurd h x))).2.1;rw [y,o,show d f=w.c f from zF x] at m;omega
   .rw [show d f=w.c f from zF x,show d g=w.c g from zF y] at m;exact R.cinj f g (F.elim (λh=>h) (λh=>absurd h x)) (G.elim (λh=>h) (λh=>absurd h y)) m
  .simp only [qaw] at j;by_cases hi:e=st.next
   .subst hi;rw [zT rfl] at j;cases j;refine ⟨.inr rfl,?_,?_⟩
    .show w.M (d st.next)∨(true=true/\d st.next=H.next);rw [o];exact .inr ⟨rfl,rfl⟩
    .show qbq X sz w' st.next _ ((H.new row).get (d st.next))
     rw [o,zl];exact z w' l rfl
   .rw [zF hi] at j;obtain ⟨k,r,N⟩:=R.cells e q j;have v:d e=w.c e:=zF hi;refine ⟨.inl k,?_,?_⟩
    .show w.M (d e)∨_;rw [v];exact .inl r
    .show qbq X sz w' e _ ((H.new row).get (d e));rw [v,ke (R.cl e k).2.1];exact N.mono ok.len l (by rw [R.n];exact (R.cl e k).1)
  .obtain ⟨k,r,u⟩:=R.eta i s nm h p;refine ⟨k,by show nm<(H.new row).next;rw [qi];omega,?_⟩;rintro (I | ⟨_,I⟩)
   .exact u I
   .omega
  .obtain ⟨B,k,r⟩:=R.known id b h;exact ⟨B,Nat.lt_succ_of_lt k,r⟩
  .obtain ⟨B,D,P,fl,Q,ex',k,r,u⟩:=R.globs gn q j;exact ⟨B,D,P,fl,Q,ex',k,r,u.mono ok.len l⟩
 .exact ⟨o,Nat.lt_succ_self _⟩
theorem qkm (ok:CfgOk X sz C) (R:RelH X sz C base st H w) {ct:ZT K} (hlp:q5s ct=true) {vs:List V} {e:TypeId} (hty:qwu ct e true) (r:ql X sz w (qj1 X ct) vs) :
  ∃ w',RelH X sz C base {st with cells:=(st.next,ct)::st.cells,next:=st.next+1} (z5 H vs e) w'/\Le w w'/\w'.c st.next=H.next/\st.next<w'.n:=
 qee ok R (lp':=w.lp) (λ_ _=>rfl) λw' a _=>.row hlp hty (r.mono ok.len a)
theorem qoe (ok:CfgOk X sz C) (R:RelH X sz C base st H w) {ct:ZT K} (hlp:q5s ct=true) {vs:List V} {e:TypeId} (hty:qwu ct e false) (r:ql X sz w (qj1 X ct) vs) :
  ∃ w',RelH X sz C base {st with cells:=(st.next,ct)::st.cells,next:=st.next+1} (H.new (.row vs e 0 0 0 false)) w'/\Le w w'/\w'.c st.next=H.next/\st.next<w'.n:=
 qee ok R (lp':=w.lp) (λ_ _=>rfl) λw' a _=>.row hlp hty (r.mono ok.len a)
theorem qqg (ok:CfgOk X sz C) (R:RelH X sz C base st H w) {ps:List (PV K)} {vs:List V} {e:TypeId} (r:ql X sz w ps vs) :
  ∃ w',RelH X sz C base {st with cells:=(st.next,.cs (some e) ps)::st.cells,next:=st.next+1} (z5 H vs e) w'/\Le w w'/\Rep X sz w' (.cell st.next 0 ps.length) (.ptr H.next 0 0 vs.length):=by
 obtain ⟨w',b,a,c,d⟩:=qkm ok R (ct:=.cs (some e) ps) rfl (e:=e) ⟨rfl,rfl⟩ r;refine ⟨w',b,a,?_⟩;have:=Rep.cell (X:=X) (sz:=sz) (w:=w') (id:=st.next) (off:=0) (lim:=ps.length) d;rw [c,r.1] at this;rw [r.1];exact this
structure Bump (st st':StV K) (i s:Nat):Prop where
 tmps:st'.tmps=st.tmps
 n:st'.n=st.n
 cells:st'.cells=st.cells
 known:st'.known=st.known
 owns:∀ j,look st'.owns j=if j=i then some s else look st.owns j
 next:st.next<=st'.next
 lt:i<st'.next
 up:∀ g,look st.owns i=some g->g<s
 fresh:look st.owns i=none->st.next<=i
theorem qkn (ok:CfgOk X sz C) (R:RelH X sz C base st H w) {k:StV K} {i s:Nat} (B:Bump st k i s) {row:O} {named:Bool} :
  ∃ w',RelH X sz C base k (H.new row) w'/\Le w w'/\w'.owns i=some s/\w'.eta i=(if named then some H.next else none)/\¬ w'.M H.next/\w'.n=k.next:=by
 let d:Nat->Option Nat:=λj=>if j=i then (if named then some H.next else none) else w.eta j
 let w':=w.new H row k.next false w.c (look k.owns) d w.cl
 have q:Le w w':=by
  refine Le.new R B.next (λ_ _=>rfl) (λj I h=>?_) (λj a b _ h g=>?_) (λj a _ h g=>?_) (λ_ _=>.rfl)
  .rw [B.owns];by_cases e:j=i
   .subst e;have:=B.fresh h;omega
   .simp_all
  .rw [B.owns] at g;by_cases e:j=i
   .subst e;rw [zT rfl] at g;cases g;exact Nat.le_of_lt (B.up a h)
   .simp_all
  .rw [B.owns] at g;by_cases e:j=i
   .subst e;rw [zT rfl] at g;cases g;have:=B.up _ h;omega
   .grind
 have N:=R.keeps.next
 refine ⟨w',?_,q,by show look k.owns i=some s;rw [B.owns,zT rfl],zT rfl,?_,rfl⟩
 .refine ⟨λn p=>?_,R.rob,rfl,qi.symm,R.b,λn p=>?_,rfl,zR R.one B.next,R.keeps.new _,λid h=>?_,R.cinj,λl r g=>?_,λ_=>rfl,λj a h=>?_,λj a nm h p=>?_,λz A P Q nm D E S T=>?_,R.ce,λid b h=>?_,λgn r g=>?_⟩
  .have f:H.next+1<=n:=by
    have:(H.new row).next=H.next+1:=qi
    omega
   have:(H.new row).get n=H.get n:=by
    obtain ⟨t,nx,ro,Z⟩:=H;simp only [Heap.new,Heap.get,Tree.zn];rw [zF];have:nx+1<=n:=f;omega
   rw [this];exact R.wf n (by omega)
  .rw [qi];rcases p with p | ⟨p,_⟩
   .have:=R.Mlt n p;omega
   .cases p
  .obtain ⟨m,u,v⟩:=R.cl id h;exact ⟨zL m B.next,by rw [qi];show w.c id<_;omega,v⟩
  .rw [B.cells] at g;obtain ⟨m,u,U⟩:=R.cells l r g;refine ⟨m,.inl u,?_⟩;show qbq X sz w' l _ ((H.new row).get (w.c l));rw [ke (R.cl l m).2.1];exact U.mono ok.len q (by rw [R.n];exact (R.cl l m).1)
  .rw [B.owns] at h;by_cases e:j=i
   .subst e;exact B.lt
   .rw [zF e] at h;exact zL (R.ownn j a h) B.next
  .rw [B.owns] at h;have f:d j=some nm:=p;by_cases e:j=i
   .subst e;simp only [d,if_true] at f;cases named with
    | false=>cases f
    | true=>
     simp only [if_true,zS] at f;subst f;refine ⟨N,by rw [qi];exact Nat.lt_succ_self _,?_⟩;rintro (o | ⟨o,_⟩)
     .have:=R.Mlt _ o;omega
     .cases o
   .rw [zF e] at h;simp only [d,zF e] at f;obtain ⟨m,u,v⟩:=R.eta j a nm h f;refine ⟨m,by rw [qi];omega,?_⟩;rintro (o | ⟨o,_⟩)
    .exact v o
    .cases o
  .have x:d z=some nm:=S;have y:d A=some nm:=T;rw [B.owns] at D E;have V:∀ j a,j≠i->look st.owns j=some a->d j=some nm->nm<H.next:=by
    intro j a I h g;simp only [d,zF I] at g;exact (R.eta j a nm h g).2.1
   by_cases J:z=i<;>by_cases L:A=i
   .omega
   .grind
   .grind
   .rw [zF J] at D;rw [zF L] at E;simp only [d,zF J] at x;simp only [d,zF L] at y;exact R.einj z A P Q nm D E x y
  .rw [B.known] at h;obtain ⟨F,m,u⟩:=R.known id b h;exact ⟨F,zL m B.next,u⟩
  .obtain ⟨F,G,W,fl,Y,ex',m,u,v⟩:=R.globs gn r g;exact ⟨F,G,W,fl,Y,ex',m,u,v.mono ok.len q⟩
 .rintro (o | ⟨o,_⟩)
  .have:=R.Mlt _ o;omega
  .cases o
theorem qsr (ok:CfgOk X sz C) (R:RelH X sz C base st H w) :
  ∃ w',RelH X sz C base {st with next:=st.next+1} (H.new .dfr) w'/\Le w w'/\w'.g H.next=some .dfr/\w.g H.next=none:=by
 let w':=w.new H .dfr (st.next+1) false w.c w.owns w.eta w.cl;have i:Le w w':=by
  refine Le.new R (Nat.le_succ _) (λ_ _=>rfl) (λj y h=>by rw [R.owns];exact h) (λj a b _ h k=>?_) (λj a _ h k=>rfl) (λ_ _=>.rfl);rw [R.owns,h] at k;cases k;exact zN _
 refine ⟨w',?_,i,zl,by rw [R.g];exact R.wf _ (zN _)⟩;refine ⟨λn f=>?_,R.rob,rfl,qi.symm,R.b,λn f=>?_,rfl,Nat.le_succ_of_le R.one,R.keeps.new _,λid h=>?_,R.cinj,λd l k=>?_,R.owns,λj a h=>Nat.lt_succ_of_lt (R.ownn j a h),λj a nm h f=>?_,R.einj,R.ce,λid b h=>?_,λgn l k=>?_⟩
 .have p:H.next+1<=n:=by
   have:(H.new .dfr).next=H.next+1:=qi
   omega
  have:(H.new .dfr).get n=H.get n:=by
   obtain ⟨t,nx,ro,z⟩:=H;simp only [Heap.new,Heap.get,Tree.zn];rw [zF];have:nx+1<=n:=p;omega
  rw [this];exact R.wf n (by omega)
 .rw [qi];rcases f with f | ⟨f,_⟩
  .have:=R.Mlt n f;omega
  .cases f
 .obtain ⟨e,m,o⟩:=R.cl id h;exact ⟨Nat.lt_succ_of_lt e,by rw [qi];show w.c id<_;omega,o⟩
 .obtain ⟨e,m,u⟩:=R.cells d l k;refine ⟨e,.inl m,?_⟩;show qbq X sz w' d _ ((H.new .dfr).get (w.c d));rw [ke (R.cl d e).2.1];exact u.mono ok.len i (by rw [R.n];exact (R.cl d e).1)
 .obtain ⟨e,m,o⟩:=R.eta j a nm h f;refine ⟨e,by rw [qi];omega,?_⟩;rintro (q | ⟨q,_⟩)
  .exact o q
  .cases q
 .obtain ⟨r,e,m⟩:=R.known id b h;exact ⟨r,Nat.lt_succ_of_lt e,m⟩
 .obtain ⟨r,s,v,fl,x,ex',e,m,o⟩:=R.globs gn l k;exact ⟨r,s,v,fl,x,ex',e,m,o.mono ok.len i⟩
end
end Go.E3
