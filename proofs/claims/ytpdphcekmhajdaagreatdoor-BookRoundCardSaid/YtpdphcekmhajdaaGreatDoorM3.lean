/- A VERIFIED EVALUATOR, texts E3a, E3b, E3c, E3d, E3e, E3f, E3g, E3h, E3i, E3j in one. -/
import Derived.Test.YtpdphcekmhajdaaGreatDoorM1
import Derived.Test.YtpdphcekmhajdaaGreatDoorM2
/- THE MACHINE E3: weakest preconditions of the program's code over values without memory (lists in place of slices, variables by number). Definitions alone, over an algebra of what is known
   ('Alg'): at the plain one the answer is a proposition, at one of texts it is that proposition's text. Nothing is proved here. -/
namespace Go.E3
open Go Go.E2
inductive P (I B S Pr:Type) (L:Nat->Type) where
 | int (k:IntKind) (lit:Option Int) (n:I)
 | lit (b:Bool)
 | sb (id:Nat) (neg:Bool) (b:B) (pt pf:Pr)
 | str (s:S)
 | list (c:Nat) (l:L c) (own:Option (Nat×Nat))
 | nils
 | mlist (id c:Nat) (fx:Bool) (n:I)
 | mptr (id c:Nat) (i n:I) (off:Nat)
 | cell (id off lim:Nat)
 | eptr (cells:List (P I B S Pr L)) (off:Nat)
 | nilp
 | func (f:Nat) (first captured:List (P I B S Pr L))
 | nilf
 | yield (id:Nat)
 | iface (t:TypeId) (v:P I B S Pr L)
 | nili
 | agg (cells:List (P I B S Pr L))
 | tuple (l:List (P I B S Pr L))
 | map (id:Nat)
 | plist (es n:Nat) (fx:Bool) (cells:List (P I B S Pr L))
inductive LMode where
 | ready
 | busy
 | done (ex:Option Nat)
structure LRec (I B S Pr:Type) (L:Nat->Type) where
 tmps:Tree (P I B S Pr L)
 n:Nat
 params:List Tmp
 assign:Code
 body:Code
 fn:Nat
 pos:Nat
 mode:LMode
inductive Leaf where
 | int (k:IntKind)
 | str
 | bool
def qts:Leaf->Leaf->Bool
 | .int k,.int a=>decide (k=a)
 | .str,.str=>true
 | .bool,.bool=>true
 | _,_=>false
inductive Cont (I B S Pr:Type) (L:Nat->Type) where
 | cs (t:Option TypeId) (ps:List (P I B S Pr L))
 | ml (c:Nat) (l:L c) (p:P I B S Pr L)
 | lp (r:LRec I B S Pr L)
 | mp (c:Nat) (lf:Leaf) (va:Bool) (l:L c)
inductive N (I B S:Type) (L:Nat->Type) where
 | i (n:I)
 | b (b:B)
 | s (s:S)
 | l (c:Nat) (l:L c)
inductive SK where
 | int (k:IntKind)
 | bool
 | str
 | list (c:Nat) (own nb:Bool)
 | grow
 | keep
inductive Sh where
 | one (k:SK)
 | agg (ks:List SK)
inductive Slot where
 | one (t:Nat) (k:SK)
 | agg (t:Nat) (ks:List SK)
 | via (t:Nat) (ks:List SK)
 | cap (t i:Nat) (ks:List SK)
 | elems (t c:Nat)
 | out (j t:Nat) (ks:List SK)
inductive Ann where
 | inv (j:Nat) (slots:List Slot) (sees:List Slot)
 | unroll (n:Nat)
 | peel (j:Nat) (slots:List Slot) (sees:List Slot)
 | cut (j:Nat) (slots:List Slot) (sees:List Slot)
 | shut (t i:Nat)
variable {I B S Pr:Type} {L K:Nat->Type}
abbrev qt5 (B a:Type):=B×a×a
structure Alg (I B S Pr:Type) (L K:Nat->Type) where
 ff:String->Pr
 tt:Pr
 and:Pr->Pr->Pr
 imp:Pr->Pr->Pr
 ilit:Int->I
 iop:BinOp->IntKind->I->I->Option (Pr×I)
 icmp:BinOp->I->I->Option (qt5 B Pr)
 ineg:IntKind->I->Pr×I
 iconv:IntKind->I->Pr×I
 ibest:Bool->I->I->I
 blit:Bool->B
 bnot:B->B
 beq:B->B->qt5 B Pr
 braw:B->Pr×Pr
 ball:List (qt5 B Pr)->qt5 B Pr
 slit:List UInt8->S
 scat:S->S->Pr×S
 scmp:BinOp->S->S->Option (qt5 B Pr)
 slen:S->I
 sget:S->I->I
 ssub:S->Option I->Option I->Pr×S
 lof:(c:Nat)->List (K c)->L c
 llen:(c:Nat)->L c->I
 lget:(c:Nat)->L c->I->K c
 lsub:(c:Nat)->L c->Option I->Option I->Pr×L c
 lcat:(c:Nat)->L c->L c->Pr×L c
 lset:(c:Nat)->L c->I->K c->L c
 lrep:(c:Nat)->K c->I->L c
 leI:I->I->Pr
 sbytes:S->L 0
 bstr:L 0->S
 within:I->I->Pr
 eqI:I->I->Pr
 eqB:B->B->Pr
 eqS:S->S->Pr
 eqL:(c:Nat)->L c->L c->Pr
 allI:IntKind->(I->Pr)->Pr
 allB:(B->Pr)->Pr
 allS:(S->Pr)->Pr
 allL:(c:Nat)->(L c->Pr)->Pr
 inv:Nat->List (N I B S L)->Pr
 dec:Nat->List (N I B S L)->List (N I B S L)->Pr
 fn:Nat->Option (List Sh×(List (N I B S L)->Option (Pr×P I B S Pr L)))
 cells:(c:Nat)->K c->List (P I B S Pr L)
 pack:(c:Nat)->List (P I B S Pr L)->Option (Pr×K c)
 mhas:(c kn:Nat)->L c->K c->B
 mget:(c kn:Nat)->L c->K c->K c
 mput:(c kn:Nat)->L c->K c->L c
structure Cfg (I B S Pr:Type) (L:Nat->Type) where
 E:Env
 zf:Nat->Option (List (P I B S Pr L))
 codec:TypeId->Option Nat
 ann:Nat->Nat->Option Ann
 ans:Nat->Bool
 ng:Nat
 prim:Nat->Bool
 gobj:Nat->Option O
 mcod:TypeId->Option Nat
 born:TypeId->Bool:=λ_=>false
structure St (I B S Pr:Type) (L:Nat->Type) where
 tmps:Tree (P I B S Pr L)
 n:Nat
 cells:List (Nat×Cont I B S Pr L)
 owns:List (Nat×Nat)
 next:Nat
 known:List (Nat×Bool)
def look {α:Type}:List (Nat×α)->Nat->Option α
 | [],_=>none
 | (i,a)::l,n=>bif Nat.beq i n then some a else look l n
def qg4 {α:Type}:List (Nat×α)->Nat->α->List (Nat×α)
 | [],n,a=>[(n,a)]
 | (i,b)::l,n,a=>bif Nat.beq i n then (i,a)::l else (i,b)::qg4 l n a
def qb2 {α:Type}:List (Nat×α)->Nat->List (Nat×α)
 | [],_=>[]
 | (i,b)::l,n=>bif Nat.beq i n then qb2 l n else (i,b)::qb2 l n
def St.put (st:St I B S Pr L) (dst:Option Tmp) (p:P I B S Pr L):St I B S Pr L:=
 match dst with
 | some d=>match st with
  | ⟨t,n,c,o,x,a⟩=>bif Nat.blt d n then ⟨t.set d p,n,c,o,x,a⟩ else ⟨t,n,c,o,x,a⟩
 | none=>st
def P.cellsOf:P I B S Pr L->List (P I B S Pr L)
 | .agg cs=>cs
 | p=>[p]
def qmo:P I B S Pr L:=.tuple []
mutual
def ofV (A:Alg I B S Pr L K):V->P I B S Pr L
 | .int k n=>.int k (some n) (A.ilit n)
 | .bool b=>.lit b
 | .str s=>.str (A.slit s)
 | .ptr ..=>.tuple []
 | .nilp=>.nilp
 | .slice ..=>.tuple []
 | .nils=>.nils
 | .func d a c=>match d with
  | .func f=>.func f (ofL A a) (ofL A c)
  | _=>.tuple []
 | .nilf=>.nilf
 | .iface t v=>.iface t (ofV A v)
 | .nili=>.nili
 | .agg cs=>.agg (ofL A cs)
 | .tuple e=>.tuple (ofL A e)
 | .map _=>.tuple []
 | .nilm=>.tuple []
def ofL (A:Alg I B S Pr L K):List V->List (P I B S Pr L)
 | []=>[]
 | v::a=>ofV A v::ofL A a
end
def qif:V->Bool
 | .int .. | .bool _ | .str _ | .nilp | .nils | .nilf | .nili=>true
 | .func (.func _) [] []=>true
 | _=>false
def qrj (A:Alg I B S Pr L K) (v:V):Option (P I B S Pr L):=
 match v with
 | .agg cs=>bif cs.all qif then some (ofV A v) else none
 | .tuple []=>some (.tuple [])
 | v=>bif qif v then some (ofV A v) else none
def zeroCells (A:Alg I B S Pr L K) (ti:TI):Option (List (P I B S Pr L)):=
 bif ti.zero.cells.all qif then some (ofL A ti.zero.cells) else none
def ju (A:Alg I B S Pr L K) (C:Cfg I B S Pr L) (st:St I B S Pr L):Operand->Option (P I B S Pr L)
 | .tmp t=>st.tmps.get t
 | .const v=>(qoq 1000 v).bind (qrj A)
 | .global g=>(C.zf g).map λcs=>.eptr cs 0
 | .func f=>some (.func f [] [])
def qgw (A:Alg I B S Pr L K) (C:Cfg I B S Pr L) (st:St I B S Pr L):List Operand->Option (List (P I B S Pr L))
 | []=>some []
 | x::a=>(ju A C st x).bind λv=>(qgw A C st a).map λb=>v::b
def asL (A:Alg I B S Pr L K) (c:Nat):P I B S Pr L->Option (L c)
 | .nils=>some (A.lof c [])
 | .list a l _=>if h:a=c then some (h ▸ l) else none
 | _=>none
def zk1 (id:Nat) (b:Bool) (l:List (Nat×Bool)):List (Nat×Bool):=bif Nat.beq id 0 then l else (id,b)::l
def br (A:Alg I B S Pr L K) (st:St I B S Pr L) (p:P I B S Pr L) (k:Bool->St I B S Pr L->Pr):Pr:=
 match p with
 | .lit b=>k b st
 | .sb id neg _ a c=>match look st.known id with
  | some v=>k (v != neg) st
  | none=>A.and (A.imp a (k true {st with known:=zk1 id (!neg) st.known})) (A.imp c (k false {st with known:=zk1 id neg st.known}))
 | _=>A.ff "no condition"
def qbk:List (P I B S Pr L)->Nat->List (P I B S Pr L)×Nat
 | [],n=>([],n)
 | .sb 0 neg b c d::ps,n=>match qbk ps (n+1) with
  | (a,m)=>(.sb n neg b c d::a,m)
 | p::ps,n=>match qbk ps n with
  | (a,m)=>(p::a,m)
def qeg (p:P I B S Pr L) (st:St I B S Pr L):P I B S Pr L×St I B S Pr L:=
 match p with
 | .sb 0 neg b c d=>(.sb st.next neg b c d,{st with next:=st.next+1})
 | .agg cs=>match qbk cs st.next with
  | (a,m)=>(.agg a,{st with next:=m})
 | .tuple cs=>match qbk cs st.next with
  | (a,m)=>(.tuple a,{st with next:=m})
 | p=>(p,st)
def q9k (st:St I B S Pr L) (c:qt5 B Pr):P I B S Pr L×St I B S Pr L:=
 (.sb st.next false c.1 c.2.1 c.2.2,{st with next:=st.next+1})
def zf0 (ti:TI) (cs:List (P I B S Pr L)) (off:Nat):Option (P I B S Pr L):=
 bif ti.isAgg then (bif Nat.ble (off+ti.size) cs.length then some (.agg ((cs.drop off).take ti.size)) else none) else cs[off]?
def qfl (cs:List (P I B S Pr L)) (off:Nat) (a:List (P I B S Pr L)):List (P I B S Pr L):=cs.take off++a++cs.drop (off+a.length)
def qyw (place:Nat->Option (Nat×Nat)):List (P I B S Pr L)->List (Nat×P I B S Pr L)->Option (List (P I B S Pr L))
 | cells,[]=>some cells
 | cells,(i,v)::rest=>match place i with
  | none=>none
  | some (off,a)=>bif Nat.beq v.cellsOf.length a&&Nat.ble (off+a) cells.length then qyw place (qfl cells off v.cellsOf) rest else none
def qpj (l:List (Nat×Cont I B S Pr L)) (id:Nat):Option (List (P I B S Pr L)):=
 match look l id with
 | some (.cs _ ps)=>some ps
 | _=>none
def qnm (l:List (Nat×Cont I B S Pr L)) (id:Nat):Option TypeId:=
 match look l id with
 | some (.cs t _)=>t
 | _=>none
structure MapC (L:Nat->Type) where
 c:Nat
 lf:Leaf
 va:Bool
 l:L c
def q52 (l:List (Nat×Cont I B S Pr L)) (id:Nat):Option (MapC L):=
 match look l id with
 | some (.mp c lf va l)=>some ⟨c,lf,va,l⟩
 | _=>none
def zzm:Option TypeId->Option TypeId->Bool
 | none,_=>true
 | some a,some b=>Nat.beq a b
 | _,_=>false
def qqz (l:List (Nat×Cont I B S Pr L)) (id c:Nat):Option (L c×P I B S Pr L):=
 match look l id with
 | some (.ml a l p)=>if h:a=c then some (h ▸ l,p) else none
 | _=>none
def loadAt (ti:TI) (cs:List (P I B S Pr L)) (off:Nat):Option (P I B S Pr L):=
 bif Nat.ble (off+ti.size) cs.length then (bif ti.isAgg then some (.agg ((cs.drop off).take ti.size)) else bif Nat.beq ti.size 1 then cs[off]? else none) else none
def zfm (st:St I B S Pr L) (ti:TI):P I B S Pr L->Option (P I B S Pr L)
 | .cell id off lim=>(qpj st.cells id).bind λcs=>bif Nat.ble (off+ti.size) lim&&Nat.ble lim cs.length then
   (bif ti.isAgg then some (.agg ((cs.drop off).take ti.size)) else bif Nat.beq ti.size 1 then cs[off]? else none) else none
 | .eptr cs off=>loadAt ti cs off
 | _=>none
def jn:P I B S Pr L->Bool
 | .agg _ | .tuple _=>false
 | _=>true
def zdj (st:St I B S Pr L) (ti:TI) (a v:P I B S Pr L):Option (St I B S Pr L):=
 match a with
 | .cell id off lim=>(qpj st.cells id).bind λcs=>
  bif Nat.beq v.cellsOf.length ti.size&&Nat.ble (off+ti.size) lim&&Nat.ble lim cs.length&&v.cellsOf.all jn then some {st with cells:=qg4 st.cells id (.cs (qnm st.cells id) (qfl cs off v.cellsOf))} else none
 | _=>none
def sel (A:Alg I B S Pr L K) (i:P I B S Pr L) (n:Nat) (k:Nat->Pr):Pr:=
 match i with
 | .int _ (some j) _=>if 0<=j/\j<n then k j.toNat else A.ff "index"
 | .int _ none x=>A.and (A.within x (A.ilit n)) ((List.range n).foldr (λ(j:Nat) r=>A.and (A.imp (A.eqI x (A.ilit (j:Int))) (k j)) r) A.tt)
 | _=>A.ff "index"
def eqP (A:Alg I B S Pr L K):P I B S Pr L->P I B S Pr L->Option (qt5 B Pr)
 | .int k _ a,.int c _ b=>if k=c then A.icmp .eql a b else none
 | .str a,.str b=>A.scmp .eql a b
 | .lit a,.lit b=>some (A.beq (A.blit a) (A.blit b))
 | .lit a,.sb _ _ b _ _=>some (A.beq (A.blit a) b)
 | .sb _ _ a _ _,.lit b=>some (A.beq a (A.blit b))
 | .sb _ _ a _ _,.sb _ _ b _ _=>some (A.beq a b)
 | _,_=>none
def zb3 (A:Alg I B S Pr L K):List (P I B S Pr L)->List (P I B S Pr L)->Option (List (qt5 B Pr))
 | [],[]=>some []
 | a::d,b::e=>(eqP A a b).bind λc=>(zb3 A d e).map λcs=>c::cs
 | _,_=>none
def zy8 (A:Alg I B S Pr L K) (c:qt5 B Pr):qt5 B Pr:=(A.bnot c.1,c.2.2,c.2.1)
def zls (E:Env) (u:TypeDesc) (x y:P I B S Pr L):Option Bool:=
 match u,x,y with
 | .pointer _,.nilp,.nilp=>some true
 | .pointer _,.nilp,.cell .. | .pointer _,.cell ..,.nilp=>some false
 | .pointer e,.cell i o _,.cell j p _=>(E.types e).bind λa=>bif !Nat.beq a.size 0&&Nat.beq i j then some (Nat.beq o p) else none
 | .func ..,.nilf,.nilf=>some true
 | .func ..,.nilf,.func .. | .func ..,.func ..,.nilf=>some false
 | .interface _,.nili,.iface .. | .interface _,.iface ..,.nili=>some false
 | _,_,_=>none
mutual
def q06 (E:Env):Nat->TypeId->Option (List Leaf)
 | 0,_=>none
 | d+1,t=>match E.types t with
  | none=>none
  | some ti=>match ti.under with
   | .int k=>bif !ti.isAgg then some [.int k] else none
   | .string=>bif !ti.isAgg then some [.str] else none
   | .bool=>bif !ti.isAgg then some [.bool] else none
   | .struct a=>bif E.eqOk t&&ti.isAgg then (q4j E d a.toList 0).bind λl=>bif Nat.beq ti.size l.length&&Nat.blt 0 l.length then some l else none else none
   | _=>none
def q4j (E:Env):Nat->List Field->Nat->Option (List Leaf)
 | 0,_,_=>none
 | d+1,b,off=>match b with
  | []=>some []
  | f::b=>bif Nat.beq f.offset off then (q06 E d f.type).bind λa=>(q4j E d b (off+a.length)).map λr=>a++r else none
end
def tiled:List Leaf->List (P I B S Pr L)->Bool
 | [],[]=>true
 | .int k::l,.int a _ _::ps=>decide (k=a)&&tiled l ps
 | .str::l,.str _::ps=>tiled l ps
 | .bool::l,.lit _::ps=>tiled l ps
 | .bool::l,.sb ..::ps=>tiled l ps
 | _,_=>false
def qvx (st:St I B S Pr L) (bad:Pr) (c:Option (qt5 B Pr)) (k:P I B S Pr L->St I B S Pr L->Pr):Pr:=
 match c with
 | some c=>k (q9k st c).1 (q9k st c).2
 | none=>bad
def qs3 (A:Alg I B S Pr L K) (neg:Bool) (c:qt5 B Pr):qt5 B Pr:=bif neg then zy8 A c else c
def znb (A:Alg I B S Pr L K) (neg:Bool) (x y:P I B S Pr L) (st:St I B S Pr L) (k:P I B S Pr L->St I B S Pr L->Pr):Pr:=
 match x,y with
 | .nils,.nils=>k (.lit (true != neg)) st
 | .list c l _,.nils=>A.allB λb=>A.imp (A.imp (A.braw b).1 (A.eqL c l (A.lof c []))) (qvx st (A.ff "comparison") (some (qs3 A neg (b,(A.braw b).1,(A.braw b).2))) k)
 | _,_=>A.ff "comparison"
def zrh (A:Alg I B S Pr L K) (E:Env) (neg:Bool) (t:TypeId) (x y:P I B S Pr L) (st:St I B S Pr L) (k:P I B S Pr L->St I B S Pr L->Pr):Pr:=
 match x,y with
 | .int d (some a) _,.int c (some b) _=>if d=c then k (.lit ((a == b) != neg)) st else A.ff "comparison"
 | .int d _ a,.int c _ b=>if d=c then qvx st (A.ff "comparison") ((A.icmp .eql a b).map (qs3 A neg)) k else A.ff "comparison"
 | .str a,.str b=>qvx st (A.ff "comparison") ((A.scmp .eql a b).map (qs3 A neg)) k
 | .agg e,.agg f=>match E.types t,q06 E 1000 t with
  | some ti,some l=>bif ti.isAgg&&(tiled l e&&tiled l f) then qvx st (A.ff "comparison") ((zb3 A e f).map λcs=>qs3 A neg (A.ball cs)) k else A.ff "comparison"
  | _,_=>A.ff "comparison"
 | x,y=>match E.types t with
  | none=>A.ff "comparison"
  | some ti=>match ti.under with
   | .bool=>qvx st (A.ff "comparison") ((eqP A x y).map (qs3 A neg)) k
   | .slice _=>znb A neg x y st k
   | u=>match zls E u x y with
    | some b=>k (.lit (b != neg)) st
    | none=>A.ff "comparison"
def zbr (A:Alg I B S Pr L K) (op:BinOp) (x y:P I B S Pr L) (st:St I B S Pr L) (k:P I B S Pr L->St I B S Pr L->Pr):Pr:=
 match x,y with
 | .int d (some a) _,.int e (some b) _=>if d=e then (match qh8 op d a b with
   | some (.int d n)=>k (.int d (some n) (A.ilit n)) st
   | some (.bool b)=>k (.lit b) st
   | _=>A.ff "operator") else A.ff "operator"
 | .int d _ a,.int e _ b=>if d=e then (match A.icmp op a b with
   | some c=>qvx st (A.ff "operator") (some c) k
   | none=>match A.iop op d a b with
    | some r=>A.and r.1 (k (.int d none r.2) st)
    | none=>A.ff "operator") else A.ff "operator"
 | .str a,.str b=>match op with
  | .add=>A.and (A.scat a b).1 (k (.str (A.scat a b).2) st)
  | op=>qvx st (A.ff "operator") (A.scmp op a b) k
 | _,_=>A.ff "operator"
def zw8 (A:Alg I B S Pr L K) (x y:P I B S Pr L) (st:St I B S Pr L) (k:P I B S Pr L->St I B S Pr L->Pr):Pr:=
 match x,y with
 | .int c (some a) _,.int _ (some b) _=>if 0<=b then k (.int c (some (a.fdiv (2 ^ (min b.toNat c.bits)))) (A.ilit (a.fdiv (2 ^ (min b.toNat c.bits))))) st else A.ff "shift"
 | .int c _ a,.int _ (some b) _=>if 0<=b/\b<c.bits then (match A.iop .quo c a (A.ilit (2 ^ b.toNat)) with
   | some r=>A.and (A.leI (A.ilit 0) a) (A.and r.1 (k (.int c none r.2) st))
   | none=>A.ff "shift") else A.ff "shift"
 | _,_=>A.ff "shift"
def zu1 (A:Alg I B S Pr L K) (C:Cfg I B S Pr L) (op:BinOp) (t:TypeId) (x y:P I B S Pr L) (st:St I B S Pr L) (k:P I B S Pr L->St I B S Pr L->Pr):Pr:=
 match op with
 | .eql=>zrh A C.E false t x y st k
 | .neq=>zrh A C.E true t x y st k
 | .shl=>A.ff "operator"
 | .shr=>zw8 A x y st k
 | op=>zbr A op x y st k
def unP (A:Alg I B S Pr L K) (op:UnOp) (x:P I B S Pr L) (st:St I B S Pr L) (k:P I B S Pr L->St I B S Pr L->Pr):Pr:=
 match op,x with
 | .neg,.int a _ n=>let r:=A.ineg a n;A.and r.1 (k (.int a none r.2) st)
 | .not,.lit b=>k (.lit !b) st
 | .not,.sb id neg b c d=>k (.sb id (!neg) (A.bnot b) d c) st
 | _,_=>A.ff "operator"
def qek (st:St I B S Pr L):P I B S Pr L->Bool
 | .nils=>true
 | .list _ _ (some (i,s))=>match look st.owns i with
  | some a=>Nat.beq s a
  | none=>false
 | _=>false
def znk:P I B S Pr L->Bool
 | .nils=>true
 | .list _ _ (some (_,s))=>Nat.beq (s % 2) 1
 | _=>false
def qtw (A:Alg I B S Pr L K) (st:St I B S Pr L):SK->P I B S Pr L->Option (List (N I B S L))
 | .int k,.int a _ n=>if k=a then some [.i n] else none
 | .bool,.lit b=>some [.b (A.blit b)]
 | .bool,.sb _ _ b _ _=>some [.b b]
 | .str,.str s=>some [.s s]
 | .list c own nb,p=>bif (own&&!qek st p) || (nb&&!znk p) then none else (asL A c p).map λl=>[.l c l]
 | .keep,_=>some []
 | .grow,.mlist _ _ _ n=>some [.i n]
 | _,_=>none
def qm4 (A:Alg I B S Pr L K) (st:St I B S Pr L):List SK->List (P I B S Pr L)->Option (List (N I B S L))
 | [],[]=>some []
 | k::ks,p::ps=>(qtw A st k p).bind λa=>(qm4 A st ks ps).map λr=>a++r
 | _,_=>none
def qos (A:Alg I B S Pr L K) (st:St I B S Pr L):List Sh->List (P I B S Pr L)->Option (List (N I B S L))
 | [],[]=>some []
 | .one k::ks,p::ps=>(qtw A st k p).bind λa=>(qos A st ks ps).map λr=>a++r
 | .agg l::ks,.agg cs::ps=>(qm4 A st l cs).bind λa=>(qos A st ks ps).map λr=>a++r
 | _,_=>none
def fnP (A:Alg I B S Pr L K) (st:St I B S Pr L) (g:Nat) (args:List (P I B S Pr L)):Option (Pr×P I B S Pr L):=
 (A.fn g).bind λct=>(qos A st ct.1 args).bind ct.2
def zez (A:Alg I B S Pr L K) (c sz:Nat) (s x:P I B S Pr L) (st:St I B S Pr L) (k:P I B S Pr L->St I B S Pr L->Pr):Option Pr:=
 match s,x with
 | .nils,.plist 1 1 _ [p]=>some (bif Nat.beq sz 1&&jn p then k (.mlist st.next c false (A.ilit 0)) {st with cells:=(st.next,.ml c (A.lof c []) p)::st.cells,next:=st.next+1} else A.ff "append")
 | .mlist id a _ n,.plist 1 1 _ [q]=>some (match qqz st.cells id c with
   | some (l,p)=>bif Nat.beq a c&&Nat.beq sz 1&&jn q then (match A.pack c [p] with
    | some r=>(let t:=A.lcat c l (A.lof c [r.2])
     A.and (A.eqI n (A.llen c l)) (A.and r.1 (A.and t.1 (k (.mlist id c false (A.llen c t.2)) {st with cells:=qg4 st.cells id (.ml c t.2 q)}))))
    | none=>A.ff "append") else A.ff "append"
   | none=>A.ff "append")
 | _,_=>none
def qsl (A:Alg I B S Pr L K) (c:Nat) (s:P I B S Pr L) (x:L c) (st:St I B S Pr L) (k:P I B S Pr L->St I B S Pr L->Pr):Pr:=
 bif !qek st s then A.ff "append to what is not one's own" else
 match asL A c s with
 | none=>A.ff "append"
 | some l=>let r:=A.lcat c l x
  match s with
  | .list _ _ (some (i,g))=>A.and r.1 (k (.list c r.2 (some (i,g+2))) {st with owns:=qg4 st.owns i (g+2)})
  | _=>A.and r.1 (k (.list c r.2 (some (st.next,1))) {st with owns:=(st.next,1)::st.owns,next:=st.next+1})
def q9g (A:Alg I B S Pr L K) (c:Nat):List (List (P I B S Pr L))->Option (List Pr×List (K c))
 | []=>some ([],[])
 | x::a=>(A.pack c x).bind λr=>(q9g A c a).map λrs=>(r.1::rs.1,r.2::rs.2)
def zk6 (A:Alg I B S Pr L K) (l:List Pr) (p:Pr):Pr:=l.foldr A.and p
def chunks (sz:Nat):Nat->List (P I B S Pr L)->List (List (P I B S Pr L))
 | 0,_=>[]
 | n+1,l=>l.take sz::chunks sz n (l.drop sz)
def znq (A:Alg I B S Pr L K) (C:Cfg I B S Pr L) (st:St I B S Pr L):Option Operand->Option (Option I)
 | none=>some none
 | some x=>match ju A C st x with
  | some (.int _ _ n)=>some (some n)
  | _=>none
def qjl (next:Nat):P I B S Pr L->P I B S Pr L
 | .list c l (some (i,_))=>.list c l (some (next+i,0))
 | p=>p
def qb6:List (P I B S Pr L)->List Nat
 | []=>[]
 | .list _ _ (some (i,_))::ps=>i::qb6 ps
 | _::ps=>qb6 ps
def P.parts:P I B S Pr L->List (P I B S Pr L)
 | .tuple l=>l
 | p=>[p]
def P.flat:P I B S Pr L->List (P I B S Pr L)
 | .tuple l=>l.flatMap P.cellsOf
 | p=>p.cellsOf
def qj1 (f:P I B S Pr L->P I B S Pr L):P I B S Pr L->P I B S Pr L
 | .tuple l=>.tuple (l.map λp=>match p with
  | .agg cs=>.agg (cs.map f)
  | p=>f p)
 | .agg cs=>.agg (cs.map f)
 | p=>f p
def distinct:List Nat->Bool
 | []=>true
 | i::l=>!(l.any λj=>Nat.beq i j)&&distinct l
def qap:List (P I B S Pr L)->Nat->List (P I B S Pr L)×Nat
 | [],n=>([],n)
 | .agg cs::ps,n=>match qbk cs n with
  | (c,m)=>match qap ps m with
   | (a,m)=>(.agg c::a,m)
 | .sb 0 neg b d e::ps,n=>match qap ps (n+1) with
  | (a,m)=>(.sb n neg b d e::a,m)
 | p::ps,n=>match qap ps n with
  | (a,m)=>(p::a,m)
def qdf (st:St I B S Pr L) (r:P I B S Pr L):P I B S Pr L×St I B S Pr L:=
 let c:=qb6 r.flat
 let m:=c.foldl (λa i=>max a (i+1)) 0;let d:=qj1 (qjl st.next) r;let b:={st with next:=st.next+m,owns:=c.map (λi=>(st.next+i,0))++st.owns}
 match d with
 | .tuple l=>match qap l b.next with
  | (e,n)=>(.tuple e,{b with next:=n})
 | p=>qeg p b
abbrev Inl (I B S a:Type) (L:Nat->Type):=Tgt->List (P I B S a L)->St I B S a L->(P I B S a L->St I B S a L->a)->a
def q7x (A:Alg I B S Pr L K) (inl:Inl I B S Pr L) (f:P I B S Pr L) (args:List (P I B S Pr L)) (st:St I B S Pr L) (k:P I B S Pr L->St I B S Pr L->Pr):Pr:=
 match f with
 | .func g first cap=>match fnP A st g (first++args++cap) with
  | some (a,r)=>bif distinct (qb6 r.flat) then (let x:=qdf st r;A.and a (k x.1 x.2)) else A.ff "contract"
  | none=>inl (.func g) (first++args++cap) st k
 | .yield id=>inl (.round id) args st k
 | _=>A.ff "call"
def qks (A:Alg I B S Pr L K) (C:Cfg I B S Pr L) (b:Builtin) (g:List TypeId) (args:List (P I B S Pr L)) (st:St I B S Pr L) (k:P I B S Pr L->St I B S Pr L->Pr):Pr:=
 match b,args,g with
 | .len,[x],[t]=>match C.E.types t with
  | some ti=>match ti.under,x with
   | .array n _,_=>k (.int .i64 (some n) (A.ilit n)) st
   | .string,.str s=>k (.int .i64 none (A.slen s)) st
   | .slice _,.nils=>k (.int .i64 (some 0) (A.ilit 0)) st
   | .slice _,.list c l _=>k (.int .i64 none (A.llen c l)) st
   | .slice _,.mlist _ _ _ n=>(match A.iop .add .i64 n (A.ilit 1) with
    | some r=>A.and r.1 (k (.int .i64 none r.2) st)
    | none=>A.ff "len")
   | .slice _,.plist _ n _ _=>k (.int .i64 (some n) (A.ilit n)) st
   | _,_=>A.ff "len"
  | none=>A.ff "len"
 | .append,[s,x],[t,u]=>match C.E.types t,C.E.types u with
  | some ti,some o=>match ti.under,o.under with
   | .slice e,.slice _=>match C.codec e,C.E.types e with
    | some c,some d=>bif Nat.ble d.bytes 1024&&!Nat.beq d.size 0 then (match zez A c d.size s x st k with
     | some r=>r
     | none=>(match asL A c x with
      | some l=>qsl A c s l st k
      | none=>A.ff "append")) else A.ff "append"
    | none,some d=>(match s,x with
     | .plist h n true cs,.plist i m _ f=>bif Nat.beq h i&&Nat.beq h d.size&&Nat.blt 0 m&&Nat.ble d.bytes 1024&&Nat.ble (n+m) 100000&&f.all jn then k (.plist h (n+m) false (cs++f)) {st with owns:=(st.next,0)::st.owns,next:=st.next+1} else A.ff "append"
     | _,_=>A.ff "append")
    | _,_=>A.ff "append"
   | .slice e,.string=>match C.codec e,C.E.types e,x with
    | some 0,some d,.str y=>bif Nat.ble d.bytes 1024&&Nat.beq d.size 1 then qsl A 0 s (A.sbytes y) st k else A.ff "append"
    | _,_,_=>A.ff "append"
   | _,_=>A.ff "append"
  | _,_=>A.ff "append"
 | .max,[.int j _ a,.int _ _ b],_=>k (.int j none (A.ibest true a b)) st
 | .min,[.int j _ a,.int _ _ b],_=>k (.int j none (A.ibest false a b)) st
 | _,_,_=>A.ff "builtin"
def onS {α:Type} (bad:Pr) (o:Option α) (k:α->Pr):Pr:=
 match o with
 | some a=>k a
 | none=>bad
def fieldPlace (E:Env) (a:Array Field) (i:Nat):Option (Nat×Nat):=(a[i]?).bind λf=>(E.types f.type).map λb=>(f.offset,b.size)
def zbx (A:Alg I B S Pr L K) (E:Env) (ti:TI) (parts:List Nat) (a:List (P I B S Pr L)) (st:St I B S Pr L) (k:P I B S Pr L->St I B S Pr L->Pr):Pr:=
 onS (A.ff "build") (zeroCells A ti) λz=>match ti.under with
  | .struct b=>bif b.toList.all (λf=>(E.types f.type).isSome) then onS (A.ff "build") (qyw (fieldPlace E b) z (parts.zip a)) λcs=>k (.agg cs) st else A.ff "build"
  | .array _ e=>onS (A.ff "build") (E.types e) λc=>onS (A.ff "build") (qyw (λi=>some (i * c.size,c.size)) z (parts.zip a)) λcs=>k (.agg cs) st
  | _=>A.ff "build"
def zli (A:Alg I B S Pr L K) (C:Cfg I B S Pr L) (d f:TI) (p:P I B S Pr L) (st:St I B S Pr L) (k:P I B S Pr L->St I B S Pr L->Pr):Pr:=
 match d.under,f.under,p with
 | .int _,.int a,.int _ (some n) _=>k (.int a (some (a.wrap n)) (A.ilit (a.wrap n))) st
 | .int _,.int a,.int _ none n=>A.and (A.iconv a n).1 (k (.int a none (A.iconv a n).2) st)
 | .string,.string,.str s=>k (.str s) st
 | .slice e,.string,p=>onS (A.ff "convert") (C.codec e) λc=>bif Nat.beq c 0 then onS (A.ff "convert") (asL A 0 p) λl=>onS (A.ff "convert") (C.E.types e) λb=>(match b.under with
   | .int .u8=>k (.str (A.bstr l)) st
   | _=>A.ff "convert") else A.ff "convert"
 | .pointer e,.unsafePointer,.cell id off lim=>onS (A.ff "convert") (C.E.types e) λb=>onS (A.ff "convert") (qpj st.cells id) λ_=>bif Nat.blt 0 b.size&&Nat.ble (off+1) lim then k (.cell id off lim) st else A.ff "convert"
 | .unsafePointer,.pointer e,.cell id off lim=>onS (A.ff "convert") (C.E.types e) λb=>onS (A.ff "convert") (qnm st.cells id) λt=>onS (A.ff "convert") (qpj st.cells id) λcs=>onS (A.ff "convert") (C.E.types t) λg=>
   bif Nat.blt 0 b.size&&C.E.lies t (cs.length / g.size) off e then k (.cell id off lim) st else A.ff "convert"
 | _,_,_=>A.ff "convert"
def zo2 (A:Alg I B S Pr L K) (C:Cfg I B S Pr L) (ti:TI) (p:P I B S Pr L) (lo hi:Option I) (st:St I B S Pr L) (k:P I B S Pr L->St I B S Pr L->Pr):Pr:=
 match ti.under,p with
 | .string,.str s=>A.and (A.ssub s lo hi).1 (k (.str (A.ssub s lo hi).2) st)
 | .slice e,p=>onS (A.ff "slice") (C.codec e) λc=>onS (A.ff "slice") (C.E.types e) λ_=>onS (A.ff "slice") (asL A c p) λl=>A.and (A.lsub c l lo hi).1 (k (.list c (A.lsub c l lo hi).2 none) st)
 | _,_=>A.ff "slice"
def ze7 (A:Alg I B S Pr L K) (C:Cfg I B S Pr L) (ti:TI) (p i:P I B S Pr L) (st:St I B S Pr L) (k:P I B S Pr L->St I B S Pr L->Pr):Pr:=
 match ti.under with
 | .slice e=>(match p with
  | .plist b m _ cs=>onS (A.ff "indexAddr") (C.E.types e) λa=>bif Nat.beq a.size b then sel A i m λj=>k (.eptr cs (j * b)) st else A.ff "indexAddr"
  | p=>onS (A.ff "indexAddr") (C.codec e) λc=>onS (A.ff "indexAddr") (C.E.types e) λ_=>match i with
  | .int _ _ n=>(match p with
   | .mlist id d _ m=>bif Nat.beq c d then A.and (A.eqI n m) (k (.mptr id d n m 0) st) else A.ff "indexAddr"
   | p=>onS (A.ff "indexAddr") (asL A c p) λl=>A.and (A.within n (A.llen c l)) (k (.eptr (A.cells c (A.lget c l n)) 0) st))
  | _=>A.ff "indexAddr")
 | .array m e=>onS (A.ff "indexAddr") (C.E.types e) λa=>match p with
  | .cell id off lim=>sel A i m λj=>k (.cell id (off+j * a.size) lim) st
  | .eptr cs off=>sel A i m λj=>k (.eptr cs (off+j * a.size)) st
  | _=>A.ff "indexAddr"
 | _=>A.ff "indexAddr"
def ixP (A:Alg I B S Pr L K) (C:Cfg I B S Pr L) (ti:TI) (p i:P I B S Pr L) (st:St I B S Pr L) (k:P I B S Pr L->St I B S Pr L->Pr):Pr:=
 match ti.under with
 | .string=>match p,i with
  | .str s,.int _ _ n=>A.and (A.within n (A.slen s)) (k (.int .u8 none (A.sget s n)) st)
  | _,_=>A.ff "index"
 | .array m e=>match p with
  | .agg cs=>onS (A.ff "index") (C.E.types e) λa=>sel A i m λj=>onS (A.ff "index") (zf0 a cs (j * a.size)) λv=>k v st
  | _=>A.ff "index"
 | _=>A.ff "index"
def zmy (A:Alg I B S Pr L K) (ti:TI) (p:P I B S Pr L) (st:St I B S Pr L) (k:P I B S Pr L->St I B S Pr L->Pr):Pr:=
 match p with
 | .mptr id c _ n _=>onS (A.ff "load") (qqz st.cells id c) λl=>bif Nat.beq ti.size 1&&!ti.isAgg then A.and (A.eqI n (A.llen c l.1)) (k (qeg l.2 st).1 (qeg l.2 st).2) else A.ff "load"
 | p=>onS (A.ff "load") (zfm st ti p) λv=>k (qeg v st).1 (qeg v st).2
def zdi (A:Alg I B S Pr L K) (ti:TI) (a x:P I B S Pr L) (st:St I B S Pr L) (k:P I B S Pr L->St I B S Pr L->Pr):Pr:=
 match a with
 | .mptr id c _ n _=>onS (A.ff "store") (qqz st.cells id c) λl=>
   bif Nat.beq ti.size 1&&jn x then A.and (A.eqI n (A.llen c l.1)) (k qmo {st with cells:=qg4 st.cells id (.ml c l.1 x)}) else A.ff "store"
 | a=>onS (A.ff "store") (zdj st ti a x) λb=>k qmo b
def zbq:V->Bool
 | .agg _=>true
 | _=>false
def zuz:P I B S Pr L->Bool
 | .agg _=>true
 | _=>false
def qly (a:TI):Option Leaf:=
 bif a.isAgg then none else match a.under with
 | .int k=>some (.int k)
 | .string=>some .str
 | .bool=>some .bool
 | _=>none
def zfp (C:Cfg I B S Pr L) (st:St I B S Pr L) (t:TypeId) (id:Nat) (key:P I B S Pr L):Option (MapC L×TI):=
 (C.E.types t).bind λti=>match ti.under with
 | .map c d=>(C.E.types c).bind λe=>(C.E.types d).bind λa=>(qly e).bind λb=>(q52 st.cells id).bind λm=>
   bif qts m.lf b&&(m.va == a.isAgg)&&(zbq a.zero == a.isAgg)&&tiled [b] [key] then some (m,a) else none
 | _=>none
def qxc (A:Alg I B S Pr L K) (C:Cfg I B S Pr L) (t:TypeId) (ok:Bool) (m key:P I B S Pr L) (st:St I B S Pr L) (k:P I B S Pr L->St I B S Pr L->Pr):Pr:=
 match m with
 | .map id=>onS (A.ff "map") (zfp C st t id key) λ(a,b)=>onS (A.ff "map") (zeroCells A b) λz=>onS (A.ff "map") (A.pack a.c (key::z)) λr=>A.and r.1
   (let cs:=(A.cells a.c (A.mget a.c 1 a.l r.2)).drop 1
    onS (A.ff "map") (bif a.va then some (.agg cs) else bif Nat.beq cs.length 1 then cs[0]? else none) λv=>
    let x:=qeg v st
    bif ok then (let y:=q9k x.2 (A.mhas a.c 1 a.l r.2,A.braw (A.mhas a.c 1 a.l r.2));k (.tuple [x.1,y.1]) y.2) else k x.1 x.2)
 | _=>A.ff "map"
def qs9 (A:Alg I B S Pr L K) (C:Cfg I B S Pr L) (t:TypeId) (m key x:P I B S Pr L) (st:St I B S Pr L) (k:P I B S Pr L->St I B S Pr L->Pr):Pr:=
 match m with
 | .map id=>onS (A.ff "map") (zfp C st t id key) λ(a,b)=>bif (zuz x == a.va)&&Nat.beq x.cellsOf.length b.size&&x.cellsOf.all jn then
   onS (A.ff "map") (A.pack a.c (key::x.cellsOf)) λr=>A.and r.1 (k qmo {st with cells:=qg4 st.cells id (.mp a.c a.lf a.va (A.mput a.c 1 a.l r.2))}) else A.ff "map"
 | _=>A.ff "map"
def qcd (A:Alg I B S Pr L K) (C:Cfg I B S Pr L) (inl:Inl I B S Pr L) (o:Oper) (st:St I B S Pr L) (k:P I B S Pr L->St I B S Pr L->Pr):Pr:=
 match o.op with
 | .move x=>onS (A.ff "operand") (ju A C st x) λp=>k p st
 | .assign x=>onS (A.ff "operand") (ju A C st x) λp=>k p st
 | .pick c a b=>onS (A.ff "operand") (ju A C st c) λc=>br A st c λv h=>onS (A.ff "operand") (ju A C h (if v then a else b)) λp=>k p h
 | .alloc e=>onS (A.ff "type") (C.E.types e) λti=>onS (A.ff "alloc") (zeroCells A ti) λcs=>k (.cell st.next 0 cs.length) {st with cells:=(st.next,.cs (some e) cs)::st.cells,next:=st.next+1}
 | .box t x=>onS (A.ff "operand") (ju A C st x) λp=>bif p.cellsOf.all jn then k (.cell st.next 0 p.cellsOf.length) {st with cells:=(st.next,.cs (some t) p.cellsOf)::st.cells,next:=st.next+1} else A.ff "box"
 | .build t parts=>onS (A.ff "type") (C.E.types t) λti=>onS (A.ff "operand") (qgw A C st (parts.toList.map (·.2))) λl=>zbx A C.E ti (parts.toList.map (·.1)) l st k
 | .buildSlice t len parts=>onS (A.ff "type") (C.E.types t) λti=>onS (A.ff "operand") (qgw A C st (parts.toList.map (·.2))) λl=>match ti.under with
  | .slice e=>onS (A.ff "type") (C.E.types e) λg=>onS (A.ff "buildSlice") (zeroCells A g) λz=>
    bif Nat.ble (len * g.size) 16777216 then
     onS (A.ff "buildSlice") (qyw (λi=>some (i * g.size,g.size)) (List.replicate len z).flatten ((parts.toList.map (·.1)).zip l)) λcells=>match (bif C.born t then none else C.codec e) with
      | some c=>onS (A.ff "buildSlice") (q9g A c (chunks g.size len cells)) λr=>
       zk6 A r.1 (k (.list c (A.lof c r.2) (some (st.next,0))) {st with owns:=(st.next,0)::st.owns,next:=st.next+1})
      | none=>bif Nat.blt 0 g.size&&Nat.beq cells.length (len * g.size) then k (.plist g.size len true cells) {st with owns:=(st.next,0)::st.owns,next:=st.next+1} else A.ff "buildSlice"
    else A.ff "buildSlice"
  | _=>A.ff "buildSlice"
 | .load t x=>onS (A.ff "type") (C.E.types t) λti=>onS (A.ff "operand") (ju A C st x) λp=>zmy A ti p st k
 | .store t a x=>onS (A.ff "type") (C.E.types t) λti=>onS (A.ff "operand") (ju A C st a) λa=>onS (A.ff "operand") (ju A C st x) λx=>zdi A ti a x st k
 | .nilCheck x=>onS (A.ff "operand") (ju A C st x) λp=>match p with
  | .cell ..=>k p st
  | .eptr ..=>k p st
  | .func ..=>k p st
  | .yield ..=>k p st
  | .mptr ..=>k p st
  | _=>A.ff "nilCheck"
 | .binOp q t x y _=>onS (A.ff "operand") (ju A C st x) λa=>onS (A.ff "operand") (ju A C st y) λb=>zu1 A C q t a b st k
 | .unOp q _ x=>onS (A.ff "operand") (ju A C st x) λa=>unP A q a st k
 | .convert u dst x=>onS (A.ff "type") (C.E.types u) λD=>onS (A.ff "type") (C.E.types dst) λF=>onS (A.ff "operand") (ju A C st x) λp=>zli A C D F p st k
 | .makeInterface t x=>onS (A.ff "type") (C.E.types t) λti=>onS (A.ff "operand") (ju A C st x) λp=>match ti.under with
  | .interface _=>A.ff "makeInterface"
  | _=>k (.iface t p) st
 | .makeFunc (.func f) first d=>onS (A.ff "operand") (qgw A C st first.toList) λa=>onS (A.ff "operand") (qgw A C st d.toList) λc=>k (.func f a c) st
 | .slice t x lo hi none=>onS (A.ff "type") (C.E.types t) λti=>onS (A.ff "operand") (ju A C st x) λp=>onS (A.ff "operand") (znq A C st lo) λlo=>onS (A.ff "operand") (znq A C st hi) λhi=>zo2 A C ti p lo hi st k
 | .makeMap t none=>onS (A.ff "type") (C.E.types t) λti=>match ti.under with
  | .map G H=>onS (A.ff "type") (C.E.types G) λJ=>onS (A.ff "type") (C.E.types H) λg=>onS (A.ff "map") (C.mcod t) λc=>onS (A.ff "map") (qly J) λM=>
    k (.map st.next) {st with cells:=(st.next,.mp c M g.isAgg (A.lof c []))::st.cells,next:=st.next+1}
  | _=>A.ff "map"
 | .lookup t m x ok=>onS (A.ff "operand") (ju A C st m) λm=>onS (A.ff "operand") (ju A C st x) λx=>qxc A C t ok m x st k
 | .mapUpdate t m x y=>onS (A.ff "operand") (ju A C st m) λm=>onS (A.ff "operand") (ju A C st x) λx=>onS (A.ff "operand") (ju A C st y) λy=>qs9 A C t m x y st k
 | .insert t m x y=>onS (A.ff "operand") (ju A C st m) λm=>onS (A.ff "operand") (ju A C st x) λx=>onS (A.ff "operand") (ju A C st y) λy=>qs9 A C t m x y st k
 | .fieldAddr s x j=>onS (A.ff "type") (C.E.types s) λti=>onS (A.ff "fieldAddr") (qg9 ti j) λf=>onS (A.ff "type") (C.E.types f.type) λw=>bif Nat.beq w.size 0 then A.ff "fieldAddr" else onS (A.ff "operand") (ju A C st x) λp=>match p with
  | .cell id off lim=>k (.cell id (off+f.offset) lim) st
  | .eptr cs off=>k (.eptr cs (off+f.offset)) st
  | .mptr id c i n off=>bif Nat.beq f.offset 0 then k (.mptr id c i n off) st else A.ff "fieldAddr"
  | _=>A.ff "fieldAddr"
 | .field t x j=>onS (A.ff "type") (C.E.types t) λti=>onS (A.ff "field") (qg9 ti j) λf=>onS (A.ff "type") (C.E.types f.type) λw=>onS (A.ff "operand") (ju A C st x) λp=>match p with
  | .agg cs=>onS (A.ff "field") (zf0 w cs f.offset) λv=>k v st
  | _=>A.ff "field"
 | .indexAddr t x i=>onS (A.ff "type") (C.E.types t) λti=>onS (A.ff "operand") (ju A C st x) λp=>onS (A.ff "operand") (ju A C st i) λi=>ze7 A C ti p i st k
 | .index t x i=>onS (A.ff "type") (C.E.types t) λti=>onS (A.ff "operand") (ju A C st x) λp=>onS (A.ff "operand") (ju A C st i) λi=>ixP A C ti p i st k
 | .extract x i=>onS (A.ff "operand") (ju A C st x) λp=>match p with
  | .tuple l=>onS (A.ff "extract") l[i]? λv=>k v st
  | _=>A.ff "extract"
 | .call c=>onS (A.ff "operand") (qgw A C st c.args.toList) λargs=>match c.callee with
  | .value f=>onS (A.ff "operand") (ju A C st f) λf=>q7x A inl f args st k
  | .builtin b=>qks A C b c.argTypes.toList args st k
  | .invoke ..=>A.ff "invoke"
 | _=>A.ff "operation"
def zgi (A:Alg I B S Pr L K) (o:Oper) (all:Array Oper) (st:St I B S Pr L) (k:Bool->St I B S Pr L->Pr):Pr:=
 match o.guard with
 | none=>k true st
 | some (j,a)=>match (all[j]?).bind (·.dst) with
  | none=>k false st
  | some d=>match st.tmps.get d with
   | some (.lit b)=>k (b == a) st
   | some (.sb id neg b e f)=>br A st (.sb id neg b e f) λv c=>k (v == a) c
   | some (.tuple [])=>k false st
   | _=>A.ff "guard"
def qsw (op:Op):Bool:=match op with | .defer _=>true | _=>false
def wpOps (A:Alg I B S Pr L K) (C:Cfg I B S Pr L) (inl:Inl I B S Pr L) (all:Array Oper):List Oper->St I B S Pr L->(St I B S Pr L->Pr)->Pr
 | [],st,k=>k st
 | o::l,st,k=>bif qsw o.op then A.ff "defer" else zgi A o all st λw st1=>
  bif w then qcd A C inl o st1 λp st2=>wpOps A C inl all l (st2.put o.dst p) k
  else wpOps A C inl all l (st1.put o.dst qmo) k
def zk9:P I B S Pr L->Bool
 | .func _ [] [] | .nilf=>true
 | _=>false
def q7p (A:Alg I B S Pr L K):P I B S Pr L->Option (P I B S Pr L)
 | .int k l n=>some (.int k l n)
 | .lit b=>some (.lit b)
 | .sb _ _ b _ _=>some (.sb 0 false b (A.braw b).1 (A.braw b).2)
 | .str s=>some (.str s)
 | .list c l _=>some (.list c l none)
 | .func f [] []=>some (.func f [] [])
 | .nilf=>some .nilf
 | .plist a n fx cs=>bif cs.all zk9 then some (.plist a n fx cs) else none
 | _=>none
def q7r (A:Alg I B S Pr L K):List (P I B S Pr L)->Option (List (P I B S Pr L))
 | []=>some []
 | p::ps=>(q7p A p).bind λq=>(q7r A ps).map λa=>q::a
def bare (A:Alg I B S Pr L K):P I B S Pr L->Option (P I B S Pr L)
 | .agg cs=>(q7r A cs).map .agg
 | p=>q7p A p
def qx1 (A:Alg I B S Pr L K):List (P I B S Pr L)->Option (List (P I B S Pr L))
 | []=>some []
 | p::ps=>(bare A p).bind λq=>(qx1 A ps).map λa=>q::a
def zd1 (A:Alg I B S Pr L K):P I B S Pr L->Option (P I B S Pr L)
 | .tuple l=>(qx1 A l).map .tuple
 | p=>bare A p
def q6n (A:Alg I B S Pr L K) (inl:Inl I B S Pr L):Inl I B S Pr L:=λt args st k=>
 match t with
 | .func g=>match qx1 A args with
  | some a=>inl (.func g) (qap a 1).1 {tmps:=.nil,n:=0,cells:=[],owns:=[],next:=(qap a 1).2,known:=[]} λp _=>match zd1 A p with
   | some r=>k (qdf st r).1 (qdf st r).2
   | none=>A.ff "value"
  | none=>A.ff "value"
 | .round _=>A.ff "round"
inductive Src where
 | any
 | calm
 | own (j:Nat)
inductive FP3 where
 | none
 | read (id:Nat)
 | write (id:Nat)
 | stable (l:List Src)
 | call (calm:Bool)
 | lone
structure Done3 where
 i:Nat
 fp:FP3
 makes:Bool
def makes (op:Op):Bool:=
 match op with
 | .alloc _ | .box .. | .buildSlice .. | .makeMap ..=>true
 | .call c=>match c.callee with
  | .builtin .append=>true
  | .builtin _=>false
  | _=>true
 | _=>false
def elemAt (st:St I B S Pr L) (t:Nat):Bool:=
 match st.tmps.get t with
 | some (.eptr ..)=>true
 | some (.list ..)=>true
 | _=>false
structure Dirt where
 dirty:List Nat
 fresh:List (Nat×Nat×Bool)
def qh2 (g:Dirt) (st:St I B S Pr L):Op->Bool
 | .move (.tmp t)=>!g.dirty.any (Nat.beq t)&&elemAt st t
 | .indexAddr _ (.tmp t) _=>!g.dirty.any (Nat.beq t)&&elemAt st t
 | .fieldAddr _ (.tmp t) _=>!g.dirty.any (Nat.beq t)&&elemAt st t
 | _=>false
def qin (g:Dirt) (st:St I B S Pr L) (i:Nat):Op->Option (Nat×Bool)
 | .buildSlice ..=>some (i,true)
 | .move (.tmp t)=>look g.fresh t
 | .indexAddr _ (.tmp t) _=>bif elemAt st t then (look g.fresh t).map λx=>(x.1,false) else none
 | .fieldAddr _ (.tmp t) _=>bif elemAt st t then (look g.fresh t).map λx=>(x.1,false) else none
 | _=>none
def qay (g:Dirt) (st:St I B S Pr L) (i:Nat) (o:Oper):Option (Nat×Bool):=
 match o.dst with
 | some d=>bif Nat.blt d st.n then qin g st i o.op else none
 | none=>none
def zdb (g:Dirt) (calm:Bool) (fr:Option (Nat×Bool)):Option Nat->Dirt
 | some d=>⟨bif calm then g.dirty else d::g.dirty,match fr with
  | some x=>(d,x.1,x.2)::qb2 g.fresh d
  | none=>qb2 g.fresh d⟩
 | none=>g
def ztd (g:Dirt) (t:Nat):Src:=
 bif !g.dirty.any (Nat.beq t) then .calm else match look g.fresh t with
  | some (j,_)=>.own j
  | none=>.any
def q0w (g:Dirt):Operand->List Src
 | .tmp t=>[ztd g t]
 | _=>[]
def qkr (A:Alg I B S Pr L K) (C:Cfg I B S Pr L) (st:St I B S Pr L) (x:Operand):Bool:=
 match ju A C st x with
 | some (.plist ..)=>true
 | some (.mlist ..)=>true
 | _=>false
def qza (A:Alg I B S Pr L K) (C:Cfg I B S Pr L) (g:Dirt) (st:St I B S Pr L) (x:Operand):Bool:=
 match ju A C st x with
 | some .nils=>true
 | some (.list ..)=>(match x with
  | .tmp t=>(match look g.fresh t with
   | some (_,w)=>w
   | none=>false)
  | _=>false)
 | _=>false
def qsq (A:Alg I B S Pr L K) (C:Cfg I B S Pr L) (g:Dirt) (st:St I B S Pr L) (x:Operand):Bool:=
 match ju A C st x with
 | some (.int ..) | some (.str _) | some (.lit _) | some (.sb ..) | some .nils=>true
 | some (.list ..)=>(match x with
  | .tmp t=>!g.dirty.any (Nat.beq t)
  | _=>false)
 | _=>false
def fp3 (A:Alg I B S Pr L K) (C:Cfg I B S Pr L) (all:Array Oper) (b:Array Nat) (i:Nat) (o:Oper) (a:Dirt) (st:St I B S Pr L):Option FP3:=
 bif !z6 C.E o.op then some .none else
 match o.op with
 | .load _ (.tmp t)=>match st.tmps.get t with
  | some (.cell id _ _)=>some (.read id)
  | some (.mptr id ..)=>some (.read id)
  | some (.eptr ..)=>some (.stable [ztd a t])
  | _=>none
 | .load _ (.global _)=>some (.stable [.calm])
 | .indexAddr _ (.global _) i=>match ju A C st i with
  | some (.int ..)=>bif (qge i).isEmpty then some (.stable [.calm]) else none
  | _=>none
 | .store _ (.tmp t) x=>match st.tmps.get t with
  | some (.cell id _ _)=>bif (qge x).isEmpty then some (.write id) else none
  | some (.mptr id ..)=>bif (qge x).isEmpty then some (.write id) else none
  | _=>none
 | .lookup _ (.tmp t) x _=>match st.tmps.get t with
  | some (.map id)=>bif (qge x).isEmpty then some (.read id) else none
  | _=>none
 | .mapUpdate _ (.tmp t) x y=>match st.tmps.get t with
  | some (.map id)=>bif (qge x).isEmpty&&(qge y).isEmpty then some (.write id) else none
  | _=>none
 | .insert _ (.tmp t) x y=>match st.tmps.get t with
  | some (.map id)=>bif (qge x).isEmpty&&(qge y).isEmpty then some (.write id) else none
  | _=>none
 | .convert _ _ x=>match ju A C st x with
  | some (.int ..) | some (.str _)=>bif (qge x).isEmpty then some (.stable []) else none
  | _=>none
 | .call c=>match c.callee with
  | .value f=>bif quv C.E all b i then some .lone else match ju A C st f,qgw A C st c.args.toList with
   | some (.func g first cap),some args=>bif (fnP A st g (first++args++cap)).isSome || (qx1 A (first++args++cap)).isSome then some (.call (first.isEmpty&&cap.isEmpty&&c.args.toList.all (qsq A C a st))) else none
   | _,_=>none
  | .builtin .append=>(match c.args.toList with
   | [x,y]=>bif qkr A C st x || qkr A C st y then none else bif qza A C a st x then some (.stable (q0w a x++q0w a y)) else bif quv C.E all b i then some .lone else none
   | _=>none)
  | _=>none
 | _=>none
def goes (i:Nat):FP3->FP3->Bool
 | .none,_=>true
 | .read _,.none=>true
 | .read _,.read _=>true
 | .read _,.stable _=>true
 | .read _,.call _=>true
 | .read i,.write j=>!Nat.beq i j
 | .read _,.lone=>false
 | .stable _,.lone=>false
 | .stable _,_=>true
 | .write _,.none=>true
 | .write i,.read j=>!Nat.beq i j
 | .write i,.write j=>!Nat.beq i j
 | .write _,.stable _=>true
 | .write _,.call _=>false
 | .write _,.lone=>false
 | .call _,.none=>true
 | .call _,.read _=>true
 | .call _,.stable _=>true
 | .call _,.call _=>true
 | .call _,.write _=>false
 | .call _,.lone=>false
 | .lone,.none=>true
 | .lone,.stable l=>l.all λs=>match s with
  | .own j=>Nat.blt i j
  | _=>false
 | .lone,_=>false
def fits (old i:Nat):FP3->Bool
 | .none=>true
 | .read j=>Nat.blt j old
 | .write j=>Nat.blt j old
 | .stable l=>l.all λs=>match s with
  | .calm=>true
  | .own j=>!Nat.beq j i
  | .any=>false
 | .call c=>c
 | .lone=>false
def qkq (old:Nat) (d:Done3) (fp:FP3):Bool:=goes d.i d.fp fp&&(!d.makes || fits old d.i fp)
def zmh (A:Alg I B S Pr L K) (inl:Inl I B S Pr L):FP3->Inl I B S Pr L
 | .call _=>q6n A inl
 | _=>inl
def q1c (A:Alg I B S Pr L K) (C:Cfg I B S Pr L) (inl:Inl I B S Pr L) (all:Array Oper) (b:Array Nat) (old:Nat):Nat->List Oper->Dirt->List Done3->St I B S Pr L->(St I B S Pr L->Pr)->Pr
 | _,[],_,_,st,k=>k st
 | i,o::l,a,done,st,k=>bif qsw o.op then A.ff "defer" else zgi A o all st λw st1=>
  bif w then (match fp3 A C all b i o a st1 with
   | some fp=>bif (done.filter λd=>!(b.getD i 0).testBit d.i).all (λd=>qkq old d fp) then
     qcd A C (zmh A inl fp) o st1 λp st2=>bif st1.cells.all (λx=>(look st2.cells x.1).isSome) then q1c A C inl all b old (i+1) l (zdb a (qh2 a st1 o.op) (qay a st1 i o) o.dst) (⟨i,fp,makes o.op⟩::done) (st2.put o.dst p) k else A.ff "frozen"
    else A.ff "order"
   | none=>A.ff "footprint")
  else q1c A C inl all b old (i+1) l (zdb a false none o.dst) (⟨i,.none,false⟩::done) (st1.put o.dst qmo) k
def qg2:Code->List Nat
 | .region _ c _=>c.toList.filterMap (·.dst)
 | .seq a b=>qg2 a++qg2 b
 | .cond _ a b=>qg2 a++qg2 b
 | .block _ a | .loop a | .scope a=>qg2 a
 | .rangeFunc _ ps a b=>ps.toList++qg2 a++qg2 b
 | _=>[]
def quc {α:Type}:List Nat->Tree α->Tree α
 | [],t=>t
 | n::l,t=>quc l (t.del n)
inductive RSlot where
 | one (t:Nat) (k:SK)
 | agg (t:Nat) (ks:List SK)
 | var (id:Nat) (ks:List SK)
 | ml (id c:Nat)
def zwc:List (Nat×Cont I B S Pr L)->Nat->Option (LRec I B S Pr L)
 | [],_=>none
 | (_,.lp r)::_,0=>some r
 | (_,.lp _)::l,n+1=>zwc l n
 | _::l,n=>zwc l n
def resolve (st:St I B S Pr L):List Slot->Option (List RSlot)
 | []=>some []
 | .one t k::l=>(resolve st l).map λr=>.one t k::r
 | .agg t ks::l=>(resolve st l).map λr=>.agg t ks::r
 | .via t ks::l=>match st.tmps.get t with
  | some (.cell id _ _)=>(resolve st l).map λr=>.var id ks::r
  | _=>none
 | .cap t i ks::l=>match st.tmps.get t with
  | some (.func _ _ cap)=>match cap[i]? with
   | some (.cell id _ _)=>(resolve st l).map λr=>.var id ks::r
   | _=>none
  | _=>none
 | .elems t a::l=>match st.tmps.get t with
  | some (.mlist id c _ _)=>(resolve st l).map λr=>.ml id c::r
  | some (.list c _ _)=>(resolve st l).map λr=>.one t (.list c false false)::r
  | some .nils=>(resolve st l).map λr=>.one t (.list a false false)::r
  | _=>none
 | .out j t ks::l=>match (zwc st.cells j).bind λr=>r.tmps.get t with
  | some (.cell id _ _)=>(resolve st l).map λr=>.var id ks::r
  | _=>none
def qb7 (st:St I B S Pr L):RSlot->Option (List SK×List (P I B S Pr L))
 | .one t k=>(st.tmps.get t).map λp=>([k],[p])
 | .agg t ks=>match st.tmps.get t with
  | some (.agg cs)=>some (ks,cs)
  | _=>none
 | .var id ks=>(qpj st.cells id).map λcs=>(ks,cs)
 | .ml ..=>none
def zmi (A:Alg I B S Pr L K) (c:Nat):Option Nat:=
 match A.cells c (A.lget c (A.lof c []) (A.ilit 0)) with
 | [.list d _ _]=>some d
 | _=>none
def qfw (A:Alg I B S Pr L K) (st:St I B S Pr L):List RSlot->Option (List (N I B S L))
 | []=>some []
 | .ml id c::l=>(qqz st.cells id c).bind λx=>(zmi A c).bind λd=>(qtw A st (.list d true true) x.2).bind λa=>(qfw A st l).map λr=>.l c x.1::(a++r)
 | s::l=>(qb7 st s).bind λx=>(qm4 A st x.1 x.2).bind λa=>(qfw A st l).map λr=>a++r
def qaj:List SK->List (P I B S Pr L)->List Nat
 | .list _ true _::ks,.list _ _ (some (i,_))::ps=>i::qaj ks ps
 | _::ks,_::ps=>qaj ks ps
 | _,_=>[]
def zy (st:St I B S Pr L):List RSlot->List Nat
 | []=>[]
 | .ml id c::l=>(match qqz st.cells id c with
  | some (_,.list _ _ (some (i,_)))=>[i]
  | _=>[])++zy st l
 | s::l=>(match qb7 st s with
  | some x=>qaj x.1 x.2
  | none=>[])++zy st l
def qmu (A:Alg I B S Pr L K):List SK->List (P I B S Pr L)->St I B S Pr L->(List (P I B S Pr L)->List (N I B S L)->St I B S Pr L->Pr)->Pr
 | [],[],st,g=>g [] [] st
 | k::ks,p::ps,st,g=>match k with
  | .int e=>A.allI e λn=>qmu A ks ps st λd ns a=>g (.int e none n::d) (.i n::ns) a
  | .bool=>A.allB λb=>qmu A ks ps {st with next:=st.next+1} λd ns a=>g (.sb st.next false b (A.braw b).1 (A.braw b).2::d) (.b b::ns) a
  | .str=>A.allS λs=>qmu A ks ps st λd ns a=>g (.str s::d) (.s s::ns) a
  | .list c own nb=>A.allL c λl=>bif own then qmu A ks ps {st with owns:=(st.next,bif nb then 1 else 0)::st.owns,next:=st.next+1} λd ns a=>g (.list c l (some (st.next,bif nb then 1 else 0))::d) (.l c l::ns) a
    else qmu A ks ps st λd ns a=>g (.list c l none::d) (.l c l::ns) a
  | .keep=>qmu A ks ps st λd ns a=>g (p::d) ns a
  | .grow=>match p with
   | .mlist id c fx _=>A.allI .i64 λn=>qmu A ks ps st λd ns a=>g (.mlist id c fx n::d) (.i n::ns) a
   | _=>A.ff "slot"
 | _,_,_,_=>A.ff "slot"
def qc9 (A:Alg I B S Pr L K) (st0:St I B S Pr L):List RSlot->St I B S Pr L->(List (N I B S L)->St I B S Pr L->Pr)->Pr
 | [],st,g=>g [] st
 | .ml id c::l,st,g=>onS (A.ff "slot") (qqz st0.cells id c) λ_=>onS (A.ff "slot") (zmi A c) λd=>A.allL c λx=>A.allL d λy=>qc9 A st0 l {st with cells:=qg4 st.cells id (.ml c x (.list d y (some (st.next,1)))),owns:=(st.next,1)::st.owns,next:=st.next+1} λa st2=>g (.l c x::.l d y::a) st2
 | s::l,st,g=>match qb7 st0 s with
  | none=>A.ff "slot"
  | some x=>qmu A x.1 x.2 st λb ns st1=>match s with
   | .one t _=>match b with
    | [q]=>qc9 A st0 l {st1 with tmps:=st1.tmps.set t q} λa st2=>g (ns++a) st2
    | _=>A.ff "slot"
   | .agg t _=>qc9 A st0 l {st1 with tmps:=st1.tmps.set t (.agg b)} λa st2=>g (ns++a) st2
   | .var id _=>qc9 A st0 l {st1 with cells:=qg4 st1.cells id (.cs none b)} λa st2=>g (ns++a) st2
   | .ml ..=>A.ff "slot"
def q6u:Option Int->Option Int->Bool
 | some a,some b=>decide (a=b)
 | _,_=>false
mutual
def qa0 (A:Alg I B S Pr L K) (g:St I B S Pr L):P I B S Pr L->P I B S Pr L->Option (List Pr)
 | .int k l a,.int q d b=>if k=q then some (bif q6u l d then [] else [A.eqI a b]) else none
 | .lit a,.lit b=>if a=b then some [] else none
 | .sb _ _ a _ _,.sb _ _ b _ _=>some [A.eqB a b]
 | .str a,.str b=>some [A.eqS a b]
 | .list c l none,.list e d none=>if h:e=c then some [A.eqL c l (h ▸ d)] else none
 | .list c l (some (i,s)),.list e d (some (m,p))=>bif Nat.beq i m&&Nat.beq s p&&qek g (.list e d (some (m,p))) then (if h:e=c then some [A.eqL c l (h ▸ d)] else none) else none
 | .nils,.nils=>some []
 | .mlist i c x n,.mlist m e r t=>bif Nat.beq i m&&Nat.beq c e&&(x == r) then some [A.eqI n t] else none
 | .cell i o l,.cell m u d=>bif Nat.beq i m&&Nat.beq o u&&Nat.beq l d then some [] else none
 | .nilp,.nilp | .nilf,.nilf | .nili,.nili=>some []
 | .yield i,.yield j=>bif Nat.beq i j then some [] else none
 | .map i,.map j=>bif Nat.beq i j then some [] else none
 | .func f a c,.func v w e=>bif Nat.beq f v then (qnz A g a w).bind λx=>(qnz A g c e).map λy=>x++y else none
 | _,_=>none
def qnz (A:Alg I B S Pr L K) (c:St I B S Pr L):List (P I B S Pr L)->List (P I B S Pr L)->Option (List Pr)
 | [],[]=>some []
 | a::d,b::e=>(qa0 A c a b).bind λx=>(qnz A c d e).map λy=>x++y
 | _,_=>none
end
def qim:List RSlot->List Nat
 | []=>[]
 | .var id _::l=>id::qim l
 | .ml id _::l=>id::qim l
 | _::l=>qim l
def qgg (A:Alg I B S Pr L K) (d:St I B S Pr L):List SK->List (P I B S Pr L)->List (P I B S Pr L)->Option (List Pr)
 | [],[],[]=>some []
 | .keep::ks,a::e,b::f=>(qa0 A d a b).bind λx=>(qgg A d ks e f).map λy=>x++y
 | .grow::ks,.mlist i c x _::e,.mlist g h j _::f=>bif Nat.beq i g&&Nat.beq c h&&(x == j) then qgg A d ks e f else none
 | .grow::_,_,_=>none
 | _::ks,_::e,_::f=>qgg A d ks e f
 | _,_,_=>none
def qia (A:Alg I B S Pr L K) (st b:St I B S Pr L):List RSlot->Option (List Pr)
 | []=>some []
 | .ml ..::l=>qia A st b l
 | s::l=>(qb7 st s).bind λx=>(qb7 b s).bind λy=>(qgg A b x.1 x.2 y.2).bind λa=>(qia A st b l).map λr=>a++r
def zaf:LMode->LMode->Bool
 | .ready,.ready=>true
 | .busy,.busy=>true
 | _,_=>false
def qmz (A:Alg I B S Pr L K) (a:St I B S Pr L) (id:Nat):Cont I B S Pr L->Option (List Pr)
 | .cs t cs=>bif zzm t (qnm a.cells id) then (qpj a.cells id).bind λd=>qnz A a cs d else none
 | .ml c l p=>(qqz a.cells id c).bind λb=>(qa0 A a p b.2).map λx=>A.eqL c l b.1::x
 | .mp c e f l=>match q52 a.cells id with
  | some m=>if h:m.c=c then (bif qts e m.lf&&(f == m.va) then some [A.eqL c l (h ▸ m.l)] else none) else none
  | none=>none
 | .lp r=>match look a.cells id with
  | some (.lp g)=>bif zaf r.mode g.mode then some [] else none
  | _=>none
def qkg (A:Alg I B S Pr L K) (a:List Nat) (b:St I B S Pr L):List (Nat×Cont I B S Pr L)->Option (List Pr)
 | []=>some []
 | (id,ct)::l=>bif a.any (λi=>Nat.beq i id) then qkg A a b l else
     (qmz A b id ct).bind λx=>(qkg A a b l).map λy=>x++y
def qeh (st:St I B S Pr L) (b:List Nat) (a:List RSlot):St I B S Pr L:=
 {st with tmps:=quc b st.tmps,owns:=(zy st a).foldl qb2 st.owns}
def q2o (A:Alg I B S Pr L K) (j:Nat) (seen:List (N I B S L)) (c:List RSlot) (dec:Option (List (N I B S L))) (st0 d st:St I B S Pr L):Pr:=
 match qfw A st c,qia A st0 st c,qkg A (qim c) st st0.cells with
 | some ns,some a,some b=>
  bif distinct (zy st c)&&(zy st c).all (λi=>!(d.owns.any λx=>Nat.beq x.1 i))&&d.owns.all (λx=>match look st.owns x.1 with
    | some s=>Nat.beq s x.2
    | none=>false) then
   zk6 A a (zk6 A b (A.and (A.inv j (ns++seen)) (match dec with
    | some m=>A.dec j (ns++seen) (m++seen)
    | none=>A.tt)))
  else A.ff "lists of their own"
 | _,_,_=>A.ff "state"
def ze3 (A:Alg I B S Pr L K) (j:Nat) (b c:List Slot) (e:List Nat) (st:St I B S Pr L) (body:St I B S Pr L->(Ex->St I B S Pr L->Pr)->Pr) (k:Ex->St I B S Pr L->Pr):Pr:=
 onS (A.ff "slots") (resolve st b) λrs=>onS (A.ff "slots") (qfw A st rs) λd=>onS (A.ff "sees") ((resolve st c).bind (qfw A st)) λa=>
  bif distinct (zy st rs) then A.and (A.inv j (d++a)) (qc9 A st rs (qeh st e rs) λns st1=>A.imp (A.inv j (ns++a))
   (body st1 λex st2=>match ex with
     | .normal=>q2o A j a rs (some ns) st (qeh st e rs) st2
     | ex=>k ex st2)) else A.ff "lists of their own"
def q84 {σ:Type} (step:σ->(σ->Pr)->Pr) (bad:Pr):Nat->σ->Pr
 | 0,_=>bad
 | n+1,s=>step s λa=>q84 step bad n a
def inRound (rd:Option Nat) (st:St I B S Pr L):Bool:=
 match rd with
 | none=>true
 | some id=>match look st.cells id with
  | some (.lp _)=>true
  | _=>false
def zuf (A:Alg I B S Pr L K) (st:St I B S Pr L) (id:Nat) (st1:St I B S Pr L) (k:Ex->St I B S Pr L->Pr):Pr:=
 match look st1.cells id with
 | some (.lp r)=>match r.mode with
  | .ready=>k .normal {st1 with cells:=qb2 st1.cells id,tmps:=st.tmps,n:=st.n}
  | .done none=>k .ret {st1 with cells:=qb2 st1.cells id,tmps:=st.tmps,n:=st.n}
  | .done (some i)=>k (.exit i) {st1 with cells:=qb2 st1.cells id,tmps:=st.tmps,n:=st.n}
  | .busy=>A.ff "loop"
 | _=>A.ff "loop"
def zcy (A:Alg I B S Pr L K) (C:Cfg I B S Pr L) (inl:Inl I B S Pr L) (r:LRec I B S Pr L) (v:P I B S Pr L) (st:St I B S Pr L) (k:Ex->St I B S Pr L->Pr):Pr:=
 match v with
 | .func g first cap=>bif qnj C.E g then
   inl (.func g) (first++[.yield (st.next+1)]++cap) {st with cells:=(st.next+1,.lp r)::st.cells,next:=st.next+2} λ_ st1=>zuf A st (st.next+1) st1 k
  else A.ff "no body"
 | _=>A.ff "range"
def zbz (A:Alg I B S Pr L K) (st:St I B S Pr L) (t i:Nat) (k:St I B S Pr L->Pr):Pr:=
 match st.tmps.get t with
 | some (.cell a _ _)=>onS (A.ff "close") (qpj st.cells a) λcs=>match cs[i]? with
  | some (.mlist id c _ n)=>onS (A.ff "close") (qqz st.cells id c) λl=>onS (A.ff "close") (A.pack c [l.2]) λr=>
    A.and (A.eqI n (A.llen c l.1)) (A.and r.1 (A.and (A.lcat c l.1 (A.lof c [r.2])).1 (k {st with cells:=qg4 (qb2 st.cells id) a (.cs (qnm st.cells a) (qfl cs i [.list c (A.lcat c l.1 (A.lof c [r.2])).2 none]))})))
  | _=>k st
 | _=>k st
def qbp (A:Alg I B S Pr L K) (C:Cfg I B S Pr L) (inl:Inl I B S Pr L) (rd:Option Nat) (fn:Nat):Nat->Code->St I B S Pr L->(Ex->St I B S Pr L->Pr)->Pr
 | _,.skip,st,k=>k .normal st
 | _,.label _,st,k=>k .normal st
 | _,.exit id,st,k=>k (.exit id) st
 | _,.ret,st,k=>k .ret st
 | p,.seq a b,st,k=>match C.ann fn p with
  | some (.cut j d e)=>onS (A.ff "cut") (resolve st d) λrs=>onS (A.ff "sees") ((resolve st e).bind (qfw A st)) λm=>
    A.and (qbp A C inl rd fn (2 * p) a st λex st1=>match ex with
     | .normal=>q2o A j m rs none st (qeh st (qg2 a) rs) st1
     | ex=>k ex st1)
    (qc9 A st rs (qeh st (qg2 a) rs) λns st1=>A.imp (A.inv j (ns++m)) (qbp A C inl rd fn (2 * p+1) b st1 k))
  | some (.shut t i)=>zbz A st t i λst=>qbp A C inl rd fn (2 * p) a st λex st1=>match ex with
   | .normal=>qbp A C inl rd fn (2 * p+1) b st1 k
   | ex=>k ex st1
  | _=>qbp A C inl rd fn (2 * p) a st λex st1=>match ex with
   | .normal=>qbp A C inl rd fn (2 * p+1) b st1 k
   | ex=>k ex st1
 | p,.cond c a b,st,k=>match ju A C st c with
  | some v=>br A st v λt st1=>bif t then qbp A C inl rd fn (2 * p) a st1 k else qbp A C inl rd fn (2 * p+1) b st1 k
  | none=>A.ff "operand"
 | p,.block id c,st,k=>qbp A C inl rd fn (2 * p) c st λex st1=>match ex with
  | .exit o=>bif Nat.beq o id then k .normal st1 else k (.exit o) st1
  | ex=>k ex st1
 | p,.scope c,st,k=>qbp A C inl rd fn (2 * p) c st k
 | p,.loop c,st,k=>match C.ann fn p with
  | some (.inv j d e)=>ze3 A j d e (qg2 c) st (λs g=>qbp A C inl rd fn (2 * p) c s g) k
  | some (.peel j d e)=>qbp A C inl rd fn (2 * p) c st λex st1=>match ex with
    | .normal=>ze3 A j d e (qg2 c) st1 (λs g=>qbp A C inl rd fn (2 * p) c s g) k
    | ex=>k ex st1
  | some (.unroll n)=>q84 (λs g=>qbp A C inl rd fn (2 * p) c s λex st1=>match ex with
    | .normal=>g st1
    | ex=>k ex st1) (A.ff "unroll") n st
  | _=>A.ff "loop"
 | _,.region _ h q,st,k=>bif q then q1c A C inl h (Region.before h) st.next 0 h.toList ⟨[],[]⟩ [] st λst1=>k .normal st1
   else wpOps A C inl h h.toList st λst1=>k .normal st1
 | p,.rangeFunc f l a b,st,k=>bif inRound rd st then onS (A.ff "operand") (ju A C st f) λv=>zcy A C inl (⟨st.tmps,st.n,l.toList,a,b,fn,p,.ready⟩) v st k else A.ff "round"
 | _,_,_,_=>A.ff "code"
def qi6 (A:Alg I B S Pr L K) (C:Cfg I B S Pr L) (st:St I B S Pr L):List ResultVar->Option (List (P I B S Pr L))
 | []=>some []
 | .tmp t::rs=>(st.tmps.get t).bind λv=>(qi6 A C st rs).map λb=>v::b
 | .cell a t::rs=>(C.E.types t).bind λti=>(st.tmps.get a).bind λp=>(zfm st ti p).bind λv=>(qi6 A C st rs).map λb=>v::b
def zck:List (P I B S Pr L)->P I B S Pr L
 | [v]=>v
 | a=>.tuple a
def zoh (A:Alg I B S Pr L K) (args:List (P I B S Pr L)) (st:St I B S Pr L) (k:P I B S Pr L->St I B S Pr L->Pr):Pr:=
 match args with
 | [.cell id off lim]=>onS (A.ff "String") (qpj st.cells id) λcs=>bif Nat.ble (off+2) lim&&Nat.ble lim cs.length then (match cs[off+1]? with
  | some .nils=>k (.str (A.slit [])) st
  | some (.list c l (some (i,s)))=>if h:c=0 then (bif qek st (.list c l (some (i,s)))&&Nat.beq (s % 2) 1 then A.and (A.leI (A.llen c l) (A.ilit 140737488355328)) (k (.str (A.bstr (h ▸ l))) {st with owns:=qb2 st.owns i}) else A.ff "String") else A.ff "String"
  | _=>A.ff "String") else A.ff "String"
 | _=>A.ff "String"
mutual
def P.refs:P I B S Pr L->List Nat
 | .cell id _ _=>[id]
 | .mlist id _ _ _=>[id]
 | .mptr id _ _ _ _=>[id]
 | .map id=>[id]
 | .yield id=>[id]
 | .func _ a c=>qto a++qto c
 | .iface _ p=>p.refs
 | .agg l=>qto l
 | .tuple l=>qto l
 | .plist _ _ _ l=>qto l
 | _=>[]
def qto:List (P I B S Pr L)->List Nat
 | []=>[]
 | p::ps=>p.refs++qto ps
end
def Cont.refs:Cont I B S Pr L->List Nat
 | .cs _ ps=>qto ps
 | .ml _ _ p=>p.refs
 | _=>[]
def zb7 (lo:Nat) (cells:List (Nat×Cont I B S Pr L)):Nat->List Nat->List Nat
 | 0,m=>m
 | n+1,m=>zb7 lo cells n (m++cells.flatMap λx=>bif Nat.ble lo x.1&&m.any (Nat.beq x.1) then x.2.refs else [])
def gcC (lo:Nat) (a:List (P I B S Pr L)) (cells:List (Nat×Cont I B S Pr L)):List (Nat×Cont I B S Pr L):=
 bif cells.all (λx=>Nat.blt x.1 lo) then cells else
 let m:=zb7 lo cells 3 ((qto a++cells.flatMap λx=>bif Nat.ble lo x.1 then [] else x.2.refs).filter (Nat.ble lo))
 cells.filter λx=>!Nat.ble lo x.1 || m.any (Nat.beq x.1)
def q69 (A:Alg I B S Pr L K) (C:Cfg I B S Pr L) (inl:Inl I B S Pr L) (f:Nat) (args:List (P I B S Pr L)) (st:St I B S Pr L) (k:P I B S Pr L->St I B S Pr L->Pr):Pr:=
 bif C.ans f then A.ff "answered" else bif C.prim f then zoh A args st k else
 match C.E.funcs f with
 | some a=>match a.body with
  | some c=>qbp A C inl none f 1 c {st with tmps:=Tree.ofList args,n:=max args.length a.ntmps} λex st1=>
   let out:Pr:=onS (A.ff "results") (qi6 A C st1 a.results) λb=>k (zck b) {st1 with tmps:=st.tmps,n:=st.n,cells:=gcC st.next b st1.cells}
   match ex with
   | .normal=>out
   | .ret=>out
   | _=>A.ff "way out"
  | none=>match a.ext,args with
   | 4,[x]=>k x st
   | _,_=>A.ff "no body"
 | none=>A.ff "no function"
def qgm (n:Nat):List Tmp->List (P I B S Pr L)->Tree (P I B S Pr L)->Option (Tree (P I B S Pr L))
 | [],[],t=>some t
 | p::ps,v::a,t=>bif Nat.blt p n then qgm n ps a (t.set p v) else none
 | _,_,_=>none
def zxz (A:Alg I B S Pr L K) (id:Nat) (r:LRec I B S Pr L) (st:St I B S Pr L) (ex:Ex) (st2:St I B S Pr L) (k:P I B S Pr L->St I B S Pr L->Pr):Pr:=
 match ex with
 | .normal=>k (.lit true) {st2 with cells:=qg4 st2.cells id (.lp {r with mode:=.ready}),tmps:=st.tmps,n:=st.n}
 | .ret=>k (.lit false) {st2 with cells:=qg4 st2.cells id (.lp {r with mode:=.done none}),tmps:=st.tmps,n:=st.n}
 | .exit i=>k (.lit false) {st2 with cells:=qg4 st2.cells id (.lp {r with mode:=.done (some i)}),tmps:=st.tmps,n:=st.n}
 | _=>A.ff "round"
def q7a (A:Alg I B S Pr L K) (C:Cfg I B S Pr L) (inl:Inl I B S Pr L) (id:Nat) (args:List (P I B S Pr L)) (st:St I B S Pr L) (k:P I B S Pr L->St I B S Pr L->Pr):Pr:=
 match look st.cells id with
 | some (.lp r)=>match r.mode with
  | .ready=>onS (A.ff "round") (qgm r.n r.params args r.tmps) λt=>
    qbp A C inl (some id) r.fn (2 * r.pos) r.assign {st with tmps:=t,n:=r.n} λex st1=>match ex with
     | .normal=>(match look st1.cells id with
      | some (.lp r1)=>(match r1.mode with
       | .ready=>qbp A C inl (some id) r.fn (2 * r.pos+1) r.body {st1 with cells:=qg4 st1.cells id (.lp {r with mode:=.busy})} λex st2=>(match look st2.cells id with
        | some (.lp _)=>zxz A id r st ex st2 k
        | _=>A.ff "round")
       | _=>A.ff "round")
      | _=>A.ff "round")
     | _=>A.ff "round"
  | _=>A.ff "round"
 | _=>A.ff "round"
def zgl (A:Alg I B S Pr L K) (C:Cfg I B S Pr L):Nat->Inl I B S Pr L
 | 0=>λ_ _ _ _=>A.ff "too deep"
 | n+1=>λt args st k=>match t with
  | .func f=>q69 A C (zgl A C n) f args st k
  | .round id=>q7a A C (zgl A C n) id args st k
def meets (A:Alg I B S Pr L K) (st:St I B S Pr L):P I B S Pr L->P I B S Pr L->Option (List Pr)
 | .int k _ a,.int d _ b=>if k=d then some [A.eqI a b] else none
 | .lit a,.sb _ _ b _ _=>some [A.eqB (A.blit a) b]
 | .sb _ _ a _ _,.sb _ _ b _ _=>some [A.eqB a b]
 | .str a,.str b=>some [A.eqS a b]
 | p,.list c l own=>bif own.isSome&&!qek st p then none else (asL A c p).map λe=>[A.eqL c e l]
 | _,_=>none
def qno (A:Alg I B S Pr L K) (st:St I B S Pr L):List (P I B S Pr L)->List (P I B S Pr L)->Option (List Pr)
 | [],[]=>some []
 | a::c,b::d=>(meets A st a b).bind λx=>(qno A st c d).map λy=>x++y
 | _,_=>none
def qk9:List (P I B S Pr L)->List (P I B S Pr L)->List Nat
 | .list _ _ (some (i,_))::ps,.list _ _ (some _)::rs=>i::qk9 ps rs
 | _::ps,_::rs=>qk9 ps rs
 | _,_=>[]
def qm9:P I B S Pr L->P I B S Pr L->Bool
 | .agg a,.agg b=>Nat.beq a.length b.length
 | .agg _,_=>false
 | .tuple _,_=>false
 | _,.agg _=>false
 | _,.tuple _=>false
 | _,_=>true
def qrf:List (P I B S Pr L)->List (P I B S Pr L)->Bool
 | [],[]=>true
 | p::ps,r::rs=>qm9 p r&&qrf ps rs
 | _,_=>false
def zf8:P I B S Pr L->P I B S Pr L->Bool
 | .tuple a,.tuple b=>qrf a b
 | .tuple _,_=>false
 | _,.tuple _=>false
 | p,r=>qm9 p r
def ends (A:Alg I B S Pr L K) (r p:P I B S Pr L) (st:St I B S Pr L):Pr:=
 bif zf8 p r&&distinct (qk9 p.flat r.flat)&&distinct (qb6 r.flat) then (match qno A st p.flat r.flat with
  | some l=>zk6 A l A.tt
  | none=>A.ff "answer") else A.ff "answer's shape"
def qad (A:Alg I B S Pr L K) (C:Cfg I B S Pr L) (depth f:Nat) (args:List (P I B S Pr L)) (r:P I B S Pr L):Pr:=
 let x:=qap args 1
 q69 A C (zgl A C depth) f x.1 {tmps:=.nil,n:=0,cells:=[],owns:=[],next:=x.2,known:=[]} (ends A r)
end Go.E3
/- THE PLAIN ALGEBRA of E3: numbers, bytes, lists as they are; the answer a proposition. -/
namespace Go.E3
open Go Go.E2
@[reducible] def InK (k:IntKind) (x:Int):Prop:=
 match k with
 | .i8=>-128<=x/\x<=127
 | .i16=>-32768<=x/\x<=32767
 | .i32=>-2147483648<=x/\x<=2147483647
 | .i64=>-9223372036854775808<=x/\x<=9223372036854775807
 | .u8=>0<=x/\x<=255
 | .u16=>0<=x/\x<=65535
 | .u32=>0<=x/\x<=4294967295
 | .u64=>0<=x/\x<=18446744073709551615
abbrev I64 (x:Int):Prop:=-9223372036854775808<=x/\x<=9223372036854775807
abbrev U8 (x:Int):Prop:=0<=x/\x<=255
abbrev Wn (i n:Int):Prop:=0<=i/\i<n
abbrev qp (n:Nat):Prop:=n<=1000000000
def ix {α:Type} [Inhabited α] (l:List α) (i:Int):α:=l.getD i.toNat default
def bx (s:List UInt8) (i:Int):Int:=((s.getD i.toNat 0).toNat:Int)
def fr {α:Type} (l:List α) (i:Int):List α:=l.drop i.toNat
def upto {α:Type} (l:List α) (j:Int):List α:=l.take j.toNat
def sub {α:Type} (l:List α) (i j:Int):List α:=(l.take j.toNat).drop i.toNat
abbrev ln {α:Type} (l:List α):Int:=(l.length:Int)
structure Codecs (K:Nat->Type) where
 dflt:(c:Nat)->K c
 u8:K 0=UInt8
 cells:(c:Nat)->K c->List (P Int Bool (List UInt8) Prop (λc=>List (K c)))
 pack:(c:Nat)->List (P Int Bool (List UInt8) Prop (λc=>List (K c)))->Option (Prop×K c)
abbrev PV (K:Nat->Type):=P Int Bool (List UInt8) Prop (λc=>List (K c))
abbrev NV (K:Nat->Type):=N Int Bool (List UInt8) (λc=>List (K c))
abbrev StV (K:Nat->Type):=St Int Bool (List UInt8) Prop (λc=>List (K c))
abbrev ZC (K:Nat->Type):=Cfg Int Bool (List UInt8) Prop (λc=>List (K c))
abbrev ZT (K:Nat->Type):=Cont Int Bool (List UInt8) Prop (λc=>List (K c))
abbrev ZI (K:Nat->Type):=Inl Int Bool (List UInt8) Prop (λc=>List (K c))
abbrev zul (K:Nat->Type):=Alg Int Bool (List UInt8) Prop (λc=>List (K c)) K
abbrev Tbl (K:Nat->Type):=Nat->Option (List Sh×(List (NV K)->Option (Prop×PV K)))
def zvy (op:BinOp) (k:IntKind) (a b:Int):Option (Prop×Int):=
 match op with
 | .add=>some (InK k (a+b),a+b)
 | .sub=>some (InK k (a-b),a-b)
 | .mul=>some (InK k (a * b),a * b)
 | .quo=>some (b≠0/\InK k (a.tdiv b),a.tdiv b)
 | .rem=>some (b≠0,a.tmod b)
 | _=>none
def qv2 (op:BinOp) (a b:Int):Option (Bool×Prop×Prop):=
 match op with
 | .eql=>some (decide (a=b),a=b,a≠b)
 | .neq=>some (decide (a≠b),a≠b,a=b)
 | .lss=>some (decide (a<b),a<b,b<=a)
 | .leq=>some (decide (a<=b),a<=b,b<a)
 | .gtr=>some (decide (b<a),b<a,a<=b)
 | .geq=>some (decide (b<=a),b<=a,a<b)
 | _=>none
def qwj (op:BinOp) (a b:List UInt8):Option (Bool×Prop×Prop):=
 match op with
 | .eql=>some (decide (a=b),a=b,a≠b)
 | .neq=>some (decide (a≠b),a≠b,a=b)
 | .lss=>some (qbw a b,qbw a b=true,qbw a b=false)
 | _=>none
def qot:List (Bool×Prop×Prop)->Bool×Prop×Prop
 | []=>(true,True,False)
 | [c]=>c
 | c::cs=>let r:=qot cs;(c.1&&r.1,c.2.1/\r.2.1,c.2.2∨r.2.2)
def qqr {α:Type} (l:List α) (lo hi:Option Int):Prop×List α:=
 match lo,hi with
 | none,none=>(True,l)
 | some i,none=>(0<=i/\i<=ln l,fr l i)
 | none,some j=>(0<=j/\j<=ln l,upto l j)
 | some i,some j=>(0<=i/\i<=j/\j<=ln l,sub l i j)
def qhi {K:Nat->Type}:List (PV K)->List (PV K)->Bool
 | [],[]=>true
 | .int k _ a::l,.int d _ b::c=>decide (k=d)&&(a == b)&&qhi l c
 | .str a::l,.str b::c=>(a == b)&&qhi l c
 | .lit a::l,.lit b::c=>(a == b)&&qhi l c
 | .lit a::l,.sb _ _ b _ _::c=>(a == b)&&qhi l c
 | .sb _ _ a _ _::l,.lit b::c=>(a == b)&&qhi l c
 | .sb _ _ a _ _::l,.sb _ _ b _ _::c=>(a == b)&&qhi l c
 | _,_=>false
def zcd {K:Nat->Type} (X:Codecs K) (c a:Nat) (x y:K c):Bool:=qhi ((X.cells c x).take a) ((X.cells c y).take a)
def qrr {K:Nat->Type} (X:Codecs K) (c a:Nat) (l:List (K c)) (y:K c):Bool:=l.any λx=>zcd X c a y x
def q1s {K:Nat->Type} (X:Codecs K) (c a:Nat):List (K c)->K c->K c
 | [],y=>y
 | x::l,y=>bif zcd X c a y x then x else q1s X c a l y
def q0e {K:Nat->Type} (X:Codecs K) (c a:Nat):List (K c)->K c->List (K c)
 | [],y=>[y]
 | x::l,y=>bif zcd X c a y x then y::l else x::q0e X c a l y
def ql {K:Nat->Type} (X:Codecs K) (tbl:Tbl K) (inv:Nat->List (NV K)->Prop) (meas:Nat->List (NV K)->Nat):zul K where
 ff _:=False
 tt:=True
 and:=And
 imp p q:=p->q
 ilit n:=n
 iop:=zvy
 icmp:=qv2
 ineg k n:=(InK k (-n),-n)
 iconv k n:=(InK k n,n)
 ibest mx a b:=if mx then (if b > a then b else a) else (if b<a then b else a)
 blit b:=b
 bnot b:=!b
 beq a b:=(a == b,a=b,a≠b)
 braw b:=(b=true,b=false)
 ball:=qot
 slit s:=s
 scat a b:=(qp (a.length+b.length),a++b)
 scmp:=qwj
 slen s:=ln s
 sget:=bx
 ssub:=qqr
 lof _ l:=l
 llen _ l:=ln l
 lget c l i:=l.getD i.toNat (X.dflt c)
 lsub _ l lo hi:=qqr l lo hi
 lcat _ l x:=(qp (l.length+x.length),l++x)
 lset _ l i x:=l.set i.toNat x
 lrep _ x n:=List.replicate n.toNat x
 leI a b:=a<=b
 sbytes s:=X.u8 ▸ s
 bstr l:=X.u8 ▸ l
 within:=Wn
 eqI a b:=a=b
 eqB a b:=a=b
 eqS a b:=a=b
 eqL _ a b:=a=b
 allI _ g:=∀ n:Int,g n
 allB g:=∀ b:Bool,g b
 allS g:=∀ s:List UInt8,g s
 allL c g:=∀ l:List (K c),g l
 inv:=inv
 dec j ns ms:=meas j ns<meas j ms
 fn:=tbl
 cells:=X.cells
 pack:=X.pack
 mhas:=qrr X
 mget:=q1s X
 mput:=q0e X
end Go.E3
/- E3: VALUES WITHOUT MEMORY AGAINST E2's: the relation, and what keeps it. -/
namespace Go.E3
open Go Go.E2
variable {K:Nat->Type}
structure LG where
 lt:Tree V
 ln:Nat
 lp:List Tmp
 la:Code
 lb:Code
 ld:Nat
structure Wd where
 g:Nat->Option O
 M:Nat->Prop
 c:Nat->Nat
 nu:Nat->Bool
 n:Nat
 owns:Nat->Option Nat
 eta:Nat->Option Nat
 ce:TypeId->Option Nat
 cl:Nat->Prop
 nx:Nat
 b:Nat
 lp:Nat->Option LG
 fl:Nat
def qws (w:Wd) (sz:Nat->Nat) (i c:Nat):V->Prop
 | .nils=>True
 | .slice nm gn off len _ cap=>cap=some len∨(cap=none/\w.eta i=some nm/\∃ cs e a b ex,w.g nm=some (.row cs e gn a b ex)/\off+len * sz c=cs.length/\b<=cs.length/\w.ce e=some c)
 | _=>False
def NB:V->Prop
 | .nils=>True
 | .slice _ _ off len _ cap=>cap=none/\off=0/\0<len
 | _=>False
def qoi (w:Wd) (sz:Nat->Nat) (c:Nat) (own:Option (Nat×Nat)) (v:V):Prop:=
 match own with
 | none=>True
 | some (i,s)=>i<w.n/\(∀ a,w.owns i=some a->s<=a)/\(w.owns i=some s->qws w sz i c v)/\(s % 2=1->NB v)
inductive Rep (X:Codecs K) (sz:Nat->Nat) (w:Wd):PV K->V->Prop
 | int {k:IntKind} {lit:Option Int} {n:Int} (h:∀ m,lit=some m->m=n):Rep X sz w (.int k lit n) (.int k n)
 | lit {b:Bool}:Rep X sz w (.lit b) (.bool b)
 | sb {id:Nat} {neg b:Bool} {pt pf:Prop} (h1:pt↔b=true) (h2:pf↔b=false) (h3:id≠0->id<w.n/\b=(w.nu id != neg)):Rep X sz w (.sb id neg b pt pf) (.bool b)
 | str {s:List UInt8}:Rep X sz w (.str s) (.str s)
 | nils:Rep X sz w .nils .nils
 | nlist {c:Nat} {own:Option (Nat×Nat)} (h:qoi w sz c own .nils):Rep X sz w (.list c [] own) .nils
 | list {c:Nat} {l:List (K c)} {own:Option (Nat×Nat)} {nm gn off len z:Nat} {cap:Option Nat} {cs:List V} {e:TypeId} {gen floor frz:Nat} {ex:Bool}
   (hg:w.g nm=some (.row cs e gen floor frz ex)) (hf:floor<=gn) (hM:¬ w.M nm) (hlen:len=l.length) (hb:off+len * sz c<=cs.length) (hz:0<sz c/\(z=sz c∨(0<z/\l=[]/\cap=some 0))) (hcap:∀ k,cap=some k->len<=k)
   (hc:∀ i (h:i<l.length) (j:Nat) (p:PV K),(X.cells c (l[i]'h))[j]? = some p->Rep X sz w p (cs.getD (off+i * sz c+j) je))
   (ho:qoi w sz c own (.slice nm gn off len z cap)):Rep X sz w (.list c l own) (.slice nm gn off len z cap)
 | cell {id off lim:Nat} (h:id<w.n):Rep X sz w (.cell id off lim) (.ptr (w.c id) 0 off lim)
 | eptr {ps:List (PV K)} {off nm gn d lim:Nat} {cs:List V} {e:TypeId} {gen floor frz:Nat} {ex:Bool}
   (hg:w.g nm=some (.row cs e gen floor frz ex)) (hf:floor<=gn) (hM:¬ w.M nm) (h1:d+ps.length<=lim) (h2:lim<=cs.length)
   (hc:∀ (j:Nat) (p:PV K),ps[j]? = some p->Rep X sz w p (cs.getD (d+j) je)):Rep X sz w (.eptr ps off) (.ptr nm gn (d+off) lim)
 | mlist {id c:Nat} {fx:Bool} {n:Int} {g:Nat} {cs:List V} {e:TypeId} {gen fl fz:Nat} {ex:Bool} (h:id<w.n) (hcl:w.cl id) (h0:0<=n) (hz:sz c=1) (hg:w.g (w.c id)=some (.row cs e gen fl fz ex)) (hl:n.toNat+1<=cs.length) (hs:n.toNat+1=cs.length->g=gen) :
   Rep X sz w (.mlist id c fx n) (.slice (w.c id) g 0 (n.toNat+1) 1 none)
 | mptr {id c:Nat} {i n:Int} {off g:Nat} {cs:List V} {e:TypeId} {gen fl fz:Nat} {ex:Bool} (h:id<w.n) (hcl:w.cl id) (h0:0<=n) (hg:w.g (w.c id)=some (.row cs e gen fl fz ex)) (hl:n.toNat+1<=cs.length) (hs:n.toNat+1=cs.length->g=gen) :
   Rep X sz w (.mptr id c i n off) (.ptr (w.c id) g n.toNat (n.toNat+1))
 | nilp:Rep X sz w .nilp .nilp
 | map {id:Nat} (h:id<w.n):Rep X sz w (.map id) (.map (w.c id))
 | func {f:Nat} {a c:List (PV K)} {va vc:List V} (ha:a.length=va.length) (hc:c.length=vc.length)
   (h1:∀ (j:Nat) (p:PV K),a[j]? = some p->Rep X sz w p (va.getD j je)) (h2:∀ (j:Nat) (p:PV K),c[j]? = some p->Rep X sz w p (vc.getD j je)):Rep X sz w (.func f a c) (.func (.func f) va vc)
 | nilf:Rep X sz w .nilf .nilf
 | yield {id:Nat} (h:id<w.n):Rep X sz w (.yield id) (.func (.yield (w.c id)) [] [])
 | iface {t:TypeId} {p:PV K} {v:V} (h:Rep X sz w p v):Rep X sz w (.iface t p) (.iface t v)
 | nili:Rep X sz w .nili .nili
 | agg {ps:List (PV K)} {vs:List V} (hl:ps.length=vs.length) (h:∀ (j:Nat) (p:PV K),ps[j]? = some p->Rep X sz w p (vs.getD j je)):Rep X sz w (.agg ps) (.agg vs)
 | tuple {ps:List (PV K)} {vs:List V} (hl:ps.length=vs.length) (h:∀ (j:Nat) (p:PV K),ps[j]? = some p->Rep X sz w p (vs.getD j je)):Rep X sz w (.tuple ps) (.tuple vs)
 | plist {es n:Nat} {fx:Bool} {ps:List (PV K)} {nm gn d:Nat} {cs:List V} {e:TypeId} {gen floor frz:Nat} {ex:Bool}
   (hg:w.g nm=some (.row cs e gen floor frz ex)) (hf:floor<=gn) (hM:¬ w.M nm) (h0:0<es) (h1:ps.length=n * es) (h2:d+ps.length<=cs.length)
   (hc:∀ (j:Nat) (p:PV K),ps[j]? = some p->Rep X sz w p (cs.getD (d+j) je)):Rep X sz w (.plist es n fx ps) (.slice nm gn d n es (bif fx then some n else none))
def qj (X:Codecs K) (sz:Nat->Nat) (w:Wd) (ps:List (PV K)) (a:List V):Prop:=
 ps.length=a.length/\∀ (j:Nat) (p:PV K),ps[j]? = some p->Rep X sz w p (a.getD j je)
structure LeB (w w':Wd):Prop where
 n:w.n<=w'.n
 mem:∀ nm cs e gen floor frz ex,w.g nm=some (.row cs e gen floor frz ex)->¬ w.M nm->¬ w'.M nm/\∃ cs2 gen' frz' ex',w'.g nm=some (.row (cs++cs2) e gen' floor frz' ex')
 c:∀ id,id<w.n->w'.c id=w.c id
 nu:∀ id,id<w.n->w'.nu id=w.nu id
 o1:∀ i,i<w.n->w.owns i=none->w'.owns i=none
 o2:∀ i s s',i<w.n->w.owns i=some s->w'.owns i=some s'->s<=s'
 o3:∀ i s,i<w.n->w.owns i=some s->w'.owns i=some s->w'.eta i=w.eta i/\∀ nm,w.eta i=some nm->w.g nm≠some .dfr->w'.g nm=w.g nm
 ce:w'.ce=w.ce
 cl:∀ id,id<w.n->(w'.cl id↔w.cl id)
 nx:w.nx<=w'.nx
 b:w'.b=w.b
 Mu:∀ n,n<w.b->w.M n->w'.M n
 lp:∀ id,id<w.n->w'.lp id=w.lp id
 gm:∀ id,id<w.n->w.cl id->∀ cs e gen fl fz ex,w.g (w.c id)=some (.row cs e gen fl fz ex)->∃ cs' gen' fl' fz' ex',w'.g (w.c id)=some (.row cs' e gen' fl' fz' ex')/\cs.length<=cs'.length/\(cs.length=cs'.length->gen'=gen)
structure Le (w w':Wd):Prop extends LeB w w' where
 df:∀ m,w.g m=some .dfr->w'.g m=some .dfr
 fl:w'.fl=w.fl
theorem LeB.refl (w:Wd):LeB w w:=
 ⟨zN _,λnm cs e gen a b ex h d=>⟨d,[],gen,b,ex,by rw [zJ];exact h⟩,λ_ _=>rfl,λ_ _=>rfl,λ_ _ h=>h,
  λ_ _ _ _ h c=>by rw [h] at c;cases c;exact zN _,λ_ _ _ _ _=>⟨rfl,λ_ _ _=>rfl⟩,rfl,λ_ _=>.rfl,zN _,rfl,λ_ _ h=>h,λ_ _=>rfl,λ_ _ _ _ _ _ _ _ _ h=>⟨_,_,_,_,_,h,zN _,λ_=>rfl⟩⟩
theorem qni {w w':Wd} (h:∀ id,id<w.n->w.cl id->w'.g (w.c id)=w.g (w.c id)):∀ id,id<w.n->w.cl id->∀ cs e gen fl fz ex,w.g (w.c id)=some (.row cs e gen fl fz ex)->∃ b a d f ex',w'.g (w.c id)=some (.row b e a d f ex')/\cs.length<=b.length/\(cs.length=b.length->a=gen):=
 λid hi i _ _ _ _ _ _ j=>⟨_,_,_,_,_,(h id hi i).trans j,zN _,λ_=>rfl⟩
theorem Le.refl (w:Wd):Le w w:=⟨.refl w,λ_ h=>h,rfl⟩
theorem LeB.trans {w w' o:Wd} (h:LeB w w') (d:LeB w' o):LeB w o where
 n:=zR h.n d.n
 mem nm cs e gen floor frz ex hg hM:=by
  obtain ⟨v,cs2,p,q,ex',x⟩:=h.mem nm cs e gen floor frz ex hg hM;obtain ⟨r,y,j,k,t,u⟩:=d.mem nm _ e p floor q ex' x v;exact ⟨r,cs2++y,j,k,t,by rw [<-List.append_assoc];exact u⟩
 c id hi:=(d.c id (zL hi h.n)).trans (h.c id hi)
 nu id hi:=(d.nu id (zL hi h.n)).trans (h.nu id hi)
 o1 i hi h0:=d.o1 i (zL hi h.n) (h.o1 i hi h0)
 o2 i s s' hi h0 h2:=by
  cases f:w'.owns i with
  | none=>rw [d.o1 i (zL hi h.n) f] at h2;cases h2
  | some g=>exact zR (h.o2 i s g hi h0 f) (d.o2 i g s' (zL hi h.n) f h2)
 o3 i s hi h0 h2:=by
  have l:=zL hi h.n;cases f:w'.owns i with
  | none=>rw [d.o1 i l f] at h2;cases h2
  | some g=>
   have a:=h.o2 i s g hi h0 f;have b:=d.o2 i g s l f h2;obtain rfl:g=s:=by omega
   obtain ⟨C,g1⟩:=h.o3 i g hi h0 f;obtain ⟨E,z⟩:=d.o3 i g l f h2;refine ⟨E.trans C,λnm m A=>?_⟩;rw [z nm (by rw [C];exact m) (by rw [g1 nm m A];exact A),g1 nm m A]
 ce:=d.ce.trans h.ce
 cl id hi:=(d.cl id (zL hi h.n)).trans (h.cl id hi)
 nx:=zR h.nx d.nx
 b:=d.b.trans h.b
 Mu n m hm:=d.Mu n (by rw [h.b];exact m) (h.Mu n m hm)
 lp id hi:=(d.lp id (zL hi h.n)).trans (h.lp id hi)
 gm id hi hc cs e gen fl fz ex hg:=by
  obtain ⟨B,g1,_,_,_,F,G,H⟩:=h.gm id hi hc cs e gen fl fz ex hg;obtain ⟨cs2,z,_,_,_,D,I,J⟩:=d.gm id (zL hi h.n) ((h.cl id hi).2 hc) B e g1 _ _ _ (by rw [h.c id hi];exact F);rw [h.c id hi] at D;exact ⟨cs2,z,_,_,_,D,zR G I,λK=>(J (by omega)).trans (H (by omega))⟩
theorem Le.trans {w w' a:Wd} (h:Le w w') (b:Le w' a):Le w a:=⟨h.toLeB.trans b.toLeB,λm c=>b.df m (h.df m c),b.fl.trans h.fl⟩
theorem qoi.qem {w w':Wd} (h:LeB w w') {sz:Nat->Nat} {c:Nat} {own:Option (Nat×Nat)} {v:V} (B:qoi w sz c own v):qoi w' sz c own v:=by
 cases own with
 | none=>trivial
 | some x=>
  obtain ⟨i,s⟩:=x;obtain ⟨k,u,C,D⟩:=B;have l:∀ d,w'.owns i=some d->s<=d:=by
   intro d q;cases f:w.owns i with
   | none=>rw [h.o1 i k f] at q;cases q
   | some g=>exact zR (u g f) (h.o2 i g d k f q)
  refine ⟨zL k h.n,l,λp=>?_,D⟩;cases f:w.owns i with
  | none=>rw [h.o1 i k f] at p;cases p
  | some g=>
   have a:=u g f;have b:=h.o2 i g s k f p;obtain rfl:g=s:=by omega
   have m:=C f;obtain ⟨E,g1⟩:=h.o3 i g k f p;cases v with
   | nils=>trivial
   | slice nm gn off len z cap=>
    simp only [qws] at m ⊢;rcases m with m | ⟨o,y,cs,e,j,r,ex,A,t⟩
    .exact .inl m
    .exact .inr ⟨o,by rw [E];exact y,cs,e,j,r,ex,by rw [g1 nm y (by rw [A];simp)];exact A,t.1,t.2.1,by rw [h.ce];exact t.2.2⟩
   | _=>exact m
theorem qce {α:Type} {l a:List α} {n:Nat} {d:α} (h:n<l.length):(l++a).getD n d=l.getD n d:=by
 simp only [List.getD_eq_getElem?_getD,List.getElem?_append_left h]
theorem qoi.mono {w w':Wd} (h:Le w w') {sz:Nat->Nat} {c:Nat} {own:Option (Nat×Nat)} {v:V} (a:qoi w sz c own v):qoi w' sz c own v:=a.qem h.toLeB
theorem Rep.qem {X:Codecs K} {sz:Nat->Nat} {w w':Wd} (W:∀ c x,(X.cells c x).length=sz c) (h:LeB w w') {p:PV K} {v:V} (r:Rep X sz w p v):Rep X sz w' p v:=by
 induction r with
 | int h=>exact .int h
 | lit=>exact .lit
 | sb B H J=>exact .sb B H λq=>⟨zL (J q).1 h.n,by rw [h.nu _ (J q).1];exact (J q).2⟩
 | str=>exact .str
 | nils=>exact .nils
 | nlist L=>exact .nlist (L.qem h)
 | @list c l own nm gn off len z cap cs e gen a b ex s C D E hb M F I L f=>
  obtain ⟨k,cs2,t,u,ex',m⟩:=h.mem nm cs e gen a b ex s D;refine .list m C k E (by rw [List.length_append];omega) M F (λi hi j p y=>?_) (L.qem h);have U:j<sz c:=by
   rw [<-W c (l[i]'hi)];exact (List.getElem?_eq_some_iff.1 y).1
  have N:off+i * sz c+j<cs.length:=by
   have:(i+1) * sz c<=len * sz c:=zU _ (by omega);rw [Nat.add_mul,Nat.one_mul] at this;omega
  rw [qce N];exact f i hi j p y
 | @cell id off lim hi=>
  rw [<-h.c id hi];exact .cell (zL hi h.n)
 | @eptr ps off nm gn d lim cs e gen a b ex s C D B H I f=>
  obtain ⟨k,cs2,t,u,ex',m⟩:=h.mem nm cs e gen a b ex s D;refine .eptr m C k B (by rw [List.length_append];omega) (λj p y=>?_);have U:=(List.getElem?_eq_some_iff.1 y).1;rw [qce (by omega)];exact f j p y
 | @plist es n fx ps nm gn d cs e gen a b ex s C D q B H I f=>
  obtain ⟨k,cs2,t,u,ex',m⟩:=h.mem nm cs e gen a b ex s D;refine .plist m C k q B (by rw [List.length_append];omega) (λj p y=>?_);have U:=(List.getElem?_eq_some_iff.1 y).1;rw [qce (by omega)];exact f j p y
 | @mlist id c fx n g cs e gen fl fz ex hi o q M s A O=>
  obtain ⟨P,g1,_,_,_,G,Q,R⟩:=h.gm id hi o cs e gen fl fz ex s;rw [<-h.c id hi] at G ⊢;exact .mlist (zL hi h.n) ((h.cl id hi).2 o) q M G (zR A Q) λY=>(O (by omega)).trans (R (by omega)).symm
 | @mptr id c i n off g cs e gen fl fz ex hi o q s A O=>
  obtain ⟨P,g1,_,_,_,G,Q,R⟩:=h.gm id hi o cs e gen fl fz ex s;rw [<-h.c id hi] at G ⊢;exact .mptr (zL hi h.n) ((h.cl id hi).2 o) q G (zR A Q) λY=>(O (by omega)).trans (R (by omega)).symm
 | nilp=>exact .nilp
 | @map id hi=>
  rw [<-h.c id hi];exact .map (zL hi h.n)
 | func Z I B H S T=>exact .func Z I S T
 | nilf=>exact .nilf
 | @yield id hi=>
  rw [<-h.c id hi];exact .yield (zL hi h.n)
 | iface _ f=>exact .iface f
 | nili=>exact .nili
 | agg A _ f=>exact .agg A f
 | tuple A _ f=>exact .tuple A f
theorem Rep.mono {X:Codecs K} {sz:Nat->Nat} {w w':Wd} (a:∀ c x,(X.cells c x).length=sz c) (h:Le w w') {p:PV K} {v:V} (r:Rep X sz w p v):Rep X sz w' p v:=r.qem a h.toLeB
theorem qj.qem {X:Codecs K} {sz:Nat->Nat} {w w':Wd} (b:∀ c x,(X.cells c x).length=sz c) (h:LeB w w') {ps:List (PV K)} {a:List V} (r:qj X sz w ps a):qj X sz w' ps a:=
 ⟨r.1,λj p d=>(r.2 j p d).qem b h⟩
theorem qj.mono {X:Codecs K} {sz:Nat->Nat} {w w':Wd} (b:∀ c x,(X.cells c x).length=sz c) (h:Le w w') {ps:List (PV K)} {a:List V} (r:qj X sz w ps a):qj X sz w' ps a:=
 ⟨r.1,λj p d=>(r.2 j p d).mono b h⟩
section
variable {X:Codecs K} {sz:Nat->Nat} {w:Wd}
theorem Rep.z0h {p:PV K} {v:V} (r:Rep X sz w p v):¬ ZS v:=by
 rintro ⟨nm,g,off,len,cap,b⟩;cases r with
 | list e f i c m d=>
  simp only [V.slice.injEq] at b;obtain ⟨j,a⟩:=d;rcases a with a | ⟨a,_⟩<;>omega
 | mlist h k l d=>
  simp only [V.slice.injEq] at b;omega
 | plist e f i l=>
  simp only [V.slice.injEq] at b;omega
 | _=>cases b
theorem Rep.qu0 {p:PV K} {v:V} (r:Rep X sz w p v):isHole v=false:=by
 rw [<-Bool.not_eq_true];intro h;obtain ⟨u,rfl,a⟩:=qrv.1 h;cases r with
 | @tuple ps d b c=>
  cases ps with
  | nil=>simp at b
  | cons q ps=>exact (c 0 q rfl).z0h a
theorem qj.qu0 {ps:List (PV K)} {a:List V} (r:qj X sz w ps a):∀ v ∈ a,isHole v=false:=by
 intro v b;obtain ⟨i,hi,rfl⟩:=List.mem_iff_getElem.1 b;have c:i<ps.length:=by rw [r.1];exact hi
 have:=r.2 i _ (List.getElem?_eq_getElem c);rw [List.getD_eq_getElem?_getD,List.getElem?_eq_getElem hi] at this;exact this.qu0
theorem qj.nil:qj X sz w [] []:=⟨rfl,λj p h=>by simp at h⟩
theorem qj.cons {p:PV K} {ps:List (PV K)} {v:V} {b:List V} (h:Rep X sz w p v) (c:qj X sz w ps b):qj X sz w (p::ps) (v::b):=by
 refine ⟨by simp [c.1],λj q a=>?_⟩;cases j with
 | zero=>simp at a;subst a;simpa using h
 | succ j=>simp at a;simpa using c.2 j q a
theorem qj.zt {p:PV K} {ps:List (PV K)} {b:List V} (h:qj X sz w (p::ps) b):∃ v a,b=v::a/\Rep X sz w p v/\qj X sz w ps a:=by
 cases b with
 | nil=>have:=h.1;simp at this
 | cons v a=>
  refine ⟨v,a,rfl,?_,?_,λj q c=>?_⟩
  .simpa using h.2 0 p rfl
  .have:=h.1;simpa using this
  .simpa using h.2 (j+1) q (by simpa using c)
theorem qj.ka {a:List V} (h:qj X sz w [] a):a=[]:=by
 have:=h.1;simp at this;exact List.eq_nil_of_length_eq_zero this.symm
theorem qj.append {ps b:List (PV K)} {a us:List V} (h:qj X sz w ps a) (c:qj X sz w b us):qj X sz w (ps++b) (a++us):=by
 induction ps generalizing a with
 | nil=>rw [h.ka];exact c
 | cons p ps d=>
  obtain ⟨v,e,rfl,f,g⟩:=h.zt;exact .cons f (d g)
theorem qj.take {ps:List (PV K)} {b:List V} (n:Nat) (h:qj X sz w ps b):qj X sz w (ps.take n) (b.take n):=by
 refine ⟨by simp [h.1],λj p a=>?_⟩;rw [List.getElem?_take] at a;split at a
 .rename_i c;have:=h.2 j p a;rw [List.getD_eq_getElem?_getD] at this ⊢;rw [List.getElem?_take,zT c];exact this
 .cases a
theorem qj.drop {ps:List (PV K)} {a:List V} (n:Nat) (h:qj X sz w ps a):qj X sz w (ps.drop n) (a.drop n):=by
 refine ⟨by simp [h.1],λj p b=>?_⟩;rw [List.getElem?_drop] at b;have:=h.2 _ p b;rw [List.getD_eq_getElem?_getD] at this ⊢;rw [List.getElem?_drop];exact this
theorem qj.get {ps:List (PV K)} {b:List V} {j:Nat} {p:PV K} (h:qj X sz w ps b) (c:ps[j]? = some p):∃ v,b[j]? = some v/\Rep X sz w p v:=by
 have d:=(List.getElem?_eq_some_iff.1 c).1;have a:j<b.length:=by rw [<-h.1];exact d
 refine ⟨b[j],List.getElem?_eq_getElem a,?_⟩;have:=h.2 j p c;rw [List.getD_eq_getElem?_getD,List.getElem?_eq_getElem a] at this;exact this
theorem Rep.qt9 {ps:List (PV K)} {a:List V} (h:qj X sz w ps a):Rep X sz w (.agg ps) (.agg a):=.agg h.1 h.2
theorem Rep.tuple' {ps:List (PV K)} {a:List V} (h:qj X sz w ps a):Rep X sz w (.tuple ps) (.tuple a):=.tuple h.1 h.2
theorem Rep.qf4 {ps:List (PV K)} {v:V} (h:Rep X sz w (.agg ps) v):∃ a,v=.agg a/\qj X sz w ps a:=by
 cases h with
 | agg b h=>exact ⟨_,rfl,b,h⟩
theorem Rep.qil {ps:List (PV K)} {v:V} (h:Rep X sz w (.tuple ps) v):∃ a,v=.tuple a/\qj X sz w ps a:=by
 cases h with
 | tuple b h=>exact ⟨_,rfl,b,h⟩
theorem Rep.undef:Rep X sz w qmo je:=.tuple' .nil
theorem Rep.cellsOf {p:PV K} {v:V} (h:Rep X sz w p v) (a:(∀ ps,p≠.agg ps)):p.cellsOf=[p]/\v.cells=[v]:=by
 cases h with
 | agg=>exact absurd rfl (a _)
 | _=>exact ⟨rfl,rfl⟩
theorem Rep.cells {p:PV K} {v:V} (h:Rep X sz w p v):qj X sz w p.cellsOf v.cells:=by
 cases p with
 | agg ps=>
  obtain ⟨c,rfl,a⟩:=h.qf4;exact a
 | _=>
  have:=h.cellsOf (by intro ps b;cases b);rw [this.1,this.2];exact .cons h .nil
theorem Rep.j7 {p:PV K} {v:V} (h:Rep X sz w p v) (a:jn p=true):v.j7=true:=by
 cases h<;>first | rfl | (simp [jn] at a)
theorem qj.qpq {ps:List (PV K)} {a:List V} (h:qj X sz w ps a) (b:ps.all jn=true):a.all V.j7=true:=by
 induction ps generalizing a with
 | nil=>rw [h.ka];rfl
 | cons p ps c=>
  obtain ⟨v,d,rfl,e,f⟩:=h.zt;simp only [List.all_cons,zA] at b ⊢;exact ⟨e.j7 b.1,c f b.2⟩
theorem Rep.bool {p:PV K} {b:Bool} (h:Rep X sz w p (.bool b)):p=.lit b∨∃ id neg a c,p=.sb id neg b a c/\(a↔b=true)/\(c↔b=false)/\(id≠0->id<w.n/\b=(w.nu id != neg)):=by
 cases h with
 | lit=>exact .inl rfl
 | sb d e f=>exact .inr ⟨_,_,_,_,rfl,d,e,f⟩
end
end Go.E3
/- E3: STATES AGAINST E2's MEMORY: the relation; operands, conditions, cells. -/
namespace Go.E3
open Go Go.E2
variable {K:Nat->Type}
structure CfgOk (X:Codecs K) (sz:Nat->Nat) (C:ZC K):Prop where
 len:∀ c x,(X.cells c x).length=sz c
 pos:∀ e c,C.codec e=some c->0<sz c
 size:∀ e c ti,C.codec e=some c->C.E.types e=some ti->ti.size=sz c
 inj:∀ e e' c,C.codec e=some c->C.codec e'=some c->e=e'
 one:∀ c x,(X.cells c x).all jn=true
 u8:∀ x:K 0,X.cells 0 x=[.int .u8 none (((X.u8 ▸ x:UInt8).toNat:Nat):Int)]
 pack:∀ c cs pre x,X.pack c cs=some (pre,x)->pre->∀ w vs,qj X sz w cs vs->qj X sz w (X.cells c x) vs
def qrk (X:Codecs K):ZT K->List (PV K)
 | .cs _ ps=>ps
 | .ml c l p=>l.flatMap (X.cells c)++[p]
 | .lp _=>[]
 | .mp ..=>[]
def q43 (ct:ZT K) (e:TypeId) (ex:Bool):Prop:=
 match ct with
 | .cs (some t) _=>e=t/\ex=true
 | _=>True
theorem zgf {t:Option TypeId} {ps b:List (PV K)} {e:TypeId} {ex:Bool} (h:q43 (.cs t ps) e ex):q43 (.cs t b) e ex:=by
 cases t with
 | none=>trivial
 | some a=>exact h
def qfq (g:LG):LMode->O
 | .ready=>.loop .ready none g.lt g.ln g.lp g.la g.lb g.ld
 | .busy=>.loop .busy none g.lt g.ln g.lp g.la g.lb g.ld
 | .done none=>.loop .done (some .ret) g.lt g.ln g.lp g.la g.lb g.ld
 | .done (some i)=>.loop .done (some (.exit i)) g.lt g.ln g.lp g.la g.lb g.ld
def k8:List Leaf->List V->Prop
 | [],[]=>True
 | .int k::l,.int b _::a=>k=b/\k8 l a
 | .str::l,.str _::a=>k8 l a
 | .bool::l,.bool _::a=>k8 l a
 | _,_=>False
def zj5 (X:Codecs K) (sz:Nat->Nat) (w:Wd) (c:Nat) (a:Leaf) (b:Bool) (x:K c) (e:V×V×Nat):Prop:=
 qj X sz w ((X.cells c x).take 1) [e.1]/\k8 [a] [e.1]/\qj X sz w ((X.cells c x).drop 1) e.2.1.cells/\zbq e.2.1=b
def qbu (X:Codecs K) (sz:Nat->Nat) (w:Wd) (id:Nat) (ct:ZT K) (o:Option O):Prop:=
 match ct with
 | .cs t ps=>∃ b e ex,o=some (.row b e 0 0 0 ex)/\q43 (.cs t ps:ZT K) e ex/\qj X sz w (qrk X (.cs t ps)) b
 | .ml c l p=>∃ b e gen fl ex,o=some (.row b e gen fl 0 ex)/\fl<=gen/\w.ce e=some c/\sz c=1/\qj X sz w (qrk X (.ml c l p)) b
 | .mp c f h l=>∃ d a,o=some (.map d a)/\d.length=l.length/\∀ (i:Nat) (x:K c) (e:V×V×Nat),l[i]? = some x->d[i]? = some e->zj5 X sz w c f h x e
 | .lp r=>∃ g,w.lp id=some g/\o=some (qfq g r.mode)/\r.n=g.ln/\r.params=g.lp/\r.assign=g.la/\r.body=g.lb/\∀ i p,r.tmps.get i=some p->∃ v,g.lt.get i=some v/\Rep X sz w p v
def ze6:ZT K->Bool
 | .cs ..=>true
 | _=>false
theorem qbu.qem {X:Codecs K} {sz:Nat->Nat} {w w':Wd} (m:∀ c x,(X.cells c x).length=sz c) (h:LeB w w') {id:Nat} (hi:id<w.n) {ct:ZT K} {o:Option O} (r:qbu X sz w id ct o):qbu X sz w' id ct o:=by
 cases ct with
 | cs t ps=>
  obtain ⟨q,e,ex,f,j,d⟩:=r;exact ⟨q,e,ex,f,j,d.qem m h⟩
 | ml c l p=>
  obtain ⟨q,e,gen,fl,ex,f,u,j,d,s⟩:=r;exact ⟨q,e,gen,fl,ex,f,u,by rw [h.ce];exact j,d,s.qem m h⟩
 | mp c D E l=>
  obtain ⟨y,k,f,j,d⟩:=r;exact ⟨y,k,f,j,λi x e a b=>⟨(d i x e a b).1.qem m h,(d i x e a b).2.1,(d i x e a b).2.2.1.qem m h,(d i x e a b).2.2.2⟩⟩
 | lp F=>
  obtain ⟨g,f,j,d,s,z,A,B⟩:=r;refine ⟨g,by rw [h.lp id hi];exact f,j,d,s,z,A,λi p C=>?_⟩;obtain ⟨v,a,b⟩:=B i p C;exact ⟨v,a,b.qem m h⟩
theorem qbu.mono {X:Codecs K} {sz:Nat->Nat} {w w':Wd} (a:∀ c x,(X.cells c x).length=sz c) (h:Le w w') {id:Nat} (hi:id<w.n) {ct:ZT K} {o:Option O} (r:qbu X sz w id ct o):qbu X sz w' id ct o:=r.qem a h.toLeB hi
theorem qbu.row {X:Codecs K} {sz:Nat->Nat} {w:Wd} {id:Nat} {ct:ZT K} (a:ze6 ct=true) {b:List V} {e:TypeId} {ex:Bool} (d:q43 ct e ex) (f:qj X sz w (qrk X ct) b):qbu X sz w id ct (some (.row b e 0 0 0 ex)):=by
 cases ct with
 | cs t ps=>exact ⟨b,e,ex,rfl,d,f⟩
 | ml c l p=>cases a
 | lp r=>cases a
 | mp c g h l=>cases a
theorem qbu.some {X:Codecs K} {sz:Nat->Nat} {w:Wd} {id:Nat} {ct:ZT K} {o:Option O} (r:qbu X sz w id ct o):o≠some .dfr/\o≠none:=by
 cases ct with
 | cs t ps=>
  obtain ⟨h,e,ex,a,b,f⟩:=r;rw [a];exact ⟨by simp,by simp⟩
 | ml c l p=>
  obtain ⟨h,e,gen,fl,ex,a,b,f⟩:=r;rw [a];exact ⟨by simp,by simp⟩
 | mp c i j l=>
  obtain ⟨k,d,a,b,f⟩:=r;rw [a];exact ⟨by simp,by simp⟩
 | lp m=>
  obtain ⟨g,a,b,_⟩:=r;rw [b];unfold qfq
  split<;>exact ⟨by simp,by simp⟩
def zkk (C:ZC K):Prop:=∀ f,C.ans f=false->C.E.spec f=none
def zbl (C:ZC K):Prop:=
 ∀ f,C.prim f=true->∀ (H:Heap) (nm off lim:Nat) (d:List V) (e:TypeId) (ex:Bool),(∀ n,H.next<=n->H.get n=none)->H.get nm=some (.row d e 0 0 0 ex)->off+2<=lim->lim<=d.length->
  (d[off+1]? = some .nils->qc5 C.E (.func f) [.ptr nm 0 off lim] H λv H'=>v=.str []/\H'=H)/\
  ∀ (b g len:Nat) (cells:List V) (h:TypeId) (a c:Nat) (i:Bool) (l:List UInt8),d[off+1]? = some (.slice b g 0 len 1 none)->H.get b=some (.row cells h g a c i)->cells.length=len->a<=g->0<len->len<=140737488355328->
   C.codec h=some 0->qc8 cells=some l->(∀ v ∈ cells,isHole v=false)->H.ro<=b->b≠nm->qc5 C.E (.func f) [.ptr nm 0 off lim] H λv H'=>v=.str l/\H'=H.put b (.row cells h g a (max c len) i)
def qx (C:ZC K):Prop:=zkk C/\zbl C
structure RelH (X:Codecs K) (sz:Nat->Nat) (C:ZC K) (base:Heap) (st:StV K) (H:Heap) (w:Wd):Prop where
 wf:∀ n,H.next<=n->H.get n=none
 rob:base.ro<=base.next/\base.zf=C.ng/\∀ gn o,C.gobj gn=some o->base.get gn=some o/\gn<base.next
 g:w.g=H.get
 nx:w.nx=H.next
 b:w.b=base.next
 Mlt:∀ n,w.M n->n<H.next
 n:w.n=st.next
 one:1<=st.next
 keeps:Keeps base H
 cl:∀ id,w.cl id->id<st.next/\w.c id<H.next/\base.next<=w.c id
 cinj:∀ id id',w.cl id->w.cl id'->w.c id=w.c id'->id=id'
 cells:∀ id ct,look st.cells id=some ct->w.cl id/\w.M (w.c id)/\qbu X sz w id ct (H.get (w.c id))
 owns:∀ i,w.owns i=look st.owns i
 ownn:∀ i s,look st.owns i=some s->i<st.next
 eta:∀ i s nm,look st.owns i=some s->w.eta i=some nm->base.next<=nm/\nm<H.next/\¬ w.M nm
 einj:∀ i j s s' nm,look st.owns i=some s->look st.owns j=some s'->w.eta i=some nm->w.eta j=some nm->i=j
 ce:w.ce=C.codec
 known:∀ id b,look st.known id=some b->id≠0/\id<st.next/\w.nu id=b
 globs:∀ gn ps,C.zf gn=some ps->gn<base.zf/\∃ vs e fl fz ex,base.get gn=some (.row vs e 0 fl fz ex)/\gn<base.next/\Rep X sz w (.eptr ps 0) (.ptr gn 0 0 vs.length)
def q4x (X:Codecs K) (sz:Nat->Nat) (w:Wd) (t:Tree (PV K)) (fr:Fr):Prop:=∀ i p,t.get i=some p->∃ v,fr.tmp i=some v/\Rep X sz w p v
def q7e (b:Nat) (w:Wd) (a:List Dfr):Prop:=(∀ x ∈ a,∃ m,x=.mark m/\b<=m/\w.fl<=m/\w.g m=some .dfr)/\a.Nodup/\w.fl<=w.nx
theorem q7e.mono {b:Nat} {w w':Wd} (h:Le w w') {ds:List Dfr} (a:q7e b w ds):q7e b w' ds:=by
 refine ⟨λx c=>?_,a.2.1,by rw [h.fl];exact zR a.2.2 h.nx⟩;obtain ⟨m,d,e,f,g⟩:=a.1 x c;exact ⟨m,d,e,by rw [h.fl];exact f,h.df m g⟩
theorem q7e.nil {b:Nat} {w:Wd} (h:w.fl<=w.nx):q7e b w []:=⟨λx a=>(by cases a),List.nodup_nil,h⟩
structure Rel (X:Codecs K) (sz:Nat->Nat) (C:ZC K) (base:Heap) (st:StV K) (fr:Fr) (H:Heap) (w:Wd):Prop where
 h:RelH X sz C base st H w
 f:q4x X sz w st.tmps fr
 n:fr.n=st.n
 ds:q7e base.next w fr.defers
structure Near (st st':StV K):Prop where
 tmps:st'.tmps=st.tmps
 n:st'.n=st.n
 cells:st'.cells=st.cells
 owns:st'.owns=st.owns
theorem Near.refl (st:StV K):Near st st:=⟨rfl,rfl,rfl,rfl⟩
theorem Near.trans {st b a:StV K} (h:Near st b) (c:Near b a):Near st a:=
 ⟨c.tmps.trans h.tmps,c.n.trans h.n,c.cells.trans h.cells,c.owns.trans h.owns⟩
section
variable {X:Codecs K} {sz:Nat->Nat} {C:ZC K} {base H:Heap} {st:StV K} {fr:Fr} {w:Wd}
theorem zic {id:Nat} {b:Bool} {l:List (Nat×Bool)} {j:Nat} {a:Bool} (h:look (zk1 id b l) j=some a):(id≠0/\j=id/\a=b)∨look l j=some a:=by
 unfold zk1 at h;by_cases c:id=0
 .subst c;simp only [Nat.beq_refl,zO] at h;exact .inr h
 .have:Nat.beq id 0=false:=by rw [<-Bool.not_eq_true,Nat.beq_eq];exact c
  rw [this] at h;simp only [zQ,look] at h;by_cases d:id=j
  .subst d;simp only [Nat.beq_refl,zO,zS] at h;exact .inl ⟨c,rfl,h.symm⟩
  .have:Nat.beq id j=false:=by rw [<-Bool.not_eq_true,Nat.beq_eq];exact d
   rw [this] at h;exact .inr h
theorem qfc {l:List (Nat×ZT K)} {id:Nat} {ps:List (PV K)} (h:qpj l id=some ps):look l id=some (.cs (qnm l id) ps):=by
 unfold qpj at h;split at h
 .rename_i t a e;cases h;rw [qnm,e]
 .cases h
theorem qic {l:List (Nat×ZT K)} {id c:Nat} {x:List (K c)×PV K} (h:qqz l id c=some x):look l id=some (.ml c x.1 x.2):=by
 unfold qqz at h;split at h
 .rename_i b y p e;split at h
  .rename_i a;subst a;cases h;exact e
  .cases h
 .cases h
theorem RelH.ext (ok:CfgOk X sz C) (R:RelH X sz C base st H w) {m:Nat} {nu':Nat->Bool} (hm:st.next<=m) (f:∀ id,id<st.next->nu' id=w.nu id) :
  Le w {w with n:=m,nu:=nu'}/\RelH X sz C base {st with next:=m} H {w with n:=m,nu:=nu'}:=by
 have c:Le w {w with n:=m,nu:=nu'}:=
  ⟨⟨by rw [R.n];exact hm,λnm cs e gen k l ex h q=>⟨q,[],gen,l,ex,by rw [zJ];exact h⟩,λ_ _=>rfl,λid hi=>f id (by rw [<-R.n];exact hi),λ_ _ h=>h,
   λ_ _ _ _ h p=>by rw [h] at p;cases p;exact zN _,λ_ _ _ _ _=>⟨rfl,λ_ _ _=>rfl⟩,rfl,λ_ _=>.rfl,zN _,rfl,λ_ _ h=>h,λ_ _=>rfl,qni λ_ _ _=>rfl⟩,λ_ h=>h,rfl⟩
 refine ⟨c,⟨R.wf,R.rob,R.g,R.nx,R.b,R.Mlt,rfl,zR R.one hm,R.keeps,λid h=>?_,R.cinj,λid ps h=>?_,R.owns,λi s h=>zL (R.ownn i s h) hm,R.eta,R.einj,R.ce,λid b h=>?_,λgn ps h=>?_⟩⟩
 .obtain ⟨a,d,j⟩:=R.cl id h;exact ⟨zL a hm,d,j⟩
 .obtain ⟨a,d,j⟩:=R.cells id ps h;exact ⟨a,d,j.mono ok.len c (by rw [R.n];exact (R.cl id a).1)⟩
 .obtain ⟨o,a,d⟩:=R.known id b h;exact ⟨o,zL a hm,(f id a).trans d⟩
 .obtain ⟨o,r,e,fl,fz,ex,a,d,j⟩:=R.globs gn ps h;exact ⟨o,r,e,fl,fz,ex,a,d,j.mono ok.len c⟩
theorem RelH.zmq (R:RelH X sz C base st H w) {id:Nat} {b:Bool} (hi:id≠0->id<st.next/\w.nu id=b):RelH X sz C base {st with known:=zk1 id b st.known} H w:=
 ⟨R.wf,R.rob,R.g,R.nx,R.b,R.Mlt,R.n,R.one,R.keeps,R.cl,R.cinj,R.cells,R.owns,R.ownn,R.eta,R.einj,R.ce,λj c h=>by
  rcases zic h with ⟨a,rfl,rfl⟩ | h
  .exact ⟨a,hi a⟩
  .exact R.known j c h,R.globs⟩
variable {tbl:Tbl K} {inv:Nat->List (NV K)->Prop} {meas:Nat->List (NV K)->Nat}
theorem qx8 {p:PV K} {b:Bool} {k:Bool->StV K->Prop} (R:RelH X sz C base st H w) (j:Rep X sz w p (.bool b)) (h:br (ql X tbl inv meas) st p k) :
  ∃ a,k b a/\Near st a/\a.next=st.next/\RelH X sz C base a H w:=by
 rcases j.bool with rfl | ⟨id,neg,r,s,rfl,l,m,d⟩
 .exact ⟨st,h,.refl st,rfl,R⟩
 .simp only [br] at h;cases f:look st.known id with
  | some v=>
   rw [f] at h;obtain ⟨c,o,g⟩:=R.known _ _ f;have e:=(d c).2;rw [g] at e;simp only [<-e] at h;exact ⟨st,h,.refl st,rfl,R⟩
  | none=>
   rw [f] at h;obtain ⟨q,e⟩:=h;have i:id≠0->id<st.next:=λc=>by have:=(d c).1;rw [R.n] at this;exact this
   cases b with
   | true=>
    refine ⟨_,q (l.2 rfl),⟨rfl,rfl,rfl,rfl⟩,rfl,R.zmq λc=>⟨i c,?_⟩⟩;have:=(d c).2;revert this;cases w.nu id<;>cases neg<;>simp
   | false=>
    refine ⟨_,e (m.2 rfl),⟨rfl,rfl,rfl,rfl⟩,rfl,R.zmq λc=>⟨i c,?_⟩⟩;have:=(d c).2;revert this;cases w.nu id<;>cases neg<;>simp
theorem zfv {v:V} (h:qif v=true):Rep X sz w (ofV (ql X tbl inv meas) v) v:=by
 unfold qif at h;split at h
 .simp only [ofV];exact .int λm a=>by cases a;rfl
 .simp only [ofV];exact .lit
 .simp only [ofV];exact .str
 .simp only [ofV];exact .nilp
 .simp only [ofV];exact .nils
 .simp only [ofV];exact .nilf
 .simp only [ofV];exact .nili
 .simp only [ofV,ofL];exact .func rfl rfl (λj p h=>by simp at h) (λj p h=>by simp at h)
 .cases h
theorem zfu {l:List V} (h:l.all qif=true):qj X sz w (ofL (ql X tbl inv meas) l) l:=by
 induction l with
 | nil=>simp only [ofL];exact .nil
 | cons v l a=>
  simp only [List.all_cons,zA] at h;simp only [ofL];exact .cons (zfv h.1) (a h.2)
theorem zb0 {v:V} {p:PV K} (h:qrj (ql X tbl inv meas) v=some p):Rep X sz w p v:=by
 unfold qrj at h;split at h
 .rename_i cs;cases a:cs.all qif with
  | true=>
   rw [a] at h;simp only [zO,zS] at h;subst h;simp only [ofV];exact .qt9 (zfu a)
  | false=>rw [a] at h;cases h
 .simp only [zS] at h;subst h;exact .undef
 .cases a:qif v with
  | true=>
   simp only [a,zO,zS] at h;subst h;exact zfv a
  | false=>simp only [a,zQ] at h;cases h
theorem qiv {ti:TI} {ps:List (PV K)} (h:zeroCells (ql X tbl inv meas) ti=some ps):qj X sz w ps ti.zero.cells:=by
 unfold zeroCells at h;cases a:ti.zero.cells.all qif with
 | true=>
  rw [a] at h;simp only [zO,zS] at h;subst h;exact zfu a
 | false=>rw [a] at h;cases h
theorem qq (R:Rel X sz C base st fr H w) {x:Operand} {p:PV K} (h:ju (ql X tbl inv meas) C st x=some p):∃ v,opd fr H x=some v/\Rep X sz w p v:=by
 cases x with
 | tmp t=>exact R.f t p h
 | const c=>
  simp only [ju] at h;obtain ⟨u,a,b⟩:=zI.1 h;exact ⟨u,a,zb0 b⟩
 | global gn=>
  simp only [ju] at h;obtain ⟨ps,a,b⟩:=zM.1 h;subst b;obtain ⟨d,m,e,fl,fz,ex,g,i,k⟩:=R.h.globs gn ps a;refine ⟨_,?_,k⟩;have l:Nat.blt gn H.zf=true:=by rw [Nat.blt_eq,R.h.keeps.zf];exact d
  simp only [opd,l,zO,R.h.keeps.old gn i,g]
 | func f=>
  simp only [ju,zS] at h;subst h;exact ⟨_,rfl,.func rfl rfl (λj p h=>by simp at h) (λj p h=>by simp at h)⟩
theorem qdq (R:Rel X sz C base st fr H w):∀ {l:List Operand} {ps:List (PV K)},qgw (ql X tbl inv meas) C st l=some ps->∃ a,qcy fr H l=some a/\qj X sz w ps a
 | [],ps,h=>by
  simp only [qgw,zS] at h;subst h;exact ⟨[],rfl,.nil⟩
 | x::l,ps,h=>by
  simp only [qgw] at h;obtain ⟨p,b,c⟩:=zI.1 h;obtain ⟨d,e,f⟩:=zM.1 c;subst f;obtain ⟨v,g,r1⟩:=qq R b;obtain ⟨a,i,j⟩:=qdq R e;exact ⟨v::a,qu3 g i,.cons r1 j⟩
theorem qgx {fr':Fr} {H':Heap}:∀ {l:List Operand},(∀ x ∈ l,opd fr' H' x=opd fr H x)->qcy fr' H' l=qcy fr H l
 | [],_=>rfl
 | x::l,h=>by
  simp only [qcy,h x zC,qgx λy a=>h y (zG _ a)]
theorem qwc {ti:TI} {ps:List (PV K)} {a:List V} {off:Nat} {p:PV K} (r:qj X sz w ps a) (h:zf0 ti ps off=some p):∃ v,qn6 ti a off=some v/\Rep X sz w p v:=by
 unfold zf0 at h;unfold qn6;cases b:ti.isAgg with
 | true=>
  rw [b] at h;simp only [zO] at h ⊢;rw [<-r.1];cases c:Nat.ble (off+ti.size) ps.length with
  | true=>
   rw [c] at h;simp only [zO,zS] at h ⊢;subst h;exact ⟨_,rfl,.qt9 ((r.drop off).take ti.size)⟩
  | false=>rw [c] at h;cases h
 | false=>
  rw [b] at h;simp only [zQ] at h ⊢;exact r.get h
theorem qkb {ps a:List (PV K)} {b us:List V} (r:qj X sz w ps b) (c:qj X sz w a us) (off:Nat):qj X sz w (qfl ps off a) (setCells b off us):=by
 unfold qfl setCells;rw [c.1];exact ((r.take off).append c).append (r.drop _)
theorem qln {place:Nat->Option (Nat×Nat)}:∀ {parts:List (Nat×PV K)} {vparts:List (Nat×V)} {ps d:List (PV K)} {c:List V},
  parts.map (·.1)=vparts.map (·.1)->qj X sz w (parts.map (·.2)) (vparts.map (·.2))->qj X sz w ps c->qyw place ps parts=some d->∃ us,qhx place c vparts=some us/\qj X sz w d us
 | [],vparts,ps,d,c,b,e,r,h=>by
  cases vparts with
  | nil=>
   simp only [qyw,zS] at h;subst h;exact ⟨c,rfl,r⟩
  | cons _ _=>simp at b
 | (i,p)::parts,vparts,ps,d,c,b,e,r,h=>by
  cases vparts with
  | nil=>simp at b
  | cons x vparts=>
   obtain ⟨j,v⟩:=x;simp only [List.map_cons,List.cons.injEq] at b;obtain ⟨rfl,b⟩:=b;simp only [List.map_cons] at e;obtain ⟨o,m,g,r1,n⟩:=e.zt;simp only [List.cons.injEq] at g;obtain ⟨rfl,rfl⟩:=g;simp only [qyw] at h;split at h
   .cases h
   .rename_i off a f;have k:=r1.cells;simp only [qhx,f];rw [<-k.1,<-r.1];cases l:(Nat.beq p.cellsOf.length a&&Nat.ble (off+a) ps.length) with
    | false=>rw [l] at h;cases h
    | true=>
     rw [l] at h;simp only [zO] at h ⊢;exact qln b n (qkb r k off) h
end
end Go.E3
/- E3: OPERATORS AND COMPARISONS against E2's. -/
namespace Go.E3
open Go Go.E2
variable {K:Nat->Type}
theorem qm5 {k:IntKind} {x:Int} (h:InK k x):k.wrap x=x:=by
 cases k<;>simp only [InK] at h<;>simp only [IntKind.wrap,IntKind.bits,IntKind.signed]<;>
 first
  | omega
  | (simp;omega)
  | (rw [Int.bmod_eq_of_le]<;>omega)
def qji (c:Bool×Prop×Prop):Prop:=(c.2.1↔c.1=true)/\(c.2.2↔c.1=false)
theorem qrt {op:BinOp} {a b:Int} {c:Bool×Prop×Prop} (h:qv2 op a b=some c):qji c:=by
 cases op<;>simp only [qv2,zS,reduceCtorEq] at h<;>subst h<;>constructor<;>simp<;>omega
theorem ze4 {op:BinOp} {k:IntKind} {a b:Int} {c:Bool×Prop×Prop} (h:qv2 op a b=some c):qh8 op k a b=some (.bool c.1):=by
 cases op<;>simp only [qv2,zS,reduceCtorEq] at h<;>subst h<;>simp only [qh8,zS,V.bool.injEq]<;>first | rfl | (rw [Bool.eq_iff_iff];simp)
theorem zvz {op:BinOp} {k:IntKind} {a b:Int} {r:Prop×Int} (h:zvy op k a b=some r) (c:r.1):qh8 op k a b=some (.int k r.2):=by
 cases op<;>simp only [zvy,zS,reduceCtorEq] at h<;>subst h<;>simp only [qh8]
 .rw [qm5 c]
 .rw [qm5 c]
 .rw [qm5 c]
 .rw [zF c.1,qm5 c.2]
 .rw [zF c]
theorem qr7 {op:BinOp} {a b:List UInt8} {c:Bool×Prop×Prop} (h:qwj op a b=some c):qji c:=by
 cases op<;>simp only [qwj,zS,reduceCtorEq] at h<;>subst h<;>constructor<;>simp
theorem zf5 {op:BinOp} {a b:List UInt8} {c:Bool×Prop×Prop} (h:qwj op a b=some c):qmm op a b=some (.bool c.1):=by
 cases op<;>simp only [qwj,zS,reduceCtorEq] at h<;>subst h<;>simp only [qmm,zS,V.bool.injEq]
 .rw [Bool.eq_iff_iff];simp
 .rw [Bool.eq_iff_iff];simp
theorem qji.not {c:Bool×Prop×Prop} (h:qji c):qji (!c.1,c.2.2,c.2.1):=by
 refine ⟨?_,?_⟩
 .rw [h.2];simp
 .rw [h.1];simp
theorem qx0:∀ {l:List (Bool×Prop×Prop)},(∀ c ∈ l,qji c)->qji (qot l)/\(qot l).1=l.all (·.1)
 | [],_=>by simp [qot,qji]
 | [c],h=>by simp [qot,h c zC]
 | c::d::l,h=>by
  have a:=h c zC;obtain ⟨b,f⟩:=qx0 (l:=d::l) λx g=>h x (zG _ g);have e:qot (c::d::l)=(c.1&&(qot (d::l)).1,c.2.1/\(qot (d::l)).2.1,c.2.2∨(qot (d::l)).2.2):=rfl;rw [e];refine ⟨⟨?_,?_⟩,?_⟩
  .rw [a.1,b.1];simp
  .rw [a.2,b.2];cases c.1<;>simp
  .rw [List.all_cons,f]
def qja:V->V->Bool
 | .int _ a,.int _ b=>a == b
 | .str a,.str b=>a == b
 | .bool a,.bool b=>a == b
 | _,_=>false
def qf5:List V->List V->Bool
 | [],[]=>true
 | a::c,b::d=>qja a b&&qf5 c d
 | _,_=>false
section
variable {X:Codecs K} {sz:Nat->Nat} {w:Wd} {tbl:Tbl K} {inv:Nat->List (NV K)->Prop} {meas:Nat->List (NV K)->Nat}
theorem q2x {x y:PV K} {a b:V} {c:Bool×Prop×Prop} (rx:Rep X sz w x a) (e:Rep X sz w y b) (h:eqP (ql X tbl inv meas) x y=some c):qji c/\c.1=qja a b/\
  ((∃ k i j,a=.int k i/\b=.int k j)∨(∃ s t,a=.str s/\b=.str t)∨(∃ s t,a=.bool s/\b=.bool t)):=by
 unfold eqP at h;split at h
 .rename_i k g n l o m;cases rx;cases e;split at h
  .rename_i f;subst f;have d:qv2 .eql n m=some c:=h;refine ⟨qrt d,?_,.inl ⟨k,n,m,rfl,rfl⟩⟩;simp only [qv2,zS] at d;subst d;simp only [qja];rw [Bool.eq_iff_iff];simp
  .cases h
 .rename_i s t;cases rx;cases e;have d:qwj .eql s t=some c:=h;refine ⟨qr7 d,?_,.inr (.inl ⟨s,t,rfl,rfl⟩)⟩;simp only [qwj,zS] at d;subst d;simp only [qja];rw [Bool.eq_iff_iff];simp
 all_goals first
  | (cases h;done)
  | (cases rx;cases e
     have d:=Option.some.inj h;subst d;exact ⟨⟨by simp [ql],by simp [ql]⟩,rfl,.inr (.inr ⟨_,_,rfl,rfl⟩)⟩)
theorem qyp:∀ {i j:List (PV K)} {e f:List V} {cs:List (Bool×Prop×Prop)},qj X sz w i e->qj X sz w j f->zb3 (ql X tbl inv meas) i j=some cs->
  (∀ c ∈ cs,qji c)/\cs.all (·.1)=qf5 e f
 | [],[],e,f,cs,rx,g,h=>by
  rw [rx.ka,g.ka];simp only [zb3,zS] at h;subst h;exact ⟨λc p=>(by cases p),rfl⟩
 | [],y::j,e,f,cs,rx,g,h=>by simp [zb3] at h
 | x::i,[],e,f,cs,rx,g,h=>by simp [zb3] at h
 | x::i,y::j,e,f,cs,rx,g,h=>by
  obtain ⟨a,q,rfl,k,l⟩:=rx.zt;obtain ⟨b,r,rfl,m,n⟩:=g.zt;simp only [zb3] at h;obtain ⟨c,s,t⟩:=zI.1 h;obtain ⟨u,v,z⟩:=zM.1 t;subst z;obtain ⟨A,B,_⟩:=q2x k m s;obtain ⟨C,D⟩:=qyp l n v;refine ⟨λd o=>?_,?_⟩
  .rcases zD.1 o with rfl | o
   .exact A
   .exact C d o
  .simp only [List.all_cons,qf5,B,D]
theorem qg1:∀ {l:List Leaf} {ps:List (PV K)} {a:List V},qj X sz w ps a->tiled l ps=true->k8 l a
 | l,[],a,r,h=>by
  rw [r.ka];cases l with
  | nil=>trivial
  | cons _ _=>simp [tiled] at h
 | l,p::ps,a,r,h=>by
  obtain ⟨v,c,rfl,r1,b⟩:=r.zt;cases l with
  | nil=>simp [tiled] at h
  | cons k l=>
   cases k<;>cases r1<;>first
    | (simp [tiled] at h;done)
    | (simp only [tiled,zA,decide_eq_true_eq] at h
       simp only [k8]
       first
        | exact ⟨h.1,qg1 b h.2⟩
        | exact qg1 b h)
end
theorem qc4:∀ {l:List Leaf} {a:List V},k8 l a->a.length=l.length
 | [],[],_=>rfl
 | [],_::_,h=>by simp [k8] at h
 | k::l,[],h=>by simp [k8] at h
 | k::l,v::a,h=>by
  cases k<;>cases v<;>first
   | (simp [k8] at h;done)
   | (simp only [k8] at h
      simp only [List.length_cons]
      first
       | rw [qc4 h.2]
       | rw [qc4 h])
theorem qf2:∀ {l a:List Leaf} {b:List V},k8 (l++a) b->k8 l (b.take l.length)/\k8 a (b.drop l.length)
 | [],a,b,h=>by simpa [k8] using h
 | k::l,a,[],h=>by simp [k8] at h
 | k::l,a,v::b,h=>by
  rw [List.cons_append] at h;simp only [List.length_cons,List.take_succ_cons,List.drop_succ_cons];cases k<;>cases v<;>first
   | (simp [k8] at h;done)
   | (simp only [k8] at h ⊢
      first
       | exact ⟨⟨h.1,(qf2 h.2).1⟩,(qf2 h.2).2⟩
       | exact qf2 h)
theorem qyg {f d c e:List V} (h:f.length=c.length):qf5 (f++d) (c++e)=(qf5 f c&&qf5 d e):=by
 induction f generalizing c with
 | nil=>
  cases c with
  | nil=>simp [qf5]
  | cons _ _=>simp at h
 | cons a f g=>
  cases c with
  | nil=>simp at h
  | cons b c=>
   simp only [List.length_cons,Nat.add_right_cancel_iff] at h;simp only [List.cons_append,qf5,g h,Bool.and_assoc]
mutual
theorem q8j (E:Env):∀ (d:Nat) (t:TypeId) (l:List Leaf),q06 E d t=some l->
  ∀ ti,E.types t=some ti->(ti.isAgg=true->0<l.length/\ti.size=l.length/\∀ j m,k8 l j->k8 l m->eqV E d t (.agg j) (.agg m)=some (qf5 j m))/\
   (ti.isAgg=false->l.length=1/\∀ a b,k8 l [a]->k8 l [b]->eqV E d t a b=some (qja a b))
 | 0,_,_,h=>by simp [q06] at h
 | d+1,t,l,h=>by
  intro ti e;simp only [q06,e] at h;split at h
  .rename_i k i;cases f:ti.isAgg with
   | true=>rw [f] at h;cases h
   | false=>
    rw [f] at h;simp only [Bool.not_false,zO,zS] at h;subst h;refine ⟨λh=>(by cases h),λ_=>⟨rfl,λa b g c=>?_⟩⟩;cases a<;>simp only [k8] at g;cases b<;>simp only [k8] at c;obtain ⟨rfl,_⟩:=g;obtain ⟨rfl,_⟩:=c;simp only [eqV,e,i,if_true,qja]
  .rename_i i;cases f:ti.isAgg with
   | true=>rw [f] at h;cases h
   | false=>
    rw [f] at h;simp only [Bool.not_false,zO,zS] at h;subst h;refine ⟨λh=>(by cases h),λ_=>⟨rfl,λa b g c=>?_⟩⟩;cases a<;>simp only [k8] at g;cases b<;>simp only [k8] at c;simp only [eqV,e,i,qja]
  .rename_i i;cases f:ti.isAgg with
   | true=>rw [f] at h;cases h
   | false=>
    rw [f] at h;simp only [Bool.not_false,zO,zS] at h;subst h;refine ⟨λh=>(by cases h),λ_=>⟨rfl,λa b g c=>?_⟩⟩;cases a<;>simp only [k8] at g;cases b<;>simp only [k8] at c;simp only [eqV,e,i,qja]
  .rename_i q i;cases n:(E.eqOk t&&ti.isAgg) with
   | false=>rw [n] at h;cases h
   | true=>
    rw [n] at h;simp only [zO] at h;simp only [zA] at n;obtain ⟨p,g,c⟩:=zI.1 h;cases o:(Nat.beq ti.size p.length&&Nat.blt 0 p.length) with
    | false=>rw [o] at c;cases c
    | true=>
     rw [o] at c;simp only [zO,zS] at c;subst c;rw [zA,Nat.beq_eq,Nat.blt_eq] at o;refine ⟨λ_=>⟨o.2,o.1,λj m r s=>?_⟩,λh=>(by rw [n.2] at h;cases h)⟩;simp only [eqV,e,i,n.1,zO];have:=q8g E d q.toList 0 p g j m (by simpa using r) (by simpa using s);simpa using this
  .cases h
theorem q8g (E:Env):∀ (d:Nat) (u:List Field) (off:Nat) (l:List Leaf),q4j E d u off=some l->
  ∀ b c:List V,k8 l (b.drop off)->k8 l (c.drop off)->eqFields E d u b c=some (qf5 (b.drop off) (c.drop off))
 | 0,_,_,_,h=>by simp [q4j] at h
 | d+1,[],off,l,h=>by
  intro b c v w;simp only [q4j,zS] at h;subst h;have K:=List.eq_nil_of_length_eq_zero (qc4 v);have L:=List.eq_nil_of_length_eq_zero (qc4 w);rw [K,L];rfl
 | d+1,f::u,off,l,h=>by
  intro b c v w;simp only [q4j] at h;cases m:Nat.beq f.offset off with
  | false=>rw [m] at h;cases h
  | true=>
   rw [m] at h;simp only [zO] at h;rw [Nat.beq_eq] at m;obtain ⟨a,n,M⟩:=zI.1 h;obtain ⟨r,N,O⟩:=zM.1 M;subst O;obtain ⟨g,o⟩:=qf2 v;obtain ⟨i,p⟩:=qf2 w;rw [List.drop_drop] at o p;have la:=qc4 v;have lb:=qc4 w;rw [List.length_append,List.length_drop] at la lb;have z:=qc4 g;have A:=qc4 i;rw [List.length_take,List.length_drop] at z A;have B:∃ ti,E.types f.type=some ti:=by
    cases d with
    | zero=>simp [q06] at n
    | succ d=>
     simp only [q06] at n;split at n
     .cases n
     .rename_i ti j;exact ⟨ti,j⟩
   obtain ⟨ti,j⟩:=B;have rest:=q8g E d u (off+a.length) r N b c o p;have e:∀ x:List V,x.drop off=(x.drop off).take a.length++x.drop (off+a.length):=by
    intro x;rw [<-List.drop_drop];exact (List.take_append_drop _ _).symm
   have q:((b.drop off).take a.length).length=((c.drop off).take a.length).length:=by
    rw [qc4 g,qc4 i]
   simp only [eqFields,j];rw [e b,e c,qyg q];have key:=q8j E d f.type a n ti j;cases y:ti.isAgg with
   | true=>
    obtain ⟨C,s,k⟩:=key.1 y;have D:Nat.ble (off+ti.size) b.length=true:=by rw [Nat.ble_eq];omega
    have F:Nat.ble (off+ti.size) c.length=true:=by rw [Nat.ble_eq];omega
    rw [s] at D F;simp only [qn6,y,zO,m,s,D,F,zB];rw [k _ _ g i];simp only [zB];cases P:qf5 ((b.drop off).take a.length) ((c.drop off).take a.length) with
    | true=>simp only [zO,Bool.true_and,rest]
    | false=>simp only [zQ,Bool.false_and]
   | false=>
    obtain ⟨t,k⟩:=key.2 y;have G:off<b.length:=by omega
    have H:off<c.length:=by omega
    have I:(b.drop off).take a.length=[b[off]]:=by rw [t,List.drop_eq_getElem_cons G];rfl
    have J:(c.drop off).take a.length=[c[off]]:=by rw [t,List.drop_eq_getElem_cons H];rfl
    simp only [qn6,y,zQ,m,List.getElem?_eq_getElem G,List.getElem?_eq_getElem H,zB];rw [I] at g;rw [J] at i;rw [I,J];rw [k _ _ g i];simp only [zB,qf5,Bool.and_true];cases P:qja b[off] c[off] with
    | true=>simp only [zO,Bool.true_and,rest]
    | false=>simp only [zQ,Bool.false_and]
end
end Go.E3
/- E3: OPERATIONS ON VALUES ALONE against E2's. -/
namespace Go.E3
open Go Go.E2
variable {K:Nat->Type}
section
variable {X:Codecs K} {sz:Nat->Nat} {C:ZC K} {base H:Heap} {st:StV K} {fr:Fr} {w:Wd}
variable {tbl:Tbl K} {inv:Nat->List (NV K)->Prop} {meas:Nat->List (NV K)->Nat}
def Res (X:Codecs K) (sz:Nat->Nat) (C:ZC K) (base H:Heap) (st:StV K) (w:Wd) (k:PV K->StV K->Prop) (b:V->Prop):Prop:=
 ∃ p a v w',k p a/\Near st a/\RelH X sz C base a H w'/\Le w w'/\Rep X sz w' p v/\b v
theorem Res.here {k:PV K->StV K->Prop} {a:V->Prop} {p:PV K} {v:V} (R:RelH X sz C base st H w) (b:k p st) (r:Rep X sz w p v) (he:a v):Res X sz C base H st w k a:=
 ⟨p,st,v,w,b,.refl st,R,.refl w,r,he⟩
theorem Res.cond (ok:CfgOk X sz C) {k:PV K->StV K->Prop} {b:V->Prop} {c:Bool×Prop×Prop} (R:RelH X sz C base st H w) (d:qji c) (e:k (q9k st c).1 (q9k st c).2) (he:b (.bool c.1)):Res X sz C base H st w k b:=by
 obtain ⟨a,f⟩:=R.ext ok (m:=st.next+1) (nu':=λid=>if id=st.next then c.1 else w.nu id) (Nat.le_succ _) (λid hi=>by rw [zF (by omega)]);refine ⟨_,_,_,_,e,⟨rfl,rfl,rfl,rfl⟩,f,a,.sb d.1 d.2 λg=>⟨Nat.lt_succ_self _,?_⟩,he⟩;simp
theorem qh5 {neg:Bool} {c:Bool×Prop×Prop} (h:qji c):qji (qs3 (ql X tbl inv meas) neg c)/\(qs3 (ql X tbl inv meas) neg c).1=(c.1 != neg):=by
 cases neg with
 | false=>simp only [qs3,zQ];exact ⟨h,by simp⟩
 | true=>simp only [qs3,zO];exact ⟨h.not,by simp [zy8,ql]⟩
def qsz (E:Env) (neg:Bool) (t:TypeId) (a b:V) (r:Bool):Prop:=qbj E (if neg=true then .neq else .eql) t a b=some (.bool (r != neg))
theorem qms {E:Env} {neg:Bool} {t:TypeId} {a b:V} {r:Bool} (hi:∀ k i d j,a=.int k i->b≠.int d j) (c:∀ x y,a=.str x->b≠.str y) (h:eqV E 1000 t a b=some r):qsz E neg t a b r:=by
 unfold qsz;cases neg
 .simp only [Bool.false_eq_true,if_false];cases a<;>cases b<;>first
   | (exact absurd rfl (hi _ _ _ _ rfl))
   | (exact absurd rfl (c _ _ rfl))
   | (simp only [qbj,h,zH];simp)
 .simp only [if_true];cases a<;>cases b<;>first
   | (exact absurd rfl (hi _ _ _ _ rfl))
   | (exact absurd rfl (c _ _ rfl))
   | (simp only [qbj,h,zH];simp)
theorem q8h {E:Env} {t:TypeId} {ti:TI} {x y:PV K} {a b:V} {r:Bool} (l:E.types t=some ti) (rx:Rep X sz w x a) (m:Rep X sz w y b) (h:zls E ti.under x y=some r):(∀ k i n j,a=.int k i->b≠.int n j)/\(∀ s q,a=.str s->b≠.str q)/\eqV E 1000 t a b=some r/\¬ (a=.nili/\b=.nili):=by
 unfold zls at h;split at h
 all_goals first
  | (cases h;done)
  | (rename_i f
     cases rx;cases m;simp only [zS] at h;subst h;refine ⟨by simp,by simp,?_,by simp⟩;simp only [eqV,l,f]
     done)
  | (rename_i e i o z j p A f
     cases rx;cases m;obtain ⟨u,v,c⟩:=zI.1 h;cases d:(!Nat.beq u.size 0&&Nat.beq i j) with
     | false=>rw [d] at c;cases c
     | true=>
      rw [d] at c;simp only [zO,zS] at c;subst c;simp only [zA] at d;have g:i=j:=zE d.2;subst g;refine ⟨by simp,by simp,?_,by simp⟩;simp only [eqV,l,f,v,zB,Nat.beq_refl,d.1,Bool.and_self,zO])
theorem qdi (ok:CfgOk X sz C) {k:PV K->StV K->Prop} {a:V->Prop} {c:Option (Bool×Prop×Prop)} (R:RelH X sz C base st H w) (h:qvx st False c k) (b:∀ d,c=some d->qji d/\a (.bool d.1)):Res X sz C base H st w k a:=by
 cases c with
 | none=>exact absurd h id
 | some d=>exact .cond ok R (b d rfl).1 h (b d rfl).2
theorem q9l (ok:CfgOk X sz C) (R:RelH X sz C base st H w) {neg:Bool} {t e:TypeId} {ti:TI} (f:C.E.types t=some ti) (hu:ti.under=.slice e) {x y:PV K} {a b:V} {k:PV K->StV K->Prop} (rx:Rep X sz w x a) (m:Rep X sz w y b)
  (h:znb (ql X tbl inv meas) neg x y st k):Res X sz C base H st w k λv=>∃ r,qsz C.E neg t a b r/\v=.bool (r != neg)/\¬ (a=.nili/\b=.nili):=by
 unfold znb at h;have n:∀ r:Bool,qji (r,r=true,r=false):=λr=>⟨Iff.rfl,Iff.rfl⟩;split at h
 .cases rx;cases m;refine .here R h .lit ⟨true,qms (by simp) (by simp) ?_,rfl,by simp⟩;simp only [eqV,f,hu]
 .rename_i c l own;cases m;cases rx with
  | nlist p=>
   have i:=h true (λ_=>rfl);refine qdi ok R i λd j=>?_;cases j;have g:=qh5 (X:=X) (tbl:=tbl) (inv:=inv) (meas:=meas) (neg:=neg) (n true);refine ⟨g.1,true,qms (by simp) (by simp) ?_,congrArg V.bool g.2,by simp⟩;simp only [eqV,f,hu]
  | list=>
   have i:=h false (λo=>Bool.noConfusion o);refine qdi ok R i λd j=>?_;cases j;have g:=qh5 (X:=X) (tbl:=tbl) (inv:=inv) (meas:=meas) (neg:=neg) (n false);refine ⟨g.1,false,qms (by simp) (by simp) ?_,congrArg V.bool g.2,by simp⟩;simp only [eqV,f,hu]
 .exact absurd h id
theorem qyr (ok:CfgOk X sz C) (R:RelH X sz C base st H w) {neg:Bool} {t:TypeId} {x y:PV K} {a b:V} {k:PV K->StV K->Prop} (rx:Rep X sz w x a) (q:Rep X sz w y b)
  (h:zrh (ql X tbl inv meas) C.E neg t x y st k):Res X sz C base H st w k λv=>∃ r,qsz C.E neg t a b r/\v=.bool (r != neg)/\¬ (a=.nili/\b=.nili):=by
 unfold zrh at h;split at h
 .rename_i S i n J j m;cases rx with | int G=>cases q with | int I=>
  split at h
  .rename_i L;subst L;have:=G i rfl;subst this;have:=I j rfl;subst this;refine .here R h .lit ⟨i == j,?_,rfl,by simp⟩;cases neg<;>simp [qsz,qbj,qh8,bne]
  .exact absurd h id
 .rename_i S l1 i J l2 j _;cases rx with | int G=>cases q with | int I=>
  split at h
  .rename_i L;subst L;refine qdi ok R h λd u=>?_;obtain ⟨c,f,rfl⟩:=zM.1 u
   replace f:qv2 .eql i j=some c:=f
   have g:=qh5 (X:=X) (tbl:=tbl) (inv:=inv) (meas:=meas) (neg:=neg) (qrt f);refine ⟨g.1,c.1,?_,by rw [g.2],by simp⟩;have:=ze4 (k:=S) f;simp only [qh8,zS,V.bool.injEq] at this;cases neg<;>simp [qsz,qbj,qh8,<-this,bne]
  .exact absurd h id
 .rename_i s A;cases rx;cases q;refine qdi ok R h λd u=>?_;obtain ⟨c,f,rfl⟩:=zM.1 u
  replace f:qwj .eql s A=some c:=f
  have g:=qh5 (X:=X) (tbl:=tbl) (inv:=inv) (meas:=meas) (neg:=neg) (qr7 f);refine ⟨g.1,c.1,?_,by rw [g.2],by simp⟩;have:=zf5 f;simp only [qmm,zS,V.bool.injEq] at this;cases neg<;>simp [qsz,qbj,qmm,<-this]
 .rename_i T U;obtain ⟨W,rfl,B⟩:=rx.qf4;obtain ⟨us,rfl,D⟩:=q.qf4;split at h
  .rename_i ti l o Y;cases z:(ti.isAgg&&(tiled l T&&tiled l U)) with
   | false=>rw [z] at h;exact absurd h id
   | true=>
    rw [z] at h;simp only [zO] at h;simp only [zA] at z;refine qdi ok R h λd u=>?_;obtain ⟨cs,f,rfl⟩:=zM.1 u;obtain ⟨M,F⟩:=qyp B D f;obtain ⟨N,O⟩:=qx0 M;have g:=qh5 (X:=X) (tbl:=tbl) (inv:=inv) (meas:=meas) (neg:=neg) N;refine ⟨g.1,(qot cs).1,?_,?_,by simp⟩
    .refine qms (by simp) (by simp) ?_;have:=((q8j C.E 1000 t l Y ti o).1 z.1).2.2 W us (qg1 B z.2.1) (qg1 D z.2.2);rw [this,O,F]
    .exact congrArg V.bool g.2
  .exact absurd h id
 .rename_i x y _ _ _ _;split at h
  .exact absurd h id
  .rename_i ti o;split at h
   .rename_i P;refine qdi ok R h λd u=>?_;obtain ⟨c,f,rfl⟩:=zM.1 u;obtain ⟨M,Q,p⟩:=q2x rx q f;have g:=qh5 (X:=X) (tbl:=tbl) (inv:=inv) (meas:=meas) (neg:=neg) M;refine ⟨g.1,c.1,?_,by rw [g.2],?_⟩
    .rcases p with ⟨Z,i,j,rfl,rfl⟩ | ⟨s,A,rfl,rfl⟩ | ⟨s,A,rfl,rfl⟩
     .cases neg<;>simp [qsz,qbj,qh8,Q,qja,bne]
     .cases neg<;>simp [qsz,qbj,qmm,Q,qja]
     .refine qms (by simp) (by simp) ?_;simp only [eqV,o,P,Q,qja]
    .rcases p with ⟨Z,i,j,rfl,rfl⟩ | ⟨s,A,rfl,rfl⟩ | ⟨s,A,rfl,rfl⟩<;>simp
   .rename_i e P;exact q9l ok R o P rx q h
   .split at h
    .rename_i r hr;obtain ⟨G,I,h3,h4⟩:=q8h o rx q hr;exact .here R h .lit ⟨r,qms G I h3,rfl,h4⟩
    .exact absurd h id
theorem q47 (ok:CfgOk X sz C) (R:RelH X sz C base st H w) {op:BinOp} {t:TypeId} {x y:PV K} {a b:V} {k:PV K->StV K->Prop} (G:op≠.shl/\op≠.shr) (rx:Rep X sz w x a) (u:Rep X sz w y b)
  (h:zbr (ql X tbl inv meas) op x y st k):Res X sz C base H st w k λv=>qbj C.E op t a b=some v/\¬ (a=.nili/\b=.nili):=by
 unfold zbr at h;have e:∀ f i j,qbj C.E op t (.int f i) (.int f j)=qh8 op f i j:=by
  intro f i j;cases op<;>simp_all [qbj]
 split at h
 .rename_i f i n z j m;cases rx with | int l=>cases u with | int o=>
  split at h
  .rename_i A;subst A;have:=l i rfl;subst this;have:=o j rfl;subst this;split at h
   .rename_i I n B;exact .here R h (.int λm D=>by cases D;rfl) ⟨by rw [e,B];rfl,by simp⟩
   .rename_i r B;exact .here R h .lit ⟨by rw [e,B],by simp⟩
   .exact absurd h id
  .exact absurd h id
 .rename_i f M i z N j _;cases rx with | int l=>cases u with | int o=>
  split at h
  .rename_i A;subst A;split at h
   .rename_i c F;refine qdi ok R h λd p=>?_;cases p;exact ⟨qrt F,by rw [e,ze4 F],by simp⟩
   .split at h
    .rename_i r J;exact .here R h.2 (.int λm D=>by cases D) ⟨by rw [e,zvz J h.1],by simp⟩
    .exact absurd h id
  .exact absurd h id
 .rename_i s q;cases rx;cases u;have g:qbj C.E op t (.str s) (.str q)=qmm op s q:=by
   cases op<;>simp_all [qbj]
  split at h
  .obtain ⟨l,o⟩:=h;refine .here R o .str ⟨?_,by simp⟩;have L:s.length+q.length<=1000000000:=l;have:Nat.ble (s.length+q.length) room=true:=by rw [Nat.ble_eq];unfold room;omega
   rw [g];simp only [qmm,this,zO];rfl
  .refine qdi ok R h λd p=>?_;exact ⟨qr7 p,by rw [g,zf5 p],by simp⟩
 .exact absurd h id
theorem zc6 (R:RelH X sz C base st H w) {t:TypeId} {x y:PV K} {a b:V} {k:PV K->StV K->Prop} (rx:Rep X sz w x a) (j:Rep X sz w y b)
  (h:zw8 (ql X tbl inv meas) x y st k):Res X sz C base H st w k λv=>qbj C.E .shr t a b=some v/\¬ (a=.nili/\b=.nili):=by
 unfold zw8 at h;split at h
 .rename_i l p n c m q;cases rx with | int o=>cases j with | int d=>
  have e:=o _ rfl;subst e;have f:=d m rfl;subst f;split at h
  .rename_i r;refine .here R h (.int λm g=>by cases g;rfl) ⟨?_,by simp⟩;simp only [qbj,qvb,zF (show ¬ m<0 by omega)];rfl
  .exact absurd h id
 .rename_i l p n c m q _;cases rx with | int o=>cases j with | int d=>
  have:=d m rfl;subst this;split at h
  .rename_i r;obtain ⟨s,u⟩:=h;obtain ⟨A,z⟩:=u;have i:0<=n:=s;refine .here R z (.int λm g=>by cases g) ⟨?_,by simp⟩;have e:¬ m<0:=by omega
   have f:min m.toNat l.bits=m.toNat:=by omega
   simp only [qbj,qvb,zF e,f];have:n.fdiv (2 ^ m.toNat)=n.tdiv (2 ^ m.toNat):=by
    rw [Int.fdiv_eq_ediv_of_nonneg _ (Int.le_of_lt (Int.pow_pos (by decide))),Int.tdiv_eq_ediv_of_nonneg i]
   rw [this];rfl
  .exact absurd h id
 .exact absurd h id
theorem zbu (ok:CfgOk X sz C) (R:RelH X sz C base st H w) {op:BinOp} {t:TypeId} {x y:PV K} {a b:V} {k:PV K->StV K->Prop} (rx:Rep X sz w x a) (f:Rep X sz w y b)
  (h:zu1 (ql X tbl inv meas) C op t x y st k):Res X sz C base H st w k λv=>qbj C.E op t a b=some v/\¬ (a=.nili/\b=.nili):=by
 unfold zu1 at h;split at h
 .obtain ⟨p,c,v,w',g,i,d,e,j,r,l,rfl,m⟩:=qyr ok R rx f h;exact ⟨p,c,_,w',g,i,d,e,j,l,m⟩
 .obtain ⟨p,c,v,w',g,i,d,e,j,r,l,rfl,m⟩:=qyr ok R rx f h;exact ⟨p,c,_,w',g,i,d,e,j,l,m⟩
 .exact absurd h id
 .exact zc6 R rx f h
 .rename_i n g i d e;exact q47 ok R ⟨d,e⟩ rx f h
theorem zjr (R:RelH X sz C base st H w) {op:UnOp} {x:PV K} {a:V} {k:PV K->StV K->Prop} (rx:Rep X sz w x a) (h:unP (ql X tbl inv meas) op x st k):Res X sz C base H st w k λv=>zay op a=some v:=by
 unfold unP at h;split at h
 .rename_i g l n;cases rx with | int e=>
  obtain ⟨d,c⟩:=h;refine .here R c (.int λm i=>by cases i) ?_;have:g.wrap (0-n) = -n:=by rw [Int.zero_sub];exact qm5 d
  simp only [zay,this];rfl
 .cases rx;exact .here R h .lit rfl
 .rename_i id neg b j o;cases rx with | sb e d c=>
  refine .here R h (.sb (b:=!b) (by rw [d];simp) (by rw [e];simp) λf=>⟨(c f).1,?_⟩) rfl;rw [(c f).2];cases w.nu id<;>cases neg<;>rfl
 .exact absurd h id
end
end Go.E3
/- E3: OPERATIONS ON VALUES ALONE against E2's, one by one. -/
namespace Go.E3
open Go Go.E2
variable {K:Nat->Type}
section
variable {X:Codecs K} {sz:Nat->Nat} {C:ZC K} {base H:Heap} {st:StV K} {fr:Fr} {w:Wd}
variable {tbl:Tbl K} {inv:Nat->List (NV K)->Prop} {meas:Nat->List (NV K)->Nat}
theorem qa {α:Type} {o:Option α} {k:α->Prop} (h:onS False o k):∃ a,o=some a/\k a:=by
 cases o with
 | none=>exact absurd h id
 | some a=>exact ⟨a,rfl,h⟩
theorem Res.pass {k:PV K->StV K->Prop} {c a:V->Prop} (h:Res X sz C base H st w k c) (he:∀ v,c v->a v):Res X sz C base H st w k a:=by
 obtain ⟨p,b,v,w',d,e,f,g,i,j⟩:=h;exact ⟨p,b,v,w',d,e,f,g,i,he v j⟩
def qfs (op:Op):Bool:=
 match op with
 | .move _ | .assign _ | .pick .. | .build .. | .nilCheck _ | .binOp .. | .unOp .. | .convert .. | .makeInterface .. | .slice .. | .fieldAddr .. | .field .. | .indexAddr .. | .index .. | .extract ..=>true
 | .makeFunc ..=>true
 | .call c=>match c.callee with
  | .builtin .len | .builtin .max | .builtin .min=>true
  | _=>false
 | _=>false
theorem q50 {i:PV K} {v:V} (h:Rep X sz w i v):∀ k l n,i=.int k l n->v=.int k n:=by
 rintro k l n rfl;cases h;rfl
theorem qql {i:PV K} {n:Nat} {k:Nat->Prop} {v:V} (r:Rep X sz w i v) (h:sel (ql X tbl inv meas) i n k):∃ c j,v=.int c (j:Nat)/\j<n/\k j:=by
 unfold sel at h;split at h
 .rename_i c j x;cases r with | int e=>
  have:=e j rfl;subst this;split at h
  .rename_i b;refine ⟨c,j.toNat,?_,by omega,h⟩;congr 1;omega
  .exact absurd h id
 .rename_i c x;cases r with | int e=>
  obtain ⟨m,h⟩:=h;have o:0<=x/\x<(n:Int):=m;refine ⟨c,x.toNat,by congr 1;omega,by omega,?_⟩;have d:∀ (l:List Nat),(l.foldr (λ(j:Nat) (r:Prop)=>((x=(j:Int))->k j)/\r) True)->∀ j ∈ l,x=(j:Int)->k j:=by
   intro l
   induction l with
   | nil=>intro _ j b;cases b
   | cons a l p=>
    intro f j b g;rcases zD.1 b with rfl | b
    .exact f.1 g
    .exact p f.2 j b g
  exact d (List.range n) h x.toNat (List.mem_range.2 (by omega)) (by omega)
 .exact absurd h id
theorem qeb {c:Nat} {p:PV K} {l:List (K c)} {v:V} (r:Rep X sz w p v) (h:asL (ql X tbl inv meas) c p=some l):Rep X sz w (.list c l none) v:=by
 unfold asL at h;split at h
 .cases r;have e:some []=some l:=h;cases e;exact .nlist trivial
 .rename_i m n own;split at h
  .rename_i d;subst d;cases h;cases r with
   | nlist=>exact .nlist trivial
   | list f g i a j k b d o=>exact .list f g i a j k b d trivial
  .cases h
 .cases h
theorem j3 {c:Nat} {l:List (K c)} {own:Option (Nat×Nat)} {v:V} (r:Rep X sz w (.list c l own) v):(l=[]/\v=.nils)∨
  ∃ nm gn off z cap cs e gen a f ex,v=.slice nm gn off l.length z cap/\w.g nm=some (.row cs e gen a f ex)/\a<=gn/\¬ w.M nm/\off+l.length * sz c<=cs.length/\(0<sz c/\(z=sz c∨(0<z/\l=[]/\cap=some 0)))/\(∀ k,cap=some k->l.length<=k)/\
   (∀ i (h:i<l.length) (j:Nat) (p:PV K),(X.cells c (l[i]'h))[j]? = some p->Rep X sz w p (cs.getD (off+i * sz c+j) je))/\qoi w sz c own (.slice nm gn off l.length z cap):=by
 cases r with
 | nlist=>exact .inl ⟨rfl,rfl⟩
 | list m n o b q s d t u=>
  subst b;exact .inr ⟨_,_,_,_,_,_,_,_,_,_,_,rfl,m,n,o,q,s,d,t,u⟩
theorem qqj {c nm gn off z:Nat} {cap:Option Nat} {l:List (K c)} (a:0<sz c/\(z=sz c∨(0<z/\l=[]/\cap=some 0))):V.qd1 (sz c) (.slice nm gn off l.length z cap)=.slice nm gn off l.length (sz c) cap:=by
 rcases a.2 with rfl | ⟨_,_,rfl⟩
 .exact V.qgz
 .rfl
theorem qz4 (R:Rel X sz C base st fr H w) {x:Option Operand} {n:Option Int} (h:znq (ql X tbl inv meas) C st x=some n):∃ v,qmi fr H x=some v/\(∀ i,n=some i->∃ k,v=some (.int k i))/\(n=none->v=none):=by
 cases x with
 | none=>
  simp only [znq,zS] at h;subst h;exact ⟨none,rfl,(λi hi=>(by cases hi)),λ_=>rfl⟩
 | some x=>
  simp only [znq] at h;split at h
  .rename_i k l m a;simp only [zS] at h;subst h;obtain ⟨v,b,r⟩:=qq R a;have:=q50 r k l m rfl;subst this;exact ⟨_,zin b,(λi hi=>⟨k,(by cases hi;rfl)⟩),λc=>(by cases c)⟩
  .cases h
theorem qa3 {n:Option Int} {v:Option V} {lo hi d:Nat} (a:∀ i,n=some i->∃ k,v=some (.int k i)) (b:n=none->v=none) (c:∀ i,n=some i->(lo:Int)<=i/\i<=hi):qao lo hi v d=some ((n.map Int.toNat).getD d):=by
 cases n with
 | none=>rw [b rfl];rfl
 | some i=>
  obtain ⟨k,rfl⟩:=a i rfl;exact q7w (c i rfl)
theorem ztg {c:Nat} {l:List (K c)} {v:V} {lo hi:Option Int} {f g:Option V} (r:Rep X sz w (.list c l none) v)
  (H:∀ i,lo=some i->∃ k,f=some (.int k i)) (I:lo=none->f=none) (J:∀ i,hi=some i->∃ k,g=some (.int k i)) (L:hi=none->g=none) (y:(qqr l lo hi).1) :
  ∃ u,qfv (sz c) v f g none=some u/\Rep X sz w (.list c (qqr l lo hi).2 none) u:=by
 have S:∃ a b:Nat,a<=b/\b<=l.length/\(lo.map Int.toNat).getD 0=a/\(hi.map Int.toNat).getD l.length=b/\(∀ i,lo=some i->0<=i/\i<=(b:Int))/\(∀ i,hi=some i->0<=i/\i<=(l.length:Int))/\(qqr l lo hi).2=(l.take b).drop a:=by
  cases lo with
  | none=>cases hi with
   | none=>exact ⟨0,l.length,by omega,by omega,rfl,rfl,by simp,by simp,by simp [qqr]⟩
   | some j=>
    have A:0<=j/\j<=(l.length:Int):=y;refine ⟨0,j.toNat,by omega,by omega,rfl,rfl,by simp,?_,by simp [qqr,upto]⟩;intro i hi;cases hi;exact A
  | some i=>cases hi with
   | none=>
    have A:0<=i/\i<=(l.length:Int):=y;refine ⟨i.toNat,l.length,by omega,by omega,rfl,rfl,?_,by simp,by simp [qqr,Go.E3.fr]⟩;intro j T;cases T;omega
   | some j=>
    have A:0<=i/\i<=j/\j<=(l.length:Int):=y;refine ⟨i.toNat,j.toNat,by omega,by omega,rfl,rfl,?_,?_,by simp [qqr,Go.E3.sub]⟩
    .intro m o;cases o;omega
    .intro m o;cases o;omega
 obtain ⟨a,b,U,q,M,B,s,t,W⟩:=S;rw [W];unfold qfv;rcases j3 r with ⟨rfl,rfl⟩ | ⟨nm,gn,off,z,cap,cs,e,gen,C,Y,ex,rfl,Z,hf,hM,N,O,n,hc,ho⟩
 .have D:b=0:=by simpa using q
  subst D;have E:a=0:=by omega
  subst E;have F:qao 0 0 g 0=some 0:=by
   have:=qa3 (lo:=0) (hi:=0) (d:=0) J L (λi hi=>by have:=t i hi;simpa using this);rw [this];simp only [List.length_nil] at B;rw [B]
  have G:qao 0 0 f 0=some 0:=by
   have:=qa3 (lo:=0) (hi:=0) (d:=0) H I (λi hi=>by have:=s i hi;simpa using this);rw [this,M]
  refine ⟨.nils,?_,?_⟩
  .have o:qao 0 0 none 0=some 0:=rfl;simp only [V.qd1,qit,o,zB,F,G];rfl
  .simp only [List.take_nil,List.drop_nil];exact .nlist trivial
 .have a1:l.length<=cap.getD l.length:=by
   cases cap with
   | none=>exact zN _
   | some k=>exact n k rfl
  have F:qao 0 (cap.getD l.length) g l.length=some b:=by
   have:=qa3 (lo:=0) (hi:=cap.getD l.length) (d:=l.length) J L (λi hi=>by have:=t i hi;omega);rw [this,B]
  have G:qao 0 b f 0=some a:=by
   have:=qa3 (lo:=0) (hi:=b) (d:=0) H I (λi hi=>by have:=s i hi;omega);rw [this,M]
  have h:((l.take b).drop a).length=b-a:=by
   rw [List.length_drop,List.length_take];omega
  refine ⟨.slice nm gn (off+a * sz c) (b-a) (sz c) (cap.map (· - a)),?_,?_⟩
  .rw [qqj O];simp only [qit,Nat.beq_refl,Bool.not_true,zQ];rw [F];simp only [zB];rw [G];rfl
  .refine .list Z hf hM h.symm ?_ ⟨O.1,.inl rfl⟩ ?_ ?_ trivial
   .have:a * sz c+(b-a) * sz c=b * sz c:=by rw [<-Nat.add_mul];congr 1;omega
    have:b * sz c<=l.length * sz c:=zU _ q;omega
   .intro k P;cases cap with
    | none=>cases P
    | some Q=>
     cases P;have:=n Q rfl;show b-a<=Q-a;omega
   .intro i hi j p R;have x:a+i<l.length:=by rw [h] at hi;omega
    have he:((l.take b).drop a)[i]'hi=l[a+i]'x:=by
     rw [List.getElem_drop,List.getElem_take]
    rw [he] at R;have:=hc (a+i) x j p R;have e3:off+a * sz c+i * sz c+j=off+(a+i) * sz c+j:=by rw [Nat.add_mul];omega
    rw [e3];exact this
theorem qiy (s:∀ c x,(X.cells c x).length=sz c) (t:w.g=H.get) {c:Nat} {l:List (K c)} {own:Option (Nat×Nat)} {v:V} (r:Rep X sz w (.list c l own) v) (I:0<sz c):∃ cs,k7 H (sz c) v=some (l.length,cs)/\qj X sz w (l.flatMap (X.cells c)) cs:=by
 unfold k7;rcases j3 r with ⟨rfl,rfl⟩ | ⟨nm,gn,off,z,cap,cs,e,gen,i,J,ex,rfl,B,L,Q,d,m,n,C,M⟩
 .exact ⟨[],rfl,.nil⟩
 .rw [qqj m];rw [t] at B;have N:Nat.ble i gn=true:=by rw [Nat.ble_eq];exact L
  have D:Nat.ble (off+l.length * sz c) (off+l.length * sz c)=true:=by rw [Nat.ble_eq];exact zN _
  have E:Nat.ble (off+l.length * sz c) cs.length=true:=by rw [Nat.ble_eq];exact d
  suffices f:qj X sz w (l.flatMap (X.cells c)) ((cs.drop off).take (l.length * sz c)) from
   ⟨_,by simp only [qcm,Nat.beq_refl,zO,jb,B,N,D,E,Bool.and_self,qi5 f.qu0,zH],f⟩
  .have o:(l.flatMap (X.cells c)).length=l.length * sz c:=by
    clear d D E C n r M m
    induction l with
    | nil=>simp
    | cons x l u=>rw [List.flatMap_cons,List.length_append,s,u,List.length_cons,Nat.add_mul];omega
   refine ⟨by rw [o,List.length_take,List.length_drop];omega,λj p b=>?_⟩;have F:=(List.getElem?_eq_some_iff.1 b).1;rw [o] at F;have y:∀ (k:List (K c)) (j:Nat) (p:PV K),(k.flatMap (X.cells c))[j]? = some p->∃ (h:j / sz c<k.length),(X.cells c (k[j / sz c]'h))[j % sz c]? = some p:=by
    intro k
    induction k with
    | nil=>intro j p b;simp at b
    | cons x k u=>
     intro j p b;rw [List.flatMap_cons] at b;by_cases a:j<sz c
     .rw [List.getElem?_append_left (by rw [s];exact a)] at b;have q:j / sz c=0:=Nat.div_eq_of_lt a;refine ⟨by rw [q];simp,?_⟩;simp only [q,List.getElem_cons_zero,Nat.mod_eq_of_lt a];exact b
     .rw [List.getElem?_append_right (by rw [s];omega),s] at b;obtain ⟨G,A⟩:=u _ _ b;have q:j / sz c=(j-sz c) / sz c+1:=by
       rw [<-Nat.sub_add_cancel (Nat.le_of_not_lt a),Nat.add_div_right _ I,Nat.add_sub_cancel]
      have O:j % sz c=(j-sz c) % sz c:=by
       rw [Nat.mod_eq_sub_mod (Nat.le_of_not_lt a)]
      refine ⟨by rw [q,List.length_cons];omega,?_⟩;simp only [q,List.getElem_cons_succ,O];exact A
   obtain ⟨G,A⟩:=y l j p b;have:=C _ G _ p A;have P:off+j / sz c * sz c+j % sz c=off+j:=by
    rw [Nat.mul_comm,Nat.add_assoc,Nat.div_add_mod]
   rw [P] at this;rw [List.getD_eq_getElem?_getD] at this ⊢;rw [List.getElem?_take,zT F,List.getElem?_drop];exact this
theorem Rel.zy7 (ok:CfgOk X sz C) (R:Rel X sz C base st fr H w) {a:StV K} {w':Wd} (b:Near st a) (d:RelH X sz C base a H w') (hle:Le w w'):Rel X sz C base a fr H w':=
 ⟨d,λi p c=>by
  rw [b.tmps] at c;obtain ⟨v,e,g⟩:=R.f i p c;exact ⟨v,e,g.mono ok.len hle⟩,by rw [b.n];exact R.n,R.ds.mono hle⟩
theorem Res.mono {st1:StV K} {w1:Wd} {k:PV K->StV K->Prop} {b:V->Prop} (c:Near st st1) (hle:Le w w1) (h:Res X sz C base H st1 w1 k b):Res X sz C base H st w k b:=by
 obtain ⟨p,a,v,w',d,e,f,g,i,j⟩:=h;exact ⟨p,a,v,w',d,c.trans e,f,hle.trans g,i,j⟩
theorem zip_fst {α β γ:Type}:∀ {l:List α} {a:List β} {b:List γ},a.length=b.length->(l.zip a).map (·.1)=(l.zip b).map (·.1)
 | [],_,_,_=>by simp
 | x::l,[],[],_=>by simp
 | x::l,[],_::_,h=>by simp at h
 | x::l,_::_,[],h=>by simp at h
 | x::l,y::a,z::b,h=>by
  simp only [List.zip_cons_cons,List.map_cons,zip_fst (l:=l) (a:=a) (b:=b) (by simpa using h)]
theorem q7b {α:Type}:∀ {l:List α} {ps:List (PV K)} {a:List V},qj X sz w ps a->qj X sz w ((l.zip ps).map (·.2)) ((l.zip a).map (·.2))
 | [],_,_,_=>by simpa using qj.nil
 | x::l,[],a,h=>by rw [h.ka];simpa using qj.nil
 | x::l,p::ps,a,h=>by
  obtain ⟨v,b,rfl,c,d⟩:=h.zt;simp only [List.zip_cons_cons,List.map_cons];exact .cons c (q7b d)
theorem q49 {E:Env} {ti:TI} {parts:List Nat} {ps:List (PV K)} {c:List V} {k:PV K->StV K->Prop} (R:RelH X sz C base st H w) (r:qj X sz w ps c) (h:zbx (ql X tbl inv meas) E ti parts ps st k) :
  Res X sz C base H st w k λv=>(match ti.under with
   | .struct d=>bif !d.toList.all (λf=>(E.types f.type).isSome) then none else ((qhx (λi=>(d[i]?).bind λf=>(E.types f.type).map λg=>(f.offset,g.size)) ti.zero.cells (parts.zip c)).map V.agg)
   | .array _ e=>(E.types e).bind λj=>((qhx (λi=>some (i * j.size,j.size)) ti.zero.cells (parts.zip c)).map V.agg)
   | _=>none)=some v:=by
 unfold zbx at h;obtain ⟨z,u,h⟩:=qa h;have q:=qiv (X:=X) (sz:=sz) (w:=w) u;have s:∀ {l:List (PV K)} {us:List V},qj X sz w l us->(parts.zip l).map (·.1)=(parts.zip us).map (·.1):=by
  intro l us x;exact zip_fst x.1
 have t:qj X sz w ((parts.zip ps).map (·.2)) ((parts.zip c).map (·.2)):=by
  exact q7b r
 split at h
 .rename_i d m;cases o:d.toList.all (λf=>(E.types f.type).isSome) with
  | false=>rw [o] at h;exact absurd h id
  | true=>
   rw [o] at h;simp only [zO] at h;obtain ⟨cs,p,h⟩:=qa h;obtain ⟨us,a,b⟩:=qln (s r) t q p;refine .here R h (.qt9 b) ?_;simp only [m,o,Bool.not_true,zQ];have:qhx (λi=>(d[i]?).bind λf=>(E.types f.type).map λg=>(f.offset,g.size)) ti.zero.cells (parts.zip c)=some us:=a;rw [this];rfl
 .rename_i n e m;obtain ⟨j,y,h⟩:=qa h;obtain ⟨cs,p,h⟩:=qa h;obtain ⟨us,a,b⟩:=qln (s r) t q p;refine .here R h (.qt9 b) ?_;simp only [m,y,zB,a,zH]
 .exact absurd h id
theorem qp3 {α β:Type} (h:α=β) (l:List α):(h ▸ l:List β)=l.map λx=>(h ▸ x:β):=by
 subst h;simp
theorem qov (ok:CfgOk X sz C):∀ {l:List (K 0)} {cs:List V},qj X sz w (l.flatMap (X.cells 0)) cs->qc8 cs=some (X.u8 ▸ l:List UInt8)
 | [],cs,r=>by
  rw [r.ka,qp3];rfl
 | x::l,cs,r=>by
  rw [List.flatMap_cons,ok.u8,List.singleton_append] at r;obtain ⟨v,d,rfl,r1,b⟩:=r.zt;cases r1;have a:=qov ok b;rw [qp3] at a ⊢;have c:(0:Int)<=(((X.u8 ▸ x:UInt8).toNat:Nat):Int)/\(((X.u8 ▸ x:UInt8).toNat:Nat):Int)<256:=by
   have:=(X.u8 ▸ x:UInt8).toNat_lt;omega
  simp only [qc8,zT c,a,zH,List.map_cons,Int.toNat_natCast,UInt8.ofNat_toNat]
theorem q75 (ok:CfgOk X sz C) (R:RelH X sz C base st H w) {B D:TI} {p:PV K} {v:V} {k:PV K->StV K->Prop} (r:Rep X sz w p v) (h:zli (ql X tbl inv meas) C B D p st k) :
  Res X sz C base H st w k λu=>((∃ F y j n,B.under=.int F/\D.under=.int y/\v=.int j n/\u=.int y (y.wrap n))∨(∃ s,B.under=.string/\D.under=.string/\v=.str s/\u=.str s)∨
   (∃ e a n cs l,B.under=.slice e/\D.under=.string/\(∀ s,v≠.str s)/\C.E.types e=some a/\a.under=.int .u8/\k7 H 1 v=some (n,cs)/\qc8 cs=some l/\u=.str l)∨
   (∃ e a nm off lim i o ex,B.under=.pointer e/\D.under=.unsafePointer/\C.E.types e=some a/\(Nat.blt 0 a.size&&Nat.ble (off+1) lim)=true/\v=.ptr nm 0 off lim/\H.get nm=some (.row i o 0 0 0 ex)/\u=.ptr nm 0 off lim)∨
   (∃ e a G nm off lim i o,B.under=.unsafePointer/\D.under=.pointer e/\C.E.types e=some a/\C.E.types o=some G/\(Nat.blt 0 a.size&&C.E.lies o (i.length / G.size) off e)=true/\v=.ptr nm 0 off lim/\H.get nm=some (.row i o 0 0 0 true)/\u=.ptr nm 0 off lim)):=by
 unfold zli at h;split at h
 .rename_i F y j n x b d;cases r with | int Q=>
  have:=Q n rfl;subst this;exact .here R h (.int λm M=>by cases M;rfl) (.inl ⟨F,y,j,n,b,d,rfl,rfl⟩)
 .rename_i F y j n b d;cases r with | int Q=>
  refine .here R h.2 (.int λm M=>by cases M) (.inl ⟨F,y,j,n,b,d,rfl,?_⟩);rw [qm5 h.1];rfl
 .rename_i s b d;cases r;exact .here R h .str (.inr (.inl ⟨s,b,d,rfl,rfl⟩))
 .rename_i e b d;obtain ⟨c,Y,h⟩:=qa h;cases z:Nat.beq c 0 with
  | false=>rw [z] at h;exact absurd h id
  | true=>
   rw [z] at h;simp only [zO] at h;have:=zE z;subst this;obtain ⟨l,Z,h⟩:=qa h;obtain ⟨a,f,h⟩:=qa h;split at h
   .rename_i hu;have S:=qeb r Z;have hz:=ok.pos e 0 Y;obtain ⟨cs,T,e2⟩:=qiy ok.len R.g S hz;have hs:sz 0=1:=by rw [<-ok.len 0 (X.dflt 0),ok.u8];rfl
    rw [hs] at T;refine .here R h .str (.inr (.inr (.inl ⟨e,a,_,cs,_,b,d,?_,f,hu,T,qov ok e2,rfl⟩)));intro s N;subst N;cases S
   .exact absurd h id
 .rename_i e id off lim b d;obtain ⟨a,f,h⟩:=qa h;obtain ⟨ps,A,h⟩:=qa h;cases q:(Nat.blt 0 a.size&&Nat.ble (off+1) lim) with
  | false=>rw [q] at h;exact h.elim
  | true=>
   rw [q] at h;simp only [zO] at h;cases r with
   | cell hi=>
    obtain ⟨_,_,i,o,ex,O,_⟩:=R.cells _ _ (qfc A);exact .here R h (.cell hi) (.inr (.inr (.inr (.inl ⟨e,a,_,off,lim,i,o,ex,b,d,f,q,rfl,O,rfl⟩))))
 .rename_i e id off lim b d;obtain ⟨a,f,g1⟩:=qa h;obtain ⟨t,ht,U⟩:=qa g1;obtain ⟨ps,A,W⟩:=qa U;obtain ⟨G,P,I⟩:=qa W;clear h g1 U W;cases q:(Nat.blt 0 a.size&&C.E.lies t (ps.length / G.size) off e) with
  | false=>rw [q] at I;exact I.elim
  | true=>
   rw [q] at I;simp only [zO] at I;cases r with
   | cell hi=>
    obtain ⟨_,_,i,o,ex,O,J,hr⟩:=R.cells _ _ (qfc A);rw [ht] at J;obtain ⟨rfl,rfl⟩:=J;have L:ps.length=i.length:=hr.1;rw [L] at q;exact .here R I (.cell hi) (.inr (.inr (.inr (.inr ⟨e,a,G,_,off,lim,i,_,b,d,f,P,q,rfl,O,rfl⟩))))
 .exact absurd h id
end
end Go.E3
/- E3: OPERATIONS ON VALUES ALONE against E2's: the theorem. -/
namespace Go.E3
open Go Go.E2
variable {K:Nat->Type}
section
variable {X:Codecs K} {sz:Nat->Nat} {C:ZC K} {base H:Heap} {st:StV K} {fr:Fr} {w:Wd}
variable {tbl:Tbl K} {inv:Nat->List (NV K)->Prop} {meas:Nat->List (NV K)->Nat}
theorem zd3 {p:PV K} {v:V} {k:Bool->StV K->Prop} (r:Rep X sz w p v) (h:br (ql X tbl inv meas) st p k):∃ b,v=.bool b:=by
 cases r with
 | lit=>exact ⟨_,rfl⟩
 | sb=>exact ⟨_,rfl⟩
 | _=>exact absurd h id
theorem zth {s:List UInt8} {lo hi:Option Int} {c e:Option V}
  (o:∀ i,lo=some i->∃ k,c=some (.int k i)) (p:lo=none->c=none) (q:∀ i,hi=some i->∃ k,e=some (.int k i)) (r:hi=none->e=none) (f:(qqr s lo hi).1) :
  qfv 1 (.str s) c e none=some (.str (qqr s lo hi).2):=by
 have t:∃ a b:Nat,a<=b/\b<=s.length/\(lo.map Int.toNat).getD 0=a/\(hi.map Int.toNat).getD s.length=b/\(∀ i,lo=some i->0<=i/\i<=(b:Int))/\(∀ i,hi=some i->0<=i/\i<=(s.length:Int))/\(qqr s lo hi).2=(s.take b).drop a:=by
  cases lo with
  | none=>cases hi with
   | none=>exact ⟨0,s.length,by omega,by omega,rfl,rfl,by simp,by simp,by simp [qqr]⟩
   | some j=>
    have g:0<=j/\j<=(s.length:Int):=f;refine ⟨0,j.toNat,by omega,by omega,rfl,rfl,by simp,?_,by simp [qqr,upto]⟩;intro i hi;cases hi;exact g
  | some i=>cases hi with
   | none=>
    have g:0<=i/\i<=(s.length:Int):=f;refine ⟨i.toNat,s.length,by omega,by omega,rfl,rfl,?_,by simp,by simp [qqr,Go.E3.fr]⟩;intro j u;cases u;omega
   | some j=>
    have g:0<=i/\i<=j/\j<=(s.length:Int):=f;refine ⟨i.toNat,j.toNat,by omega,by omega,rfl,rfl,?_,?_,by simp [qqr,Go.E3.sub]⟩
    .intro m h;cases h;omega
    .intro m h;cases h;omega
 obtain ⟨a,b,v,w,x,y,l,n,z⟩:=t;rw [z];have A:qao 0 s.length e s.length=some b:=by
  have:=qa3 (lo:=0) (hi:=s.length) (d:=s.length) q r (λi hi=>by have:=n i hi;omega);rw [this,y]
 have B:qao 0 b c 0=some a:=by
  have:=qa3 (lo:=0) (hi:=b) (d:=0) o p (λi hi=>by have:=l i hi;omega);rw [this,x]
 simp only [qfv,V.qd1,qit,A,B,zB,zH]
theorem q3w {fr':Fr} {H':Heap} {x:Option Operand} (h:∀ y,x=some y->opd fr' H' y=opd fr H y):qmi fr' H' x=qmi fr H x:=by
 cases x with
 | none=>rfl
 | some y=>simp only [qmi,h y rfl]
theorem qp5 (ok:CfgOk X sz C) (R:Rel X sz C base st fr H w) {inl:ZI K} {o:Oper} {k:PV K->StV K->Prop} {fr':Fr} {H':Heap} (hp:qfs o.op=true)
  (F:∀ x ∈ o.op.operands.toList,opd fr' H' x=opd fr H x)
  (ag:∀ s d x,o.op=.convert s d x->H'=H∨(∃ p,ju (ql X tbl inv meas) C st x=some p/\((∃ k l n,p=.int k l n)∨∃ s,p=.str s)))
  (h:qcd (ql X tbl inv meas) C inl o st k):Res X sz C base H st w k λv=>kc C.E o fr' H'=some (.val v,H'):=by
 cases B:o.op with
 | move x=>
  simp only [qcd,B] at h;obtain ⟨p,L,A⟩:=qa h;clear h;have h:=A;clear A;obtain ⟨v,e,r⟩:=qq R L;have G:=(F x (by simp [B,Op.operands])).trans e;exact .here R.h h r (by simp only [kc,B,G,zH])
 | assign x=>
  simp only [qcd,B] at h;obtain ⟨p,L,A⟩:=qa h;clear h;have h:=A;clear A;obtain ⟨v,e,r⟩:=qq R L;have G:=(F x (by simp [B,Op.operands])).trans e;exact .here R.h h r (by simp only [kc,B,G,zH])
 | pick c a b=>
  simp only [qcd,B] at h;obtain ⟨p,L,A⟩:=qa h;clear h;have h:=A;clear A;obtain ⟨v,e,r⟩:=qq R L;obtain ⟨t,rfl⟩:=zd3 r h;obtain ⟨az,h,hn,aP,R'⟩:=qx8 R.h r h;obtain ⟨q,h2,A⟩:=qa h;clear h;have h:=A;clear A;obtain ⟨u,Y,r2⟩:=qq (R.zy7 ok hn R' (.refl w)) h2;have G:=(F c (by simp [B,Op.operands])).trans e;have e3:opd fr' H' (if t then a else b)=some u:=by
   rw [<-Y];cases t
   .exact F b (by simp [B,Op.operands])
   .exact F a (by simp [B,Op.operands])
  refine ⟨q,az,u,w,h,hn,R',.refl w,r2,?_⟩;simp only [kc,B,G,e3,zH]
 | build t parts=>
  simp only [qcd,B] at h;obtain ⟨ti,D,A⟩:=qa h;clear h;have h:=A;clear A;obtain ⟨ps,L,A⟩:=qa h;clear h;have h:=A;clear A;obtain ⟨vs,e,r⟩:=qdq R L;have G:qcy fr' H' (parts.toList.map (·.2))=some vs:=by
   rw [qgx λx hx=>F x ?_]
   .exact e
   .simpa [B,Op.operands] using hx
  refine (q49 R.h r h).pass λv hv=>?_;simp only [kc,B,D,zB,G];split at hv
  .rename_i fs J;simp only [J];cases hf:(!fs.toList.all λf=>(C.E.types f.type).isSome) with
   | true=>rw [hf] at hv;cases hv
   | false=>
    rw [hf] at hv;simp only [zQ] at hv ⊢;rw [hv];rfl
  .rename_i n e' J;simp only [J];obtain ⟨ei,h2,h3⟩:=zI.1 hv;simp only [h2,zB];rw [h3];rfl
  .cases hv
 | nilCheck x=>
  simp only [qcd,B] at h;obtain ⟨p,L,A⟩:=qa h;clear h;have h:=A;clear A;obtain ⟨v,e,r⟩:=qq R L;have G:=(F x (by simp [B,Op.operands])).trans e;split at h
  .cases r with
   | cell hi=>exact .here R.h h (.cell hi) (by simp only [kc,B,G])
  .have r0:=r;cases r;exact .here R.h h r0 (by simp only [kc,B,G])
  .have r0:=r;cases r;exact .here R.h h r0 (by simp only [kc,B,G])
  .have r0:=r;cases r;exact .here R.h h r0 (by simp only [kc,B,G])
  .have r0:=r;cases r;exact .here R.h h r0 (by simp only [kc,B,G])
  .exact absurd h id
 | binOp op t x y u=>
  simp only [qcd,B] at h;obtain ⟨p,L,A⟩:=qa h;clear h;have h:=A;clear A;obtain ⟨q,h2,A⟩:=qa h;clear h;have h:=A;clear A;obtain ⟨a,O,I⟩:=qq R L;obtain ⟨b,eb,rb⟩:=qq R h2;have G:=(F x (by simp [B,Op.operands])).trans O;have Y:=(F y (by simp [B,Op.operands])).trans eb;refine (zbu ok R.h I rb h).pass λv hv=>?_;obtain ⟨hv,hn⟩:=hv;simp only [kc,B,G,Y,zB];split
  .exact absurd ⟨rfl,rfl⟩ hn
  .rw [hv];rfl
 | unOp op t x=>
  simp only [qcd,B] at h;obtain ⟨p,L,A⟩:=qa h;clear h;have h:=A;clear A;obtain ⟨a,O,I⟩:=qq R L;have G:=(F x (by simp [B,Op.operands])).trans O;refine (zjr R.h I h).pass λv hv=>?_;simp only [kc,B,G,zB,hv,zH]
 | convert s d x=>
  simp only [qcd,B] at h;obtain ⟨si,aA,A⟩:=qa h;clear h;have h:=A;clear A;obtain ⟨di,aB,A⟩:=qa h;clear h;have h:=A;clear A;obtain ⟨p,L,A⟩:=qa h;clear h;have h:=A;clear A;obtain ⟨a,O,I⟩:=qq R L;have G:=(F x (by simp [B,Op.operands])).trans O;refine (q75 ok R.h I h).pass λv hv=>?_;simp only [kc,B,aA,aB,G,zB];rcases hv with ⟨k0,kd,j,n,u1,u2,rfl,rfl⟩ | ⟨s',u1,u2,rfl,rfl⟩ | ⟨e,ei,n,cs,l,u1,u2,an,he,aC,ao,aD,rfl⟩ | ⟨e,ei,nm,off,lim,vs,el,ex,u1,u2,M,hb,rfl,hg,rfl⟩ | ⟨e,ei,li,nm,off,lim,vs,el,u1,u2,M,aE,hb,rfl,hg,rfl⟩
  .simp only [u1,u2]
  .simp only [u1,u2]
  .have aq:k7 H' 1 a=some (n,cs):=by
    rcases ag s d x B with P | ⟨q,hq,Q⟩
    .rw [P];exact ao
    .rw [L] at hq;cases hq;rcases Q with ⟨k,l',m,rfl⟩ | ⟨s',rfl⟩
     .cases I;simp [k7,V.qd1,qcm] at ao
     .cases I;exact absurd rfl (an _)
   simp only [u1,u2];cases a with
   | str s'=>exact absurd rfl (an s')
   | _=>simp only [he,zB,aC,aq,aD,zH]
  .have ah:H'=H:=by
    rcases ag s d x B with P | ⟨q,hq,Q⟩
    .exact P
    .rw [L] at hq;cases hq;rcases Q with ⟨k',l',n',rfl⟩ | ⟨s',rfl⟩<;>cases I
   subst ah;simp only [zA] at hb;simp only [u1,u2,M,zB,hg,hb.1,hb.2,show Nat.ble 0 0=true from rfl,Bool.and_self,zO]
  .have ah:H'=H:=by
    rcases ag s d x B with P | ⟨q,hq,Q⟩
    .exact P
    .rw [L] at hq;cases hq;rcases Q with ⟨k',l',n',rfl⟩ | ⟨s',rfl⟩<;>cases I
   subst ah;simp only [zA] at hb;simp only [u1,u2,M,aE,zB,hg,hb.1,hb.2,show Nat.ble 0 0=true from rfl,Bool.and_self,zO]
 | makeInterface t x=>
  simp only [qcd,B] at h;obtain ⟨ti,D,A⟩:=qa h;clear h;have h:=A;clear A;obtain ⟨p,L,A⟩:=qa h;clear h;have h:=A;clear A;obtain ⟨a,O,I⟩:=qq R L;have G:=(F x (by simp [B,Op.operands])).trans O;split at h
  .exact absurd h id
  .rename_i aF;refine .here R.h h (.iface I) ?_;simp only [kc,B,D,zB];rw [G]
   first
    | rfl
    | (split
       .rename_i u J;exact absurd J (aF _)
       .rfl)
 | makeFunc fn first a6=>
  cases fn with
  | func f=>
   simp only [qcd,B] at h;obtain ⟨a,L,A⟩:=qa h;clear h;have h:=A;clear A;obtain ⟨c,h2,A⟩:=qa h;clear h;have h:=A;clear A;obtain ⟨va,O,I⟩:=qdq R L;obtain ⟨vc,ec,rc⟩:=qdq R h2;have G:qcy fr' H' first.toList=some va:=by
    rw [qgx λx hx=>F x ?_]
    .exact O
    .simp [B,Op.operands,hx]
   have Y:qcy fr' H' a6.toList=some vc:=by
    rw [qgx λx hx=>F x ?_]
    .exact ec
    .simp [B,Op.operands,hx]
   refine .here R.h h (.func I.1 rc.1 I.2 rc.2) ?_;simp only [kc,B,G,Y,zB,zH]
  | _=>simp only [qcd,B] at h;exact absurd h id
 | slice t x lo hi mx=>
  cases mx with
  | some m=>simp only [qcd,B] at h;exact absurd h id
  | none=>
   simp only [qcd,B] at h;obtain ⟨ti,D,A⟩:=qa h;clear h;have h:=A;clear A;obtain ⟨p,L,A⟩:=qa h;clear h;have h:=A;clear A;obtain ⟨aQ,h2,A⟩:=qa h;clear h;have h:=A;clear A;obtain ⟨aR,h3,A⟩:=qa h;clear h;have h:=A;clear A;obtain ⟨a,O,I⟩:=qq R L;obtain ⟨aG,aH,l1,l2⟩:=qz4 R h2;obtain ⟨aI,aJ,r1,r2⟩:=qz4 R h3;have G:=(F x (by simp [B,Op.operands])).trans O;have Y:qmi fr' H' lo=some aG:=by
    rw [q3w λy hy=>F y ?_]
    .exact aH
    .subst hy;simp [B,Op.operands]
   have e3:qmi fr' H' hi=some aI:=by
    rw [q3w λy hy=>F y ?_]
    .exact aJ
    .subst hy;simp [B,Op.operands]
   unfold zo2 at h;split at h
   .rename_i s J;cases I;refine .here R.h h.2 .str ?_;have:=zth l1 l2 r1 r2 h.1;simp only [kc,B,D,G,Y,e3,zB,J,this,zH];rfl
   .rename_i e J;obtain ⟨c,hc,A⟩:=qa h;clear h;have h:=A;clear A;obtain ⟨ei,M,A⟩:=qa h;clear h;have h:=A;clear A;obtain ⟨l,hl,A⟩:=qa h;clear h;have h:=A;clear A;have rl:=qeb I hl;obtain ⟨u,ar,aK⟩:=ztg rl l1 l2 r1 r2 h.1;refine .here R.h h.2 aK ?_;have ad:=ok.size e c ei hc M;rw [<-ad] at ar;simp only [kc,B,D,G,Y,e3,zB,J];cases a with
    | str s=>cases rl
    | _=>simp only [M,zB,ar,zH]
   .exact absurd h id
 | fieldAddr s x j=>
  simp only [qcd,B] at h;obtain ⟨ti,D,A⟩:=qa h;clear h;have h:=A;clear A;obtain ⟨f,hf,A⟩:=qa h;clear h;have h:=A;clear A;obtain ⟨fi,a8,A⟩:=qa h;clear h;have h:=A;clear A;cases hz:Nat.beq fi.size 0 with
  | true=>rw [hz] at h;exact absurd h id
  | false=>
   rw [hz] at h;simp only [zQ] at h;obtain ⟨p,L,A⟩:=qa h;clear h;have h:=A;clear A;obtain ⟨a,O,I⟩:=qq R L;have G:=(F x (by simp [B,Op.operands])).trans O;split at h
   .cases I with
    | cell hi=>exact .here R.h h (.cell hi) (by simp only [kc,B,D,hf,a8,zB,hz,zQ,G])
   .cases I with
    | @eptr ps off nm gn d lim cs e gen U ae ex hg aa hM q1 q2 hc=>
     refine .here R.h h (.eptr hg aa hM q1 q2 hc) ?_;simp only [kc,B,D,hf,a8,zB,hz,zQ,G,Nat.add_assoc]
   .cases I with
    | @mptr id c i n off g _ _ _ _ _ _ hi af h0 q1 q2 q3=>
     cases ai:Nat.beq f.offset 0 with
     | false=>rw [ai] at h;exact absurd h id
     | true=>
      rw [ai] at h;refine .here R.h h (.mptr (g:=g) hi af h0 q1 q2 q3) ?_;simp only [kc,B,D,hf,a8,zB,hz,zQ,G,zE ai,Nat.add_zero]
   .exact absurd h id
 | field t x j=>
  simp only [qcd,B] at h;obtain ⟨ti,D,A⟩:=qa h;clear h;have h:=A;clear A;obtain ⟨f,hf,A⟩:=qa h;clear h;have h:=A;clear A;obtain ⟨fi,a8,A⟩:=qa h;clear h;have h:=A;clear A;obtain ⟨p,L,A⟩:=qa h;clear h;have h:=A;clear A;obtain ⟨a,O,I⟩:=qq R L;have G:=(F x (by simp [B,Op.operands])).trans O;split at h
  .obtain ⟨vs,rfl,rl⟩:=I.qf4;obtain ⟨q,hq,A⟩:=qa h;clear h;have h:=A;clear A;obtain ⟨u,J,ru⟩:=qwc rl hq;exact .here R.h h ru (by simp only [kc,B,D,hf,a8,G,zB,J,zH])
  .exact absurd h id
 | indexAddr t x i=>
  simp only [qcd,B] at h;obtain ⟨ti,D,A⟩:=qa h;clear h;have h:=A;clear A;obtain ⟨p,L,A⟩:=qa h;clear h;have h:=A;clear A;obtain ⟨q,h2,A⟩:=qa h;clear h;have h:=A;clear A;obtain ⟨a,O,I⟩:=qq R L;obtain ⟨b,eb,rb⟩:=qq R h2;have G:=(F x (by simp [B,Op.operands])).trans O;have Y:=(F i (by simp [B,Op.operands])).trans eb;unfold ze7 at h;split at h
  .rename_i e J;split at h
   .rename_i es m _ aS;obtain ⟨ei,M,A⟩:=qa h;clear h;have h:=A;clear A;cases hz:Nat.beq ei.size es with
    | false=>rw [hz] at h;exact h.elim
    | true=>
     rw [hz] at h;simp only [zO] at h;have:=zE hz;subst this;obtain ⟨kd,j,rfl,hj,h⟩:=qql rb h;cases I with
     | @plist _ _ _ _ nm gn d cs e' gen U ae ex hg hf hM h0 q1 q2 hc=>
      refine .here R.h h (.eptr (off:=j * ei.size) (d:=d) (lim:=d+m * ei.size) hg hf hM (by omega) (by omega) hc) ?_;have S:Nat.beq ei.size ei.size=true/\(0:Int)<=(j:Int)/\(j:Int)<(m:Int):=⟨Nat.beq_refl _,by omega,by omega⟩;simp only [kc,B,D,G,Y,J,M,zB,qgf,zT S,zH,Int.toNat_natCast]
   .obtain ⟨c,hc,A⟩:=qa h;clear h;have h:=A;clear A;obtain ⟨ei,M,A⟩:=qa h;clear h;have h:=A;clear A;have ad:=ok.size e c ei hc M;split at h
    .rename_i kd lt n;have hb:=q50 rb kd lt n rfl;subst hb;split at h
     .rename_i id c' fx m _;cases aj:Nat.beq c c' with
      | false=>
       rw [aj] at h;exact h.elim
      | true=>
       rw [aj] at h;simp only [zO] at h;have:=zE aj;subst this;obtain ⟨hw,h⟩:=h;have a7:n=m:=hw;subst a7;cases I with
       | @mlist _ _ _ _ g _ _ _ _ _ _ hi af h0 aL q1 q2 q3=>
        refine .here R.h h (.mptr (g:=g) hi af h0 q1 q2 q3) ?_;have S:Nat.beq 1 1=true/\0<=n/\n<((n.toNat+1:Nat):Int):=⟨rfl,by omega⟩;simp only [kc,B,D,G,Y,J,M,zB,qgf,ad,aL,Nat.zero_add,Nat.mul_one];rw [zT S];rfl
     obtain ⟨l,hl,A⟩:=qa h;clear h;have h:=A;clear A;have rl:=qeb I hl;obtain ⟨hw,h⟩:=h;have a7:0<=n/\n<(l.length:Int):=hw;rcases j3 rl with ⟨rfl,rfl⟩ | ⟨nm,gn,off,z,cap,cs,e',gen,U,ae,ex,rfl,hg,aa,hM,au,hz,aO,a1,_⟩
     .simp at a7;omega
     .have hi:n.toNat<l.length:=by omega
      obtain rfl:z=sz c:=by
       rcases hz.2 with h | ⟨_,rfl,_⟩
       .exact h
       .simp at hi
      have he:l.getD n.toNat (X.dflt c)=l[n.toNat]'hi:=by rw [List.getD_eq_getElem?_getD,List.getElem?_eq_getElem hi];rfl
      have av:(n.toNat+1) * sz c<=l.length * sz c:=zU _ (by omega);rw [Nat.add_mul,Nat.one_mul] at av;refine .here R.h h (v:=.ptr nm gn (off+n.toNat * sz c+0) (off+l.length * sz c)) (.eptr hg aa hM ?_ au ?_) ?_
      .show off+n.toNat * sz c+(X.cells c (l.getD n.toNat (X.dflt c))).length<=_;rw [ok.len];omega
      .intro j p hp;have aw:(X.cells c (l.getD n.toNat (X.dflt c)))[j]? = some p:=hp;rw [he] at aw;exact a1 _ hi j p aw
      .have S:Nat.beq ei.size (sz c)=true/\0<=n/\n<(l.length:Int):=⟨by rw [ad,Nat.beq_refl],a7⟩;simp only [kc,B,D,G,Y,J,M,zB,qgf,zT S,zH,Nat.add_zero]
    .exact absurd h id
  .rename_i m e J;obtain ⟨ei,M,A⟩:=qa h;clear h;have h:=A;clear A;split at h
   .obtain ⟨kd,j,rfl,hj,h⟩:=qql rb h;cases I with
    | cell hi=>
     refine .here R.h h (.cell hi) ?_;have S:(0:Int)<=(j:Int)/\(j:Int)<(m:Int):=by omega
     simp only [kc,B,D,G,Y,J,M,zB,zT S,Int.toNat_natCast]
   .obtain ⟨kd,j,rfl,hj,h⟩:=qql rb h;cases I with
    | @eptr ps off nm gn d lim cs e' gen U ae ex hg aa hM q1 q2 a1=>
     refine .here R.h h (.eptr hg aa hM q1 q2 a1) ?_;have S:(0:Int)<=(j:Int)/\(j:Int)<(m:Int):=by omega
     simp only [kc,B,D,G,Y,J,M,zB,zT S,Int.toNat_natCast,Nat.add_assoc]
   .exact absurd h id
  .exact absurd h id
 | index t x i=>
  simp only [qcd,B] at h;obtain ⟨ti,D,A⟩:=qa h;clear h;have h:=A;clear A;obtain ⟨p,L,A⟩:=qa h;clear h;have h:=A;clear A;obtain ⟨q,h2,A⟩:=qa h;clear h;have h:=A;clear A;obtain ⟨a,O,I⟩:=qq R L;obtain ⟨b,eb,rb⟩:=qq R h2;have G:=(F x (by simp [B,Op.operands])).trans O;have Y:=(F i (by simp [B,Op.operands])).trans eb;unfold ixP at h;split at h
  .rename_i J;split at h
   .rename_i s kd lt n;have hb:=q50 rb kd lt n rfl;subst hb;cases I;obtain ⟨hw,h⟩:=h;have a7:0<=n/\n<(s.length:Int):=hw;refine .here R.h h (.int λm Z=>by cases Z) ?_;have hi:n.toNat<s.length:=by omega
    simp only [kc,B,D,G,Y,J,zB,zT a7.1,List.getElem?_eq_getElem hi,zH];have:(ql X tbl inv meas).sget s n=((s[n.toNat]'hi).toNat:Int):=by
     show bx s n=_;unfold bx;rw [List.getD_eq_getElem?_getD,List.getElem?_eq_getElem hi];rfl
    rw [this]
   .exact absurd h id
  .rename_i m e J;split at h
   .obtain ⟨vs,rfl,rl⟩:=I.qf4;obtain ⟨ei,M,A⟩:=qa h;clear h;have h:=A;clear A;obtain ⟨kd,j,rfl,hj,h⟩:=qql rb h;obtain ⟨q,hq,A⟩:=qa h;clear h;have h:=A;clear A;obtain ⟨u,aM,ru⟩:=qwc rl hq;have S:(0:Int)<=(j:Int)/\(j:Int)<(m:Int):=by omega
    exact .here R.h h ru (by simp only [kc,B,D,G,Y,J,M,zB,zT S,Int.toNat_natCast,aM,zH])
   .exact absurd h id
  .exact absurd h id
 | extract x i=>
  simp only [qcd,B] at h;obtain ⟨p,L,A⟩:=qa h;clear h;have h:=A;clear A;obtain ⟨a,O,I⟩:=qq R L;have G:=(F x (by simp [B,Op.operands])).trans O;split at h
  .obtain ⟨vs,rfl,rl⟩:=I.qil;obtain ⟨q,hq,A⟩:=qa h;clear h;have h:=A;clear A;obtain ⟨u,J,ru⟩:=rl.get hq;exact .here R.h h ru (by simp only [kc,B,G,zB,J,zH])
  .exact absurd h id
 | call c=>
  simp only [qcd,B] at h;obtain ⟨ps,L,A⟩:=qa h;clear h;have h:=A;clear A;obtain ⟨vs,O,I⟩:=qdq R L;have G:qcy fr' H' c.args.toList=some vs:=by
   rw [qgx λx hx=>F x ?_]
   .exact O
   .simp only [B,Op.operands,Call.operands,Array.toList_append,List.mem_append];exact .inr hx
  simp only [qfs,B] at hp;split at hp
  .rename_i N;simp only [N] at h;simp only [kc,B,G,N,zB];unfold qks at h;split at h
   .rename_i x t hb T;obtain ⟨a,ax,rfl,W,ab⟩:=I.zt;have:=ab.ka;subst this;split at h
    .rename_i ti D;split at h
     .rename_i n e' p' J;refine .here R.h h (.int λm Z=>by cases Z;rfl) ?_;simp only [jj,T,D,zB,J];rfl
     .rename_i s J;cases W;refine .here R.h h (.int λm Z=>by cases Z) ?_;simp only [jj,T,D,zB,J];rfl
     .rename_i e' J;cases W;refine .here R.h h (.int λm Z=>by cases Z;rfl) ?_;simp only [jj,T,D,zB,J];rfl
     .rename_i e' c' l own J;refine .here R.h h (v:=qh7 l.length) (.int λm Z=>by cases Z) ?_;rcases j3 W with ⟨rfl,rfl⟩ | ⟨nm,gn,off,z,cap,cs,Y,gen,U,ae,ex,rfl,_⟩
      .simp only [jj,T,D,zB,J];rfl
      .simp only [jj,T,D,zB,J]
     .rename_i e' aT c' aN n' J;cases W with
      | mlist hi af h0=>
       obtain ⟨_,h⟩:=(show _/\k (.int .i64 none (n'+1)) st from h);refine .here R.h h (v:=qh7 (n'.toNat+1)) ?_ ?_
       .have:((n'.toNat+1:Nat):Int)=n'+1:=by omega
        show Rep X sz w _ (.int .i64 ((n'.toNat+1:Nat):Int));rw [this];exact .int λm Z=>by cases Z
       .simp only [jj,T,D,zB,J]
     .rename_i e' aU n' aN aV J;cases W with
      | plist=>
       refine .here R.h h (v:=qh7 n') (.int λm Z=>by cases Z;rfl) ?_;simp only [jj,T,D,zB,J]
     .exact absurd h id
    .exact absurd h id
   all_goals first
    | contradiction
    | (exact absurd h id)
  .rename_i N;simp only [N] at h;simp only [kc,B,G,N,zB];unfold qks at h;split at h
   all_goals first
    | contradiction
    | (exact absurd h id)
    | (obtain ⟨x,ax,rfl,W,ab⟩:=I.zt
       obtain ⟨y,ay,rfl,ak,al⟩:=ab.zt;have:=al.ka;subst this;cases W;cases ak;exact .here R.h h (.int λm Z=>by cases Z) rfl)
  .rename_i N;simp only [N] at h;simp only [kc,B,G,N,zB];unfold qks at h;split at h
   all_goals first
    | contradiction
    | (exact absurd h id)
    | (obtain ⟨x,ax,rfl,W,ab⟩:=I.zt
       obtain ⟨y,ay,rfl,ak,al⟩:=ab.zt;have:=al.ka;subst this;cases W;cases ak;exact .here R.h h (.int λm Z=>by cases Z) rfl)
  .cases hp
 | _=>simp [qfs,B] at hp
end
end Go.E3
/- E3: OPERATIONS ON MEMORY against E2's. -/
namespace Go.E3
open Go Go.E2
variable {K:Nat->Type}
theorem qec {α:Type}:∀ {l:List (Nat×α)} {n:Nat} {a:α} {j:Nat},look (qg4 l n a) j=if j=n then some a else look l j
 | [],n,a,j=>by
  simp only [qg4,look,cond_eq_ite,Nat.beq_eq];by_cases h:n=j
  .subst h;simp
  .rw [zF h,zF (Ne.symm h)]
 | (i,b)::l,n,a,j=>by
  simp only [qg4,cond_eq_ite,Nat.beq_eq];by_cases hi:i=n
  .subst hi;rw [zT rfl];simp only [look,cond_eq_ite,Nat.beq_eq];by_cases c:i=j
   .subst c;simp
   .rw [zF c,zF (Ne.symm c),zF c]
  .rw [zF hi];simp only [look,cond_eq_ite,Nat.beq_eq];by_cases c:i=j
   .subst c;rw [zT rfl,zF hi,zT rfl]
   .rw [zF c,zF c,qec]
theorem qa7 {α:Type} {l:List (Nat×α)} {n:Nat} {a:α} {j:Nat}:look ((n,a)::l) j=if j=n then some a else look l j:=by
 simp only [look,cond_eq_ite,Nat.beq_eq];by_cases h:n=j
 .subst h;simp
 .rw [zF h,zF (Ne.symm h)]
section
variable {X:Codecs K} {sz:Nat->Nat} {C:ZC K} {base H:Heap} {st:StV K} {fr:Fr} {w:Wd}
variable {tbl:Tbl K} {inv:Nat->List (NV K)->Prop} {meas:Nat->List (NV K)->Nat}
theorem Le.ext {m:Nat} {nu':Nat->Bool} (hm:w.n<=m) (a:∀ id,id<w.n->nu' id=w.nu id):Le w {w with n:=m,nu:=nu'}:=
 ⟨⟨hm,λnm cs e gen b c ex h f=>⟨f,[],gen,c,ex,by rw [zJ];exact h⟩,λ_ _=>rfl,a,λ_ _ h=>h,
  λ_ _ _ _ h d=>by rw [h] at d;cases d;exact zN _,λ_ _ _ _ _=>⟨rfl,λ_ _ _=>rfl⟩,rfl,λ_ _=>.rfl,zN _,rfl,λ_ _ h=>h,λ_ _=>rfl,qni λ_ _ _=>rfl⟩,λ_ h=>h,rfl⟩
theorem q8u {neg b:Bool} {a c:Prop} {ps:List (PV K)} {n:Nat}:qbk (.sb 0 neg b a c::ps) n=(.sb n neg b a c::(qbk ps (n+1)).1,(qbk ps (n+1)).2):=by
 simp only [qbk]
theorem q5q {p:PV K} {ps:List (PV K)} {n:Nat} (h:∀ neg b a c,p≠.sb 0 neg b a c):qbk (p::ps) n=(p::(qbk ps n).1,(qbk ps n).2):=by
 cases p with
 | sb id neg b a c=>
  cases id with
  | zero=>exact absurd rfl (h _ _ _ _)
  | succ m=>simp only [qbk]
 | _=>simp only [qbk]
theorem qhc (d:∀ c x,(X.cells c x).length=sz c):∀ {ps:List (PV K)} {e:List V} {w:Wd},qj X sz w ps e->1<=w.n->
  ∃ nu',(∀ id,id<w.n->nu' id=w.nu id)/\w.n<=(qbk ps w.n).2/\qj X sz {w with n:=(qbk ps w.n).2,nu:=nu'} (qbk ps w.n).1 e
 | [],e,w,r,j=>⟨w.nu,λ_ _=>rfl,zN _,by simp only [qbk];exact r⟩
 | p::ps,e,w,r,j=>by
  obtain ⟨v,m,rfl,r1,k⟩:=r.zt;by_cases l:∃ neg b g h,p=.sb 0 neg b g h
  .obtain ⟨neg,b,g,h,rfl⟩:=l;cases r1 with | sb o q t=>
   have i:Le w {w with n:=w.n+1,nu:=λid=>if id=w.n then (b != neg) else w.nu id}:=Le.ext (Nat.le_succ _) (λid hi=>by rw [zF (by omega)]);obtain ⟨nu',g1,a,f⟩:=qhc d (k.mono d i) (by show 1<=w.n+1;omega);simp only at g1 a f;rw [q8u];refine ⟨nu',λid hi=>?_,zR (Nat.le_succ _) a,.cons (.sb o q λu=>⟨a,?_⟩) f⟩
   .rw [g1 id (by omega),zF (by omega)]
   .show b=(nu' w.n != neg);rw [g1 w.n (by omega),zT rfl];cases b<;>cases neg<;>rfl
  .obtain ⟨nu',g1,a,f⟩:=qhc d k j;rw [q5q (by intro neg b g h s;exact l ⟨_,_,_,_,s⟩)];exact ⟨nu',g1,a,.cons (r1.mono d (Le.ext a g1)) f⟩
theorem qjt (ok:CfgOk X sz C) (R:RelH X sz C base st H w) {p:PV K} {v:V} (r:Rep X sz w p v):∃ w',Near st (qeg p st).2/\RelH X sz C base (qeg p st).2 H w'/\Le w w'/\Rep X sz w' (qeg p st).1 v:=by
 unfold qeg;split
 .rename_i neg b j k;cases r with | sb g h l=>
  obtain ⟨a,c⟩:=R.ext ok (m:=st.next+1) (nu':=λid=>if id=st.next then (b != neg) else w.nu id) (Nat.le_succ _) (λid hi=>by rw [zF (by omega)]);refine ⟨_,⟨rfl,rfl,rfl,rfl⟩,c,a,.sb g h λo=>⟨Nat.lt_succ_self _,?_⟩⟩;show b=((if st.next=st.next then (b != neg) else w.nu st.next) != neg);rw [zT rfl];cases b<;>cases neg<;>rfl
 .rename_i cs;obtain ⟨i,rfl,f⟩:=r.qf4;obtain ⟨nu',g1,d,e⟩:=qhc ok.len f (by rw [R.n];exact R.one);rw [R.n] at g1 d e;obtain ⟨a,c⟩:=R.ext ok d g1;exact ⟨_,⟨rfl,rfl,rfl,rfl⟩,c,a,.qt9 e⟩
 .rename_i cs;obtain ⟨i,rfl,f⟩:=r.qil;obtain ⟨nu',g1,d,e⟩:=qhc ok.len f (by rw [R.n];exact R.one);rw [R.n] at g1 d e;obtain ⟨a,c⟩:=R.ext ok d g1;exact ⟨_,⟨rfl,rfl,rfl,rfl⟩,c,a,.tuple' e⟩
 .exact ⟨w,.refl st,R,.refl w,r⟩
theorem qrh {ti:TI} {H':Heap} {nm gn off lim:Nat} {cs:List V} {e:TypeId} {gen floor k:Nat} {ex:Bool} {ps:List (PV K)} {d:Nat} {q:PV K}
  (m:H'.get nm=some (.row cs e gen floor k ex)) (n:floor<=gn) (C:d+ps.length<=lim) (o:lim<=cs.length) (r:∀ (j:Nat) (p:PV K),ps[j]? = some p->Rep X sz w p (cs.getD (d+j) je))
  (D:off+ti.size<=ps.length) (b:(bif ti.isAgg then some (.agg ((ps.drop off).take ti.size)) else bif Nat.beq ti.size 1 then ps[off]? else none)=some q) :
  ∃ v,qjk H' ti (.ptr nm gn (d+off) lim)=some v/\Rep X sz w q v:=by
 have s:Nat.ble floor gn=true:=by rw [Nat.ble_eq];exact n
 have t:Nat.ble (d+off+ti.size) lim=true:=by rw [Nat.ble_eq];omega
 have u:Nat.ble lim cs.length=true:=by rw [Nat.ble_eq];exact o
 have a:qj X sz w ((ps.drop off).take ti.size) ((cs.drop (d+off)).take ti.size):=by
  refine ⟨by rw [List.length_take,List.length_drop,List.length_take,List.length_drop];omega,λj p f=>?_⟩;rw [List.getElem?_take] at f;split at f
  .rename_i x;rw [List.getElem?_drop] at f;have:=r _ p f;rw [List.getD_eq_getElem?_getD] at this ⊢;rw [List.getElem?_take,zT x,List.getElem?_drop,Nat.add_assoc];exact this
  .cases f
 have c:jb H' ti.size (.ptr nm gn (d+off) lim)=some ((cs.drop (d+off)).take ti.size):=by
  simp only [jb,m,s,t,u,Bool.and_self,zO,qi5 a.qu0]
 cases i:ti.isAgg with
 | true=>
  rw [i] at b;simp only [zO,zS] at b;subst b;exact ⟨_,by simp only [qjk,c,zB,i,zO],.qt9 a⟩
 | false=>
  rw [i] at b;simp only [zQ] at b;cases l:Nat.beq ti.size 1 with
  | false=>rw [l] at b;cases b
  | true=>
   rw [l] at b;simp only [zO] at b;have g:=zE l;rw [g] at a c;have h:off<ps.length:=by omega
   have y:(ps.drop off).take 1=[q]:=by
    rw [List.drop_eq_getElem_cons h];rw [List.getElem?_eq_getElem h] at b;cases b;rfl
   rw [y] at a;obtain ⟨v,z,A,r1,B⟩:=a.zt;have:=B.ka;subst this;refine ⟨v,?_,r1⟩;simp only [qjk,g,c,zB,i,zQ,A]
theorem q8r (b:∀ c x,(X.cells c x).length=sz c) {c:Nat}:∀ {l:List (K c)} {i:Nat} (h:i<l.length) {j:Nat} {p:PV K},(X.cells c (l[i]'h))[j]? = some p->(l.flatMap (X.cells c))[i * sz c+j]? = some p
 | [],i,h,_,_,_=>by simp at h
 | x::l,0,h,j,p,a=>by
  simp only [List.getElem_cons_zero] at a;rw [List.flatMap_cons,Nat.zero_mul,Nat.zero_add,List.getElem?_append_left (List.getElem?_eq_some_iff.1 a).1];exact a
 | x::l,i+1,h,j,p,a=>by
  simp only [List.getElem_cons_succ] at a;have d:=q8r b (l:=l) (i:=i) (by simpa using h) a;rw [List.flatMap_cons,List.getElem?_append_right (by rw [b,Nat.add_mul,Nat.one_mul];omega),b];have:(i+1) * sz c+j-sz c=i * sz c+j:=by rw [Nat.add_mul,Nat.one_mul];omega
  rw [this];exact d
theorem qd3 (a:∀ c x,(X.cells c x).length=sz c) {c:Nat}:∀ {l:List (K c)},(l.flatMap (X.cells c)).length=l.length * sz c
 | []=>by simp
 | x::l=>by rw [List.flatMap_cons,List.length_append,a,qd3 a,List.length_cons,Nat.add_mul];omega
theorem zly (ok:CfgOk X sz C) {c:Nat} {l:List (K c)}:(l.flatMap (X.cells c)).all jn=true:=by
 rw [List.all_eq_true];intro p a;obtain ⟨x,_,b⟩:=List.mem_flatMap.1 a;exact List.all_eq_true.1 (ok.one c x) p b
theorem zix {ti:TI} {H':Heap} {nm d off lim:Nat} {c:List V} {e:TypeId} {ex:Bool} {all ps:List (PV K)} {q:PV K} (g:H'.get nm=some (.row c e 0 0 0 ex)) (f:qj X sz w all c)
  (b:∀ (j:Nat) (p:PV K),ps[j]? = some p->all[d+j]? = some p) (i:d+ps.length<=lim) (k:lim<=all.length) (h:loadAt ti ps off=some q):∃ u,qjk H' ti (.ptr nm 0 (d+off) lim)=some u/\Rep X sz w q u:=by
 unfold loadAt at h;cases a:Nat.ble (off+ti.size) ps.length with
 | false=>rw [a] at h;cases h
 | true=>
  rw [a] at h;simp only [zO] at h;rw [Nat.ble_eq] at a;exact qrh g (zN _) i (by rw [<-f.1];exact k) (λj p l=>f.2 _ p (b j p l)) a h
theorem qk5 (R:RelH X sz C base st H w) {ti:TI} {p q:PV K} {v:V} (r:Rep X sz w p v) (h:zfm st ti p=some q) :
  ∃ nm gn off lim,v=.ptr nm gn off lim/\nm<H.next/\(∀ H':Heap,H'.get nm=H.get nm->∃ u,qjk H' ti v=some u/\Rep X sz w q u)/\
   ((∃ id,(∃ o l,p=.cell id o l)/\nm=w.c id/\∃ ct,look st.cells id=some ct)∨(∃ cs o,p=.eptr cs o/\¬ w.M nm)):=by
 unfold zfm at h;split at h
 .rename_i id off lim;obtain ⟨ps,A,f⟩:=zI.1 h;have z:=qfc A;cases a:(Nat.ble (off+ti.size) lim&&Nat.ble lim ps.length) with
  | false=>rw [a] at f;cases f
  | true=>
   rw [a] at f;simp only [zO] at f;simp only [zA,Nat.ble_eq] at a;cases r with
   | cell hi=>
    obtain ⟨k,_,B,e,ex,b,_,m⟩:=R.cells id _ z;have m:qj X sz w ps B:=m;refine ⟨_,_,_,_,rfl,(R.cl id k).2.1,λH' n=>?_,.inl ⟨id,⟨_,_,rfl⟩,rfl,_,z⟩⟩;have:=zix (ti:=ti) (H':=H') (nm:=w.c id) (d:=0) (off:=off) (lim:=lim) (ps:=ps.take lim) (q:=q) (by rw [n];exact b) m (λj p i=>by
      rw [List.getElem?_take] at i;split at i
      .rw [Nat.zero_add];exact i
      .cases i) (by rw [List.length_take];omega) a.2 ?_
    .rw [Nat.zero_add] at this;exact this
    .unfold loadAt;have s:Nat.ble (off+ti.size) (ps.take lim).length=true:=by rw [Nat.ble_eq,List.length_take];omega
     rw [s,zO,<-f];cases ti.isAgg with
     | true=>
      simp only [zO];congr 2;rw [List.drop_take,List.take_take];congr 1;omega
     | false=>
      simp only [zQ];cases t:Nat.beq ti.size 1 with
      | false=>rfl
      | true=>
       simp only [zO];have:=zE t;rw [List.getElem?_take,zT (by omega)]
 .rename_i cs off;unfold loadAt at h;cases a:Nat.ble (off+ti.size) cs.length with
  | false=>rw [a] at h;cases h
  | true=>
   rw [a] at h;simp only [zO] at h;rw [Nat.ble_eq] at a;cases r with
   | @eptr ps off nm gn d lim D e gen x E ex b F G I J L=>
    rw [R.g] at b;refine ⟨_,_,_,_,rfl,?_,λH' n=>qrh (by rw [n];exact b) F I J L a h,.inr ⟨_,_,rfl,G⟩⟩;by_cases y:nm<H.next
    .exact y
    .rw [R.wf nm (by omega)] at b;cases b
 .cases h
theorem qpi (ok:CfgOk X sz C) (R:RelH X sz C base st H w) {ti:TI} {p:PV K} {v:V} {k:PV K->StV K->Prop} (r:Rep X sz w p v) (h:zmy (ql X tbl inv meas) ti p st k) :
  ∃ q,k (qeg q st).1 (qeg q st).2/\∃ nm gn off lim,v=.ptr nm gn off lim/\nm<H.next/\(∀ H':Heap,H'.get nm=H.get nm->∃ u,qjk H' ti v=some u/\Rep X sz w q u)/\
   ((∃ id,((∃ o l,p=.cell id o l)∨∃ c i n o,p=.mptr id c i n o)/\nm=w.c id/\∃ ct,look st.cells id=some ct)∨(∃ cs o,p=.eptr cs o/\¬ w.M nm)):=by
 unfold zmy at h;split at h
 .rename_i id c i n off;obtain ⟨l,O,s⟩:=qa h;cases m:(Nat.beq ti.size 1&&!ti.isAgg) with
  | false=>rw [m] at s;exact s.elim
  | true=>
   rw [m] at s;simp only [zO] at s;simp only [zA,Bool.not_eq_true'] at m;obtain ⟨y,z⟩:=s;have E:n=(l.1.length:Int):=y;have F:=qic O;obtain ⟨A,hM,G,e,gen,fl,ex,I,B,_,f,x⟩:=R.cells id _ F;have x:qj X sz w (l.1.flatMap (X.cells c)++[l.2]) G:=x;have a:=x.1;rw [List.length_append,qd3 ok.len,f,Nat.mul_one] at a;have a:l.1.length+1=G.length:=a;cases r with
   | @mptr _ _ _ _ _ g P e1 J Q S T hi _ h0 L q2 U=>
    rw [R.g,I] at L;cases L;have t:=U (by omega);subst t;refine ⟨l.2,z,_,_,_,_,rfl,(R.cl id A).2.1,λH' W=>?_,.inl ⟨id,.inr ⟨_,_,_,_,rfl⟩,rfl,_,F⟩⟩;have D:=zE m.1;have:=qrh (X:=X) (sz:=sz) (w:=w) (ti:=ti) (H':=H') (nm:=w.c id) (gn:=g) (d:=n.toNat) (off:=0) (lim:=n.toNat+1) (ps:=[l.2]) (q:=l.2) (by rw [W];exact I) B (zN _) (by omega)
     (λj p N=>by
       cases j with
       | zero=>
        cases N;refine x.2 _ _ ?_;rw [List.getElem?_append_right (by rw [qd3 ok.len,f];omega),qd3 ok.len,f,show n.toNat+0-l.1.length * 1=0 by omega];rfl
       | succ j=>simp at N) (by rw [D];exact zN _) (by rw [m.2,zQ,m.1];rfl)
    exact this
 .obtain ⟨q,h,z⟩:=qa h;refine ⟨q,z,?_⟩;obtain ⟨nm,gn,off,lim,Y,Z,a3,a4⟩:=qk5 R r h;refine ⟨nm,gn,off,lim,Y,Z,a3,?_⟩;rcases a4 with ⟨id,b1,b2,b3⟩ | b
  .exact .inl ⟨id,.inl b1,b2,b3⟩
  .exact .inr b
end
end Go.E3
/- E3: STORES AND NEW VARIABLES AND LISTS against E2's. -/
namespace Go.E3
open Go Go.E2
variable {K:Nat->Type}
section
variable {X:Codecs K} {sz:Nat->Nat} {C:ZC K} {base H:Heap} {st:StV K} {fr:Fr} {w:Wd}
variable {tbl:Tbl K} {inv:Nat->List (NV K)->Prop} {meas:Nat->List (NV K)->Nat}
theorem zdk {ti:TI} {a x:PV K} {c:StV K} (h:zdj st ti a x=some c):∃ id off lim ps,a=.cell id off lim/\qpj st.cells id=some ps/\x.cellsOf.length=ti.size/\off+ti.size<=lim/\lim<=ps.length/\x.cellsOf.all jn=true/\
  c = {st with cells:=qg4 st.cells id (.cs (qnm st.cells id) (qfl ps off x.cellsOf))}:=by
 unfold zdj at h;split at h
 .rename_i id off lim;obtain ⟨ps,e,d⟩:=zI.1 h;cases b:(Nat.beq x.cellsOf.length ti.size&&Nat.ble (off+ti.size) lim&&Nat.ble lim ps.length&&x.cellsOf.all jn) with
  | false=>rw [b] at d;cases d
  | true=>
   rw [b] at d;simp only [zO,zS] at d;simp only [zA,Nat.ble_eq] at b;exact ⟨id,off,lim,ps,rfl,e,zE b.1.1.1,b.1.1.2,b.1.2,b.2,d.symm⟩
 .cases h
theorem qih (ok:CfgOk X sz C) (R:RelH X sz C base st H w) {id:Nat} {ct ct':ZT K} {o:O} (Y:look st.cells id=some ct)
  (D:∀ cs e gen fl fz ex,H.get (w.c id)=some (.row cs e gen fl fz ex)->∃ f a l p ex',o=.row f e a l p ex'/\cs.length<=f.length/\(cs.length=f.length->a=gen))
  (Z:qbu X sz w id ct' (some o)):∃ w',RelH X sz C base {st with cells:=qg4 st.cells id ct'} (H.put (w.c id) o) w'/\Le w w':=by
 obtain ⟨u,E,F⟩:=R.cells id _ Y;obtain ⟨G,I,x⟩:=R.cl id u;let H':=H.put (w.c id) o;have d:∀ nm,nm≠w.c id->H'.get nm=H.get nm:=λnm z=>qb8 z;have q:H'.get (w.c id)=some o:=qaf;have J:∀ k,k<w.n->w.cl k->∀ cs e gen fl fz ex,w.g (w.c k)=some (.row cs e gen fl fz ex)->∃ f a l p ex',H'.get (w.c k)=some (.row f e a l p ex')/\cs.length<=f.length/\(cs.length=f.length->a=gen):=λk _ L cs e gen fl fz ex M=>by
  rw [R.g] at M;by_cases r:k=id
  .subst r;obtain ⟨f,a,l,p,ex',a1,a2,a3⟩:=D cs e gen fl fz ex M;exact ⟨f,a,l,p,ex',by rw [q,a1],a2,a3⟩
  .exact ⟨_,_,_,_,_,by rw [d _ (λhh=>r (R.cinj k id L u hh))];exact M,zN _,λ_=>rfl⟩
 have v:Le w {w with g:=H'.get}:=by
  refine ⟨⟨zN _,λnm cs e gen N P ex h A=>⟨A,[],gen,P,ex,?_⟩,λ_ _=>rfl,λ_ _=>rfl,λ_ _ h=>h,λ_ _ _ _ h t=>(by rw [h] at t;cases t;exact zN _),λi s hi W _=>⟨rfl,λnm z _=>?_⟩,rfl,λ_ _=>.rfl,zN _,rfl,λ_ _ h=>h,λ_ _=>rfl,J⟩,λm Q=>?_,rfl⟩
  .rw [zJ];show H'.get nm=_;rw [d nm (by intro r;subst r;exact A E),<-R.g];exact h
  .show H'.get nm=w.g nm;rw [R.owns] at W;obtain ⟨_,_,S⟩:=R.eta i s nm W z;rw [d nm (by intro r;subst r;exact S E),R.g]
  .show H'.get m=_;rw [R.g] at Q;rw [d m (by intro r;subst r;exact F.some.1 Q)];exact Q
 refine ⟨{w with g:=H'.get},?_,v⟩;refine ⟨λn z=>?_,R.rob,rfl,R.nx,R.b,R.Mlt,R.n,R.one,R.keeps.put x _,R.cl,R.cinj,λj y t=>?_,R.owns,R.ownn,R.eta,R.einj,R.ce,R.known,λgn y t=>?_⟩
 .have T:H.next<=n:=z
  rw [d n (by omega)];exact R.wf n T
 .simp only [qec] at t;by_cases hi:j=id
  .subst hi;rw [zT rfl] at t;cases t;refine ⟨u,E,?_⟩;show qbu X sz _ j _ (H'.get (w.c j));rw [q];exact Z.mono ok.len v (by rw [R.n];exact G)
  .rw [zF hi] at t;obtain ⟨B,U,q5⟩:=R.cells j y t;refine ⟨B,U,?_⟩;show qbu X sz _ j _ (H'.get (w.c j));rw [d _ (by intro r;exact hi (R.cinj j id B u r))];exact q5.mono ok.len v (by rw [R.n];exact (R.cl j B).1)
 .obtain ⟨q0,V,e',fl,fz,ex',B,U,q3⟩:=R.globs gn y t;exact ⟨q0,V,e',fl,fz,ex',B,U,q3.mono ok.len v⟩
theorem zcx (ok:CfgOk X sz C) (R:RelH X sz C base st H w) {id:Nat} {ct ct':ZT K} {g a:List V} {e:TypeId} {ex:Bool} (i:look st.cells id=some ct) (b:H.get (w.c id)=some (.row g e 0 0 0 ex)) (hlen:g.length=a.length) (d:ze6 ct'=true)
  (f:q43 ct' e ex) (j:qj X sz w (qrk X ct') a):∃ w',RelH X sz C base {st with cells:=qg4 st.cells id ct'} (H.put (w.c id) (.row a e 0 0 0 ex)) w'/\Le w w':=
 qih ok R i (λcs l gen fl fz k h=>by rw [b] at h;cases h;exact ⟨_,_,_,_,_,rfl,Nat.le_of_eq hlen,λ_=>rfl⟩) (.row d f j)
theorem qu6 {α:Type} {l:List (Nat×α)} {id:Nat} {x y:α} (h:look l id=some x) (j:Nat):(look (qg4 l id y) j).isSome=(look l j).isSome:=by
 rw [qec];by_cases a:j=id
 .subst a;rw [zT rfl,h];rfl
 .rw [zF a]
theorem qtv (ok:CfgOk X sz C) (R:RelH X sz C base st H w) {ti:TI} {a x:PV K} {P d:V} {k:PV K->StV K->Prop} (ra:Rep X sz w a P) (rx:Rep X sz w x d) (h:zdi (ql X tbl inv meas) ti a x st k) :
  ∃ m id gn off lim H' w',k qmo m/\((∃ o l,a=.cell id o l)∨∃ c i n o,a=.mptr id c i n o)/\P=.ptr (w.c id) gn off lim/\w.c id<H.next/\id<st.next/\w.cl id/\base.next<=w.c id/\
   (∀ H0:Heap,H0.get (w.c id)=H.get (w.c id)->H0.ro<=w.c id->∃ row,H'=H.put (w.c id) row/\qjg H0 ti P d=some (H0.put (w.c id) row))/\qjg H ti P d=some H'/\
   m.tmps=st.tmps/\m.n=st.n/\m.next=st.next/\RelH X sz C base m H' w'/\Le w w'/\(∀ j,(look m.cells j).isSome=(look st.cells j).isSome)/\(look st.cells id).isSome=true:=by
 have z:=rx.cells;have Z:∀ {id off lim:Nat} {ct ct':ZT K} {r:List V} {e:TypeId} {ex:Bool},look st.cells id=some ct->H.get (w.c id)=some (.row r e 0 0 0 ex)->x.cellsOf.length=ti.size->
   off+ti.size<=lim->lim<=r.length->x.cellsOf.all jn=true->ze6 ct'=true->q43 ct' e ex->qj X sz w (qrk X ct') (setCells r off d.cells)->
   ∃ H' w',w.c id<H.next/\id<st.next/\w.cl id/\base.next<=w.c id/\
   (∀ H0:Heap,H0.get (w.c id)=H.get (w.c id)->H0.ro<=w.c id->∃ row,H'=H.put (w.c id) row/\qjg H0 ti (.ptr (w.c id) 0 off lim) d=some (H0.put (w.c id) row))/\qjg H ti (.ptr (w.c id) 0 off lim) d=some H'/\
   RelH X sz C base {st with cells:=qg4 st.cells id ct'} H' w'/\Le w w':=by
  intro id off lim ct ct' r e ex s D A F G u a1 I v;obtain ⟨t,hM,_⟩:=R.cells id _ s;obtain ⟨J,p,b⟩:=R.cl id t;have f:∀ H0:Heap,H0.get (w.c id)=H.get (w.c id)->H0.ro<=w.c id->qjg H0 ti (.ptr (w.c id) 0 off lim) d=some (H0.put (w.c id) (.row (setCells r off d.cells) e 0 0 0 ex)):=by
   intro H0 L q;have c1:Nat.beq d.cells.length ti.size=true:=by rw [<-z.1,A];exact Nat.beq_refl _
   have c2:(Nat.beq 0 0&&Nat.ble (off+d.cells.length) lim&&Nat.ble lim r.length&&Nat.ble 0 off&&d.cells.all V.j7)=true:=by
    simp only [zA,Nat.ble_eq];exact ⟨⟨⟨⟨rfl,by rw [<-z.1,A];exact F⟩,G⟩,Nat.zero_le _⟩,z.qpq u⟩
   simp only [qjg,c1,zO,qb1,L,D,c2,qb3 q]
  have q:H.ro<=w.c id:=by rw [R.keeps.ro];exact zR R.rob.1 b
  obtain ⟨w',R',M⟩:=zcx ok R (e:=e) (ex:=ex) s D (by simp only [setCells,List.length_append,List.length_take,List.length_drop];have:=z.1;omega) a1 I v;exact ⟨_,w',p,J,t,b,λH0 Q B=>⟨_,rfl,f H0 Q B⟩,f H rfl q,R',M⟩
 unfold zdi at h;split at h
 .rename_i id c i n off;obtain ⟨l,Q,B⟩:=qa h;have s:=qic Q;obtain ⟨t,hM,r,e,gen,fl,ex,D,aj,a6,N,v⟩:=R.cells id _ s;obtain ⟨J,p,b⟩:=R.cl id t;have v:qj X sz w (l.1.flatMap (X.cells c)++[l.2]) r:=v;have y:=v.1;rw [List.length_append,qd3 ok.len,N,Nat.mul_one] at y;have y:l.1.length+1=r.length:=y;cases O:(Nat.beq ti.size 1&&jn x) with
  | false=>rw [O] at B;exact B.elim
  | true=>
   rw [O] at B;simp only [zO] at B;simp only [zA] at O;obtain ⟨M,hk⟩:=B;have ai:n=(l.1.length:Int):=M;have a7:=zE O.1;have a8:x.cellsOf=[x]:=by
    cases x<;>first | rfl | (exact absurd O.2 (by simp [jn]))
   rw [a8] at z;have aa:d.cells.length=1:=z.1.symm;cases ra with
   | @mptr _ _ _ _ _ g ab e1 S ad ae af hi _ h0 q1 q2 q3=>
    rw [R.g,D] at q1;cases q1;have T:=q3 (by omega);subst T;have ak:n.toNat=l.1.length:=by omega
    have q:H.ro<=w.c id:=by rw [R.keeps.ro];exact zR R.rob.1 b
    have f:∀ H0:Heap,H0.get (w.c id)=H.get (w.c id)->H0.ro<=w.c id->qjg H0 ti (.ptr (w.c id) g n.toNat (n.toNat+1)) d=some (H0.put (w.c id) (.row (setCells r n.toNat d.cells) e g g 0 ex)):=by
     intro H0 L q;have c1:Nat.beq d.cells.length ti.size=true:=by rw [aa,a7];rfl
     have c2:(Nat.beq g g&&Nat.ble (n.toNat+d.cells.length) (n.toNat+1)&&Nat.ble (n.toNat+1) r.length&&Nat.ble 0 n.toNat&&d.cells.all V.j7)=true:=by
      simp only [zA,Nat.ble_eq];exact ⟨⟨⟨⟨Nat.beq_refl _,by omega⟩,by omega⟩,Nat.zero_le _⟩,z.qpq (by simp [O.2])⟩
     simp only [qjg,c1,zO,qb1,L,D,c2,qb3 q]
    have U:qfl (l.1.flatMap (X.cells c)++[l.2]) n.toNat [x]=l.1.flatMap (X.cells c)++[x]:=by
     have W:(l.1.flatMap (X.cells c)).length=n.toNat:=by rw [qd3 ok.len,N];omega
     simp only [qfl,<-W,List.take_left,List.length_singleton];rw [List.drop_eq_nil_of_le (by simp),zJ]
    have E:=qkb v z n.toNat
    rw [U] at E;obtain ⟨w',R',Y⟩:=qih ok R (ct':=.ml c l.1 x) (o:=.row (setCells r n.toNat d.cells) e g g 0 ex) s
     (λab e1 S ad ae af h=>by
       rw [D] at h;cases h;exact ⟨_,_,_,_,_,rfl,Nat.le_of_eq (by simp only [setCells,List.length_append,List.length_take,List.length_drop];omega),λ_=>rfl⟩)
     ⟨_,_,_,_,_,rfl,zN _,a6,N,E⟩
    exact ⟨_,id,g,_,_,_,w',hk,.inr ⟨_,_,_,_,rfl⟩,rfl,p,J,t,b,λH0 Q B=>⟨_,rfl,f H0 Q B⟩,f H rfl q,rfl,rfl,rfl,R',Y,λj=>qu6 s j,by rw [s];rfl⟩
 .obtain ⟨m,ag,hk⟩:=qa h;obtain ⟨id,off,lim,ps,rfl,s,A,F,G,u,rfl⟩:=zdk ag;have s:=qfc s;obtain ⟨t,hM,r,e,ex,D,I,v⟩:=R.cells id _ s;have v:qj X sz w ps r:=v;have ah:P=.ptr (w.c id) 0 off lim:=by cases ra;rfl
  subst ah;obtain ⟨H',w',b1,b2,b3,b4,b5,b6,b7,b8⟩:=Z (ct':=.cs (qnm st.cells id) (qfl ps off x.cellsOf)) s D A F (by rw [<-v.1];exact G) u rfl (zgf I) (qkb v z off);exact ⟨_,id,0,off,lim,H',w',hk,.inl ⟨_,_,rfl⟩,rfl,b1,b2,b3,b4,b5,b6,rfl,rfl,rfl,b7,b8,λj=>qu6 s j,by rw [s];rfl⟩
def Wd.new (w:Wd) (H:Heap) (row:O) (m:Nat) (wr:Bool) (e:Nat->Nat) (a:Nat->Option Nat) (b:Nat->Option Nat) (d:Nat->Prop):Wd:=
 {w with nx:=H.next+1,cl:=d,g:=(H.new row).get,M:=λn=>w.M n∨(wr=true/\n=H.next),n:=m,c:=e,owns:=a,eta:=b}
theorem Le.new (R:RelH X sz C base st H w) {row:O} {m:Nat} {wr:Bool} {t:Nat->Nat} {a f:Nat->Option Nat} {j:Nat->Prop} (r:st.next<=m) (u:∀ id,id<st.next->t id=w.c id)
  (o1:∀ i,i<st.next->look st.owns i=none->a i=none) (o2:∀ i s k,i<st.next->look st.owns i=some s->a i=some k->s<=k)
  (o3:∀ i s,i<st.next->look st.owns i=some s->a i=some s->f i=w.eta i) (l:∀ id,id<st.next->(j id↔w.cl id)):Le w (w.new H row m wr t a f j):=by
 have d:∀ nm x,w.g nm=some x->(H.new row).get nm=some x/\nm<H.next:=by
  intro nm x h;rw [R.g] at h;have b:nm<H.next:=by
   by_cases b:nm<H.next
   .exact b
   .rw [R.wf nm (by omega)] at h;cases h
  exact ⟨by rw [qdj b];exact h,b⟩
 refine ⟨⟨by rw [R.n];exact r,λnm cs e gen o p ex h y=>?_,λid hi=>u id (by rw [<-R.n];exact hi),λ_ _=>rfl,λi hi h=>o1 i (by rw [<-R.n];exact hi) (by rw [<-R.owns];exact h),
  λi s k hi h q=>o2 i s k (by rw [<-R.n];exact hi) (by rw [<-R.owns];exact h) q,λi s hi h q=>⟨o3 i s (by rw [<-R.n];exact hi) (by rw [<-R.owns];exact h) q,λnm z _=>?_⟩,rfl,λid hi=>l id (by rw [<-R.n];exact hi),by rw [R.nx];exact Nat.le_succ _,rfl,λ_ _ h=>.inl h,λ_ _=>rfl,λid hi u cs e gen fl fz ex h=>⟨_,_,_,_,_,(d _ _ h).1,zN _,λ_=>rfl⟩⟩,λm r=>(d m _ r).1,rfl⟩
 .obtain ⟨A,B⟩:=d nm _ h;refine ⟨?_,[],gen,p,ex,by rw [zJ];exact A⟩;rintro (v | ⟨_,v⟩)
  .exact y v
  .omega
 .rw [R.owns] at h;obtain ⟨_,b,_⟩:=R.eta i s nm h z;show (H.new row).get nm=w.g nm;rw [qdj b,R.g]
theorem qj6 (ok:CfgOk X sz C) (R:RelH X sz C base st H w) {ct:ZT K} {row:O} {lp':Nat->Option LG} (z:∀ id,id<st.next->lp' id=w.lp id)
  (A:∀ w',Le w w'->w'.lp=lp'->qbu X sz w' st.next ct (some row)) :
  ∃ w',RelH X sz C base {st with cells:=(st.next,ct)::st.cells,next:=st.next+1} (H.new row) w'/\Le w w'/\w'.c st.next=H.next/\st.next<w'.n:=by
 let d:Nat->Nat:=λid=>if id=st.next then H.next else w.c id
 let w0:=w.new H row (st.next+1) true d w.owns w.eta (λid=>w.cl id∨id=st.next);let w':={w0 with lp:=lp'};have a:Le w w0:=by
  refine Le.new R (Nat.le_succ _) (λid hi=>zF (by omega)) (λi _ h=>by rw [R.owns];exact h) (λi s Q _ h j=>?_) (λ_ _ _ _ _=>rfl) (λid hi=>⟨λh=>h.elim (λh=>h) (λh=>by omega),.inl⟩);rw [R.owns,h] at j;cases j;exact zN _
 have l:Le w w':=⟨⟨a.n,a.mem,a.c,a.nu,a.o1,a.o2,a.o3,a.ce,a.cl,a.nx,a.b,a.Mu,λid hi=>z id (by rw [<-R.n];exact hi),a.gm⟩,a.df,a.fl⟩;have o:d st.next=H.next:=zT rfl
 have J:=R.keeps.next
 refine ⟨w',?_,l,?_⟩
 .refine ⟨λn p=>?_,R.rob,rfl,qw.symm,R.b,λn p=>?_,rfl,Nat.le_succ_of_le R.one,R.keeps.new _,λid h=>?_,λf g F G L=>?_,λe q j=>?_,R.owns,λi s h=>Nat.lt_succ_of_lt (R.ownn i s h),λi s nm h p=>?_,R.einj,R.ce,λid b h=>?_,λgn q j=>?_⟩
  .have B:H.next+1<=n:=by
    have:(H.new row).next=H.next+1:=qw
    omega
   show (H.new row).get n=none;have:(H.new row).get n=H.get n:=by
    obtain ⟨t,nx,ro,S⟩:=H;simp only [Heap.new,Heap.get,Tree.kv];rw [zF];have:nx+1<=n:=B;omega
   rw [this];exact R.wf n (by omega)
  .show n<(H.new row).next
   rw [qw];rcases p with p | ⟨_,p⟩
   .have:=R.Mlt n p;omega
   .omega
  .by_cases hi:id=st.next
   .subst hi;refine ⟨Nat.lt_succ_self _,?_,?_⟩
    .show d st.next<(H.new row).next;rw [o,qw];exact Nat.lt_succ_self _
    .show base.next<=d st.next;rw [o];exact J
   .have j:w.cl id:=h.elim (λh=>h) (λh=>absurd h hi);obtain ⟨k,r,u⟩:=R.cl id j;have v:d id=w.c id:=zF hi;refine ⟨Nat.lt_succ_of_lt k,?_,?_⟩
    .show d id<(H.new row).next;rw [v,qw];omega
    .show base.next<=d id;rw [v];exact u
  .have m:d f=d g:=L;by_cases x:f=st.next<;>by_cases y:g=st.next
   .omega
   .have:=(R.cl g (G.elim (λh=>h) (λh=>absurd h y))).2.1;rw [x,o,show d g=w.c g from zF y] at m;omega
   .have:=(R.cl f (F.elim (λh=>h) (λh=>absurd h x))).2.1;rw [y,o,show d f=w.c f from zF x] at m;omega
   .rw [show d f=w.c f from zF x,show d g=w.c g from zF y] at m;exact R.cinj f g (F.elim (λh=>h) (λh=>absurd h x)) (G.elim (λh=>h) (λh=>absurd h y)) m
  .simp only [qa7] at j;by_cases hi:e=st.next
   .subst hi;rw [zT rfl] at j;cases j;refine ⟨.inr rfl,?_,?_⟩
    .show w.M (d st.next)∨(true=true/\d st.next=H.next);rw [o];exact .inr ⟨rfl,rfl⟩
    .show qbu X sz w' st.next _ ((H.new row).get (d st.next))
     rw [o,qbb];exact A w' l rfl
   .rw [zF hi] at j;obtain ⟨k,r,N⟩:=R.cells e q j;have v:d e=w.c e:=zF hi;refine ⟨.inl k,?_,?_⟩
    .show w.M (d e)∨_;rw [v];exact .inl r
    .show qbu X sz w' e _ ((H.new row).get (d e));rw [v,qdj (R.cl e k).2.1];exact N.mono ok.len l (by rw [R.n];exact (R.cl e k).1)
  .obtain ⟨k,r,u⟩:=R.eta i s nm h p;refine ⟨k,by show nm<(H.new row).next;rw [qw];omega,?_⟩;rintro (I | ⟨_,I⟩)
   .exact u I
   .omega
  .obtain ⟨D,k,r⟩:=R.known id b h;exact ⟨D,Nat.lt_succ_of_lt k,r⟩
  .obtain ⟨D,E,P,fl,fz,ex',k,r,u⟩:=R.globs gn q j;exact ⟨D,E,P,fl,fz,ex',k,r,u.mono ok.len l⟩
 .exact ⟨o,Nat.lt_succ_self _⟩
theorem q1w (ok:CfgOk X sz C) (R:RelH X sz C base st H w) {ct:ZT K} (a:ze6 ct=true) {f:List V} {e:TypeId} (b:q43 ct e true) (r:qj X sz w (qrk X ct) f) :
  ∃ w',RelH X sz C base {st with cells:=(st.next,ct)::st.cells,next:=st.next+1} (qj7 H f e) w'/\Le w w'/\w'.c st.next=H.next/\st.next<w'.n:=
 qj6 ok R (lp':=w.lp) (λ_ _=>rfl) λw' d _=>.row a b (r.mono ok.len d)
theorem qq3 (ok:CfgOk X sz C) (R:RelH X sz C base st H w) {ps:List (PV K)} {a:List V} {e:TypeId} (r:qj X sz w ps a) :
  ∃ w',RelH X sz C base {st with cells:=(st.next,.cs (some e) ps)::st.cells,next:=st.next+1} (qj7 H a e) w'/\Le w w'/\Rep X sz w' (.cell st.next 0 ps.length) (.ptr H.next 0 0 a.length):=by
 obtain ⟨w',c,b,d,f⟩:=q1w ok R (ct:=.cs (some e) ps) rfl (e:=e) ⟨rfl,rfl⟩ r;refine ⟨w',c,b,?_⟩;have:=Rep.cell (X:=X) (sz:=sz) (w:=w') (id:=st.next) (off:=0) (lim:=ps.length) f;rw [d,r.1] at this;rw [r.1];exact this
structure Bump (st st':StV K) (i s:Nat):Prop where
 tmps:st'.tmps=st.tmps
 n:st'.n=st.n
 cells:st'.cells=st.cells
 known:st'.known=st.known
 owns:∀ j,look st'.owns j=if j=i then some s else look st.owns j
 next:st.next<=st'.next
 lt:i<st'.next
 up:∀ g,look st.owns i=some g->g<s
 fresh:look st.owns i=none->st.next<=i
theorem qmh (ok:CfgOk X sz C) (R:RelH X sz C base st H w) {k:StV K} {i s:Nat} (B:Bump st k i s) {row:O} {named:Bool} :
  ∃ w',RelH X sz C base k (H.new row) w'/\Le w w'/\w'.owns i=some s/\w'.eta i=(if named then some H.next else none)/\¬ w'.M H.next/\w'.n=k.next:=by
 let d:Nat->Option Nat:=λj=>if j=i then (if named then some H.next else none) else w.eta j
 let w':=w.new H row k.next false w.c (look k.owns) d w.cl
 have u:Le w w':=by
  refine Le.new R B.next (λ_ _=>rfl) (λj N h=>?_) (λj a b _ h f=>?_) (λj a _ h f=>?_) (λ_ _=>.rfl)
  .rw [B.owns];by_cases e:j=i
   .subst e;have:=B.fresh h;omega
   .rw [zF e];exact h
  .rw [B.owns] at f;by_cases e:j=i
   .subst e;rw [zT rfl] at f;cases f;exact Nat.le_of_lt (B.up a h)
   .rw [zF e,h] at f;cases f;exact zN _
  .rw [B.owns] at f;by_cases e:j=i
   .subst e;rw [zT rfl] at f;cases f;have:=B.up _ h;omega
   .exact zF e
 have S:=R.keeps.next
 refine ⟨w',?_,u,by show look k.owns i=some s;rw [B.owns,zT rfl],zT rfl,?_,rfl⟩
 .refine ⟨λn r=>?_,R.rob,rfl,qw.symm,R.b,λn r=>?_,rfl,zR R.one B.next,R.keeps.new _,λid h=>?_,R.cinj,λl v f=>?_,λ_=>rfl,λj a h=>?_,λj a nm h r=>?_,λG I P Q nm y z T U=>?_,R.ce,λid b h=>?_,λgn v f=>?_⟩
  .have g:H.next+1<=n:=by
    have:(H.new row).next=H.next+1:=qw
    omega
   have:(H.new row).get n=H.get n:=by
    obtain ⟨t,nx,ro,Y⟩:=H;simp only [Heap.new,Heap.get,Tree.kv];rw [zF];have:nx+1<=n:=g;omega
   rw [this];exact R.wf n (by omega)
  .rw [qw];rcases r with r | ⟨r,_⟩
   .have:=R.Mlt n r;omega
   .cases r
  .obtain ⟨m,x,A⟩:=R.cl id h;exact ⟨zL m B.next,by rw [qw];show w.c id<_;omega,A⟩
  .rw [B.cells] at f;obtain ⟨m,x,V⟩:=R.cells l v f;refine ⟨m,.inl x,?_⟩;show qbu X sz w' l _ ((H.new row).get (w.c l));rw [qdj (R.cl l m).2.1];exact V.mono ok.len u (by rw [R.n];exact (R.cl l m).1)
  .rw [B.owns] at h;by_cases e:j=i
   .subst e;exact B.lt
   .rw [zF e] at h;exact zL (R.ownn j a h) B.next
  .rw [B.owns] at h;have g:d j=some nm:=r;by_cases e:j=i
   .subst e;simp only [d,if_true] at g;cases named with
    | false=>cases g
    | true=>
     simp only [if_true,zS] at g;subst g;refine ⟨S,by rw [qw];exact Nat.lt_succ_self _,?_⟩;rintro (o | ⟨o,_⟩)
     .have:=R.Mlt _ o;omega
     .cases o
   .rw [zF e] at h;simp only [d,zF e] at g;obtain ⟨m,x,A⟩:=R.eta j a nm h g;refine ⟨m,by rw [qw];omega,?_⟩;rintro (o | ⟨o,_⟩)
    .exact A o
    .cases o
  .have p:d G=some nm:=T;have q:d I=some nm:=U;rw [B.owns] at y z;have D:∀ j a,j≠i->look st.owns j=some a->d j=some nm->nm<H.next:=by
    intro j a N h f;simp only [d,zF N] at f;exact (R.eta j a nm h f).2.1
   by_cases E:G=i<;>by_cases F:I=i
   .omega
   .rw [zF F] at z;have:=D I Q F z q;subst E;simp only [d,if_true] at p;cases named<;>simp at p;omega
   .rw [zF E] at y;have:=D G P E y p;subst F;simp only [d,if_true] at q;cases named<;>simp at q;omega
   .rw [zF E] at y;rw [zF F] at z;simp only [d,zF E] at p;simp only [d,zF F] at q;exact R.einj G I P Q nm y z p q
  .rw [B.known] at h;obtain ⟨J,m,x⟩:=R.known id b h;exact ⟨J,zL m B.next,x⟩
  .obtain ⟨J,L,W,fl,fz,ex',m,x,A⟩:=R.globs gn v f;exact ⟨J,L,W,fl,fz,ex',m,x,A.mono ok.len u⟩
 .rintro (o | ⟨o,_⟩)
  .have:=R.Mlt _ o;omega
  .cases o
theorem q6a (ok:CfgOk X sz C) (R:RelH X sz C base st H w) :
  ∃ w',RelH X sz C base {st with next:=st.next+1} (H.new .dfr) w'/\Le w w'/\w'.g H.next=some .dfr/\w.g H.next=none:=by
 let w':=w.new H .dfr (st.next+1) false w.c w.owns w.eta w.cl;have i:Le w w':=by
  refine Le.new R (Nat.le_succ _) (λ_ _=>rfl) (λj x h=>by rw [R.owns];exact h) (λj a b _ h k=>?_) (λj a _ h k=>rfl) (λ_ _=>.rfl);rw [R.owns,h] at k;cases k;exact zN _
 have y:=R.keeps.next
 refine ⟨w',?_,i,qbb,by rw [R.g];exact R.wf _ (zN _)⟩;refine ⟨λn f=>?_,R.rob,rfl,qw.symm,R.b,λn f=>?_,rfl,Nat.le_succ_of_le R.one,R.keeps.new _,λid h=>?_,R.cinj,λd l k=>?_,R.owns,λj a h=>Nat.lt_succ_of_lt (R.ownn j a h),λj a nm h f=>?_,R.einj,R.ce,λid b h=>?_,λgn l k=>?_⟩
 .have p:H.next+1<=n:=by
   have:(H.new .dfr).next=H.next+1:=qw
   omega
  have:(H.new .dfr).get n=H.get n:=by
   obtain ⟨t,nx,ro,z⟩:=H;simp only [Heap.new,Heap.get,Tree.kv];rw [zF];have:nx+1<=n:=p;omega
  rw [this];exact R.wf n (by omega)
 .rw [qw];rcases f with f | ⟨f,_⟩
  .have:=R.Mlt n f;omega
  .cases f
 .obtain ⟨e,m,o⟩:=R.cl id h;exact ⟨Nat.lt_succ_of_lt e,by rw [qw];show w.c id<_;omega,o⟩
 .obtain ⟨e,m,u⟩:=R.cells d l k;refine ⟨e,.inl m,?_⟩;show qbu X sz w' d _ ((H.new .dfr).get (w.c d));rw [qdj (R.cl d e).2.1];exact u.mono ok.len i (by rw [R.n];exact (R.cl d e).1)
 .obtain ⟨e,m,o⟩:=R.eta j a nm h f;refine ⟨e,by rw [qw];omega,?_⟩;rintro (q | ⟨q,_⟩)
  .exact o q
  .cases q
 .obtain ⟨r,e,m⟩:=R.known id b h;exact ⟨r,Nat.lt_succ_of_lt e,m⟩
 .obtain ⟨r,s,v,fl,fz,ex',e,m,o⟩:=R.globs gn l k;exact ⟨r,s,v,fl,fz,ex',e,m,o.mono ok.len i⟩
end
end Go.E3
