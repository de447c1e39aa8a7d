import Derived.Test.YtpofmogdhigakaaGreatDoorCfg
import Derived.Test.YtpofmogdhigakaaGreatDoorDall
import Derived.Test.YtpofmogdhigakaaGreatDoorM7
namespace Go.Proofs.YtpofmogdhigakaaGreatDoor
open Go Go.E2 Go.E3
set_option maxRecDepth 100000
variable {sp:Nat->Option (List V->Heap->Option (CR×Heap))}
noncomputable def cF:Code:=match (qw Tryz.prog (λ_=>none)).funcs 62 with
 | some fi=>fi.body.getD .skip
 | none=>.skip
theorem zu3:(cfg sp).E.funcs 62=some ⟨some cF,0,66,[.tmp 2,.tmp 3,.tmp 4]⟩:=by kernel_rfl
def gI:Nat->Bool:=λi=>Nat.beq i 14 || Nat.beq i 18
noncomputable def cL:Code×Code:=match cF with
 | .seq _ (.seq _ (.seq _ (.seq (.seq _ (.block _ (.loop a))) b)))=>(a,b)
 | _=>(.skip,.skip)
def ops (c:Code):Array Oper:=match c with
 | .region _ o _=>o
 | _=>#[]
noncomputable def cE:Code:=match rest gI 14 cL.1 with
 | .seq _ b=>b
 | _=>.skip
noncomputable def o14:Array Oper:=match rest gI 14 cL.1 with
 | .seq (.block _ (.block _ r)) _=>ops r
 | _=>#[]
noncomputable def o18:Array Oper:=match rest gI 18 cL.1 with
 | .seq (.block _ (.block _ (.seq r _))) _=>ops r
 | _=>#[]
noncomputable def c19:Code:=match rest gI 18 cL.1 with
 | .seq (.block _ (.block _ (.seq _ r))) _=>r
 | _=>.skip
noncomputable def oH (i:Nat):Array Oper:=match i,cF with
 | 0,.seq r _=>ops r
 | 1,.seq _ (.seq r _)=>ops r
 | 2,.seq _ (.seq _ (.seq r _))=>ops r
 | 3,.seq _ (.seq _ (.seq _ (.seq (.seq r _) _)))=>ops r
 | _,_=>#[]
theorem zrx:cF=.seq (.region 0 (oH 0) false) (.seq (.region 1 (oH 1) false) (.seq (.region 2 (oH 2) false) (.seq (.seq (.region 3 (oH 3) false) (.block 0 (.loop cL.1))) cL.2))):=by kernel_rfl
theorem zp7:rest gI 14 cL.1=.seq (.block 1 (.block 2 (.region 14 o14 false))) cE:=by kernel_rfl
theorem zp8:rest gI 18 cL.1=.seq (.block 1 (.block 2 (.seq (.region 18 o18 false) c19))) cE:=by kernel_rfl
def cR (r:Repeat):List V:=[.int .i64 r.From,.int .i64 r.To,.int .i64 r.N]
def pO (o:Nat):V:=.ptr o 0 0 3
structure Stk (H0 H:Heap) (rs:List Repeat) (op:Option Int) (sv:V) (nm:Nat) (os:List Nat) (tp:Option Nat):Prop where
 len:os.length=rs.length
 top:(op=none/\tp=none)∨∃ f o,op=some f/\tp=some o/\H.get o=some (.row (cR ⟨f,0,0⟩) 125 0 0 0 true)
 obj:∀ (j o:Nat) (r:Repeat),os[j]? = some o->rs[j]? = some r->∃ cs g z ex,H.get o=some (.row (cR r++cs) 125 g 0 z ex)
 new:∀ o ∈ os++tp.toList,H0.next<=o
 nd:(os++tp.toList).Nodup
 sv:(os++tp.toList=[]/\sv=.nils)∨(os++tp.toList≠[]/\H0.next<=nm/\nm ∉ os++tp.toList/\sv=.slice nm ((os++tp.toList).length-1) 0 (os++tp.toList).length 1 none/\
  H.get nm=some (.row ((os++tp.toList).map pO) 135 ((os++tp.toList).length-1) 0 0 false))
def stW (t:Tree (PV KT)) (n:Nat):StV KT:={tmps:=t,n:=n,cells:=[],owns:=[(1,0),(2,0)],next:=3,known:=[]}
def qxn (nm:Nat) (os:List Nat) (a:Option Nat) (i:Nat):Option Nat:=
 if i=1 then (if os++a.toList=[] then none else some nm) else if i=2 then a else none
section
variable {H0 H:Heap} {M:Nat->Prop} {rs:List Repeat} {op:Option Int} {sv:V} {nm:Nat} {os:List Nat} {tp:Option Nat}
theorem qlv (wf:∀ n,H.next<=n->H.get n=none) {n:Nat} {x:O} (h:H.get n=some x):n<H.next:=by
 by_cases a:n<H.next
 .exact a
 .rw [wf n (by omega)] at h;cases h
theorem Stk.rel (S:Go.E3.Start XK szK (cfg sp) H0 M) (m:Keeps H0 H) (wf:∀ n,H.next<=n->H.get n=none) (T:Stk H0 H rs op sv nm os tp) (t:Tree (PV KT)) (n:Nat) :
  RelH XK szK (cfg sp) H0 (stW t n) H (Go.E3.wdS (cfg sp) H0 H M (stW t n) (λ_=>0) (qxn nm os tp)):=by
 have d:∀ x,H0.next<=x->¬ M x:=λx h b=>by have:=S.Mlt x b;omega
 have e:∀ o,tp=some o->o ∈ os++tp.toList:=λo h=>by rw [h];simp
 refine za3 zi S m wf rfl (by show 1<=3;omega) (λ_ _=>.rfl) (λn h=>zL (S.Mlt n h) m.next) (λid ct h=>by cases h) (λ_ _ h=>absurd rfl h) (λi s h=>?_) (λi x h=>?_) (λi j x a b=>?_)
 .have:=qco h;simp only [stW,zD,zP,List.not_mem_nil,or_false] at this;show i<3;omega
 .unfold qxn at h;split at h
  .split at h
   .cases h
   .rename_i c;cases h;rcases T.sv with ⟨a,_⟩ | ⟨_,a,_,_,b⟩
    .exact absurd a c
    .exact ⟨a,qlv wf b,d _ a⟩
  .split at h
   .rcases T.top with ⟨_,a⟩ | ⟨f,o,_,a,b⟩
    .rw [a] at h;cases h
    .rw [a] at h;cases h;have:=T.new _ (e _ a);exact ⟨this,qlv wf b,d _ this⟩
   .cases h
 .have g:∀ x,tp=some x->os++tp.toList≠[]->x≠nm:=λx h c p=>by
   rcases T.sv with ⟨a,_⟩ | ⟨_,_,a,_⟩
   .exact c a
   .exact a (p ▸ e x h)
  unfold qxn at a b;by_cases k:i=1<;>by_cases l:j=1
  .omega
  .rw [zT k] at a;rw [zF l] at b;split at a
   .cases a
   .rename_i c;cases a;split at b
    .exact absurd rfl (g _ b c)
    .cases b
  .rw [zF k] at a;rw [zT l] at b;split at b
   .cases b
   .rename_i c;cases b;split at a
    .exact absurd rfl (g _ a c)
    .cases a
  .rw [zF k] at a;rw [zF l] at b;split at a
   .split at b
    .omega
    .cases b
   .cases a
theorem Stk.mono (S:Go.E3.Start XK szK (cfg sp) H0 M) (T:Stk H0 H rs op sv nm os tp) {st:StV KT} {c:Nat->Nat} {i:Nat->Prop} {w':Wd} {H':Heap} (l:∀ o,i o->o<H0.next) (hw:Go.E3.look st.owns 1=some 0/\Go.E3.look st.owns 2=some 0) (v:3<=st.next)
  (le:Le (Go.E3.wdS (cfg sp) H0 H i st c (qxn nm os tp)) w') (g:w'.g=H'.get) (m:w'.owns 1=some 0) (n:w'.owns 2=some 0):Stk H0 H' rs op sv nm os tp:=by
 have p:=(le.o3 1 0 (by show 1<st.next;omega) hw.1 m).2;have q:=(le.o3 2 0 (by show 2<st.next;omega) hw.2 n).2;refine ⟨T.len,?_,λj o r a b=>?_,T.new,T.nd,?_⟩
 .rcases T.top with h | ⟨f,o,a,b,d⟩
  .exact .inl h
  .refine .inr ⟨f,o,a,b,?_⟩;rw [<-g,q o (by simp [Go.E3.wdS,qxn,b]) (by show H.get o≠_;rw [d];simp)];exact d
 .obtain ⟨cs,w,z,ex,d⟩:=T.obj j o r a b;have s:¬ i o:=λh=>by
   have:=l o h;have:=T.new o (List.mem_append_left _ (List.mem_of_getElem? a));omega
  obtain ⟨_,cs2,t,u,ex',e⟩:=le.mem o _ _ _ _ _ _ d s;exact ⟨cs++cs2,t,u,ex',by rw [<-g,e,List.append_assoc]⟩
 .rcases T.sv with h | ⟨k,a,b,d,e⟩
  .exact .inl h
  .refine .inr ⟨k,a,b,d,?_⟩;rw [<-g,p nm (by simp [Go.E3.wdS,qxn,k]) (by show H.get nm≠_;rw [e];simp)];exact e
end
theorem qs2 {w:Wd} {fr:Fr}:qmy XK szK w .nil fr:=λi p h=>by cases i<;>cases h
theorem qe0 {w:Wd} {fr:Fr} {t:Tree (PV KT)} {i:Nat} {p:PV KT} {v:V} (h:qmy XK szK w t fr) (b:fr.tmp i=some v) (c:Rep XK szK w p v):qmy XK szK w (t.set i p) fr:=λj q a=>by
 rw [Tree.zn] at a;split at a
 .rename_i d;cases a;exact ⟨v,d ▸ b,c⟩
 .exact h j q a
theorem zbq {E:Env} {fn:Nat} {c:Code} {fr:Fr} {H:Heap} {Q:Ex->Fr->Heap->Prop} (d:qel c=true) (h:Wp E fn none c fr H Q):Wp E fn none c fr H λex fr' H'=>Q ex fr' H'/\fr'.defers=fr.defers:=by
 obtain ⟨x,⟨a,b⟩,e⟩:=h;exact ⟨x,⟨a,b⟩,e,qby d (b a (zN _))⟩
abbrev zts:Nat->List (NV KT)->Prop:=λ_ _=>False
abbrev zvb:Nat->List (NV KT)->Nat:=λ_ _=>0
abbrev AF:Alg Int Bool ZB Prop (λc=>List (KT c)) KT:=qu XK (qe2 []) zts zvb
abbrev q8b:Inl Int Bool ZB Prop (λc=>List (KT c)):=qv2 AF (cfg sp) 0
theorem zej (m:qt (cfg sp)) {H0 H:Heap} {M:Nat->Prop} {rs:List Repeat} {op:Option Int} {e:V} {nm:Nat} {os:List Nat} {d:Option Nat} (S:Go.E3.Start XK szK (cfg sp) H0 M) (p:Keeps H0 H) (wf:∀ n,H.next<=n->H.get n=none) (T:Stk H0 H rs op e nm os d)
  {c:Code} {t:Tree (PV KT)} {fr:Fr} {k:Ex->StV KT->Prop} (q:qel c=true) (f:fr.defers=[]) (F:qmy XK szK (Go.E3.wdS (cfg sp) H0 H M (stW t fr.n) (λ_=>0) (qxn nm os d)) t fr)
  (r:∀ ex st,k ex st->Go.E3.look st.owns 1=some 0/\Go.E3.look st.owns 2=some 0) (h:jq AF (cfg sp) (q8b (sp:=sp)) none 62 1 c (stW t fr.n) k) :
  Wp (cfg sp).E 62 none c fr H λex fr' H'=>(∃ a w',k ex a/\Rel XK szK (cfg sp) H0 a fr' H' w'/\Le (Go.E3.wdS (cfg sp) H0 H M (stW t fr.n) (λ_=>0) (qxn nm os d)) w')/\Stk H0 H' rs op e nm os d/\Keeps H0 H'/\(∀ n,H'.next<=n->H'.get n=none)/\
   (∀ t,t ∉ qdy c->fr'.tmp t=fr.tmp t)/\fr'.n=fr.n/\fr'.defers=[]:=by
 have R:Rel XK szK (cfg sp) H0 (stW t fr.n) fr H (Go.E3.wdS (cfg sp) H0 H M (stW t fr.n) (λ_=>0) (qxn nm os d)):=⟨T.rel S p wf t fr.n,F,rfl,by rw [f];exact .nil (Nat.zero_le _)⟩;refine (zbq q (Go.E3.Wp.frame (zx (rd:=none) (round:=none) zi ze qlf (qlh zi ze qlf m 0) trivial R h))).mono λex fr' H' s=>?_;obtain ⟨⟨⟨_,a,w',i,b,j⟩,u,v⟩,w⟩:=s;have l:=r _ _ i;exact ⟨⟨a,w',i,b,j⟩,T.mono S (λo h=>S.Mlt o h) ⟨rfl,rfl⟩ (zN 3) j b.h.g (by rw [b.h.owns];exact l.1) (by rw [b.h.owns];exact l.2),b.h.keeps,b.h.wf,u,v,w.trans f⟩
variable {sp:Nat->Option (List V->Heap->Option (CR×Heap))}
noncomputable def tyF (t:Nat):TI:=((qw Tryz.prog (λ_=>none)).types t).getD ⟨.bool,0,0,.nilp,false⟩
theorem q67:(cfg sp).E.types 109=some (tyF 109):=by kernel_rfl
theorem zbh:(cfg sp).E.types 135=some (tyF 135):=by kernel_rfl
theorem zum:(cfg sp).E.types 125=some (tyF 125):=by kernel_rfl
theorem q68:(tyF 109).under=.slice 135:=by kernel_rfl
theorem q1v:(tyF 135).size=1:=by kernel_rfl
theorem zrp:(tyF 135).bytes=8:=by kernel_rfl
theorem zuv:(tyF 135).zero=.nilp:=by kernel_rfl
theorem zrf:(tyF 135).isAgg=false:=by kernel_rfl
noncomputable def zek:Array Field:=match (tyF 125).under with
 | .struct a=>a
 | _=>#[]
theorem zuq:(tyF 125).under=.struct zek:=by kernel_rfl
theorem zrh:zek.toList.all (λf=>((cfg sp).E.types f.type).isSome)=true:=by kernel_rfl
theorem zr3 (i:Int):qds (λj=>(zek[j]?).bind λf=>((cfg sp).E.types f.type).map λfi=>(f.offset,fi.size)) (tyF 125).zero.cells [(0,.int .i64 i)]=some (cR ⟨i,0,0⟩):=by kernel_rfl
noncomputable def q14 (i:Nat):Oper:=o14.toList.getD i default
theorem l14:o14.toList=[q14 0,q14 1,q14 2,q14 3,q14 4,q14 5,q14 6,q14 7]:=by kernel_rfl
theorem zkq:(q14 0).op=.move (.tmp 5)/\(q14 0).dst=some 28/\(q14 0).guard=none:=⟨by kernel_rfl,by kernel_rfl,by kernel_rfl⟩
theorem zkr:(q14 1).op=.move (.tmp 7)/\(q14 1).dst=some 29/\(q14 1).guard=none:=⟨by kernel_rfl,by kernel_rfl,by kernel_rfl⟩
theorem zks:(q14 2).op=.build 125 #[(0,.tmp 29)]/\(q14 2).dst=some 30/\(q14 2).guard=none:=⟨by kernel_rfl,by kernel_rfl,by kernel_rfl⟩
theorem zkt:(q14 3).op=.box 125 (.tmp 30)/\(q14 3).dst=some 31/\(q14 3).guard=none:=⟨by kernel_rfl,by kernel_rfl,by kernel_rfl⟩
theorem zku:(q14 4).op=.buildSlice 109 1 #[(0,.tmp 31)]/\(q14 4).dst=some 32/\(q14 4).guard=none:=⟨by kernel_rfl,by kernel_rfl,by kernel_rfl⟩
theorem zd4:(q14 5).op=.call ⟨.builtin .append,#[.tmp 28,.tmp 32],#[109,109]⟩/\(q14 5).dst=some 33/\(q14 5).guard=none:=⟨by kernel_rfl,by kernel_rfl,by kernel_rfl⟩
theorem zkv:(q14 6).op=.assign (.tmp 33)/\(q14 6).dst=some 5/\(q14 6).guard=none:=⟨by kernel_rfl,by kernel_rfl,by kernel_rfl⟩
theorem zkw:(q14 7).op=.assign (.const (.bool true))/\(q14 7).dst=some 6/\(q14 7).guard=none:=⟨by kernel_rfl,by kernel_rfl,by kernel_rfl⟩
noncomputable def q18 (i:Nat):Oper:=o18.toList.getD i default
theorem l18:o18.toList=[q18 0,q18 1,q18 2,q18 3,q18 4,q18 5,q18 6]:=by kernel_rfl
theorem zkx:(q18 0).op=.move (.tmp 5)/\(q18 0).dst=some 39/\(q18 0).guard=none:=⟨by kernel_rfl,by kernel_rfl,by kernel_rfl⟩
theorem zky:(q18 1).op=.move (.tmp 5)/\(q18 1).dst=some 40/\(q18 1).guard=none:=⟨by kernel_rfl,by kernel_rfl,by kernel_rfl⟩
theorem zkz:(q18 2).op=.call ⟨.builtin .len,#[.tmp 40],#[109]⟩/\(q18 2).dst=some 41/\(q18 2).guard=none:=⟨by kernel_rfl,by kernel_rfl,by kernel_rfl⟩
theorem zk0:(q18 3).op=.binOp .sub 3 (.tmp 41) (.const (.int .i64 1)) 3/\(q18 3).dst=some 42/\(q18 3).guard=none:=⟨by kernel_rfl,by kernel_rfl,by kernel_rfl⟩
theorem zk1:(q18 4).op=.indexAddr 109 (.tmp 39) (.tmp 42)/\(q18 4).dst=some 43/\(q18 4).guard=none:=⟨by kernel_rfl,by kernel_rfl,by kernel_rfl⟩
theorem zk2:(q18 5).op=.load 135 (.tmp 43)/\(q18 5).dst=some 44/\(q18 5).guard=none:=⟨by kernel_rfl,by kernel_rfl,by kernel_rfl⟩
theorem zk3:(q18 6).op=.assign (.tmp 44)/\(q18 6).dst=some 9/\(q18 6).guard=none:=⟨by kernel_rfl,by kernel_rfl,by kernel_rfl⟩
noncomputable def qH (r i:Nat):Oper:=(oH r).toList.getD i default
theorem lH0:(oH 0).toList=[qH 0 0,qH 0 1,qH 0 2]:=by kernel_rfl
theorem zk4:(qH 0 0).op=.assign (.const (.slice none 0 0))/\(qH 0 0).dst=some 2/\(qH 0 0).guard=none:=⟨by kernel_rfl,by kernel_rfl,by kernel_rfl⟩
theorem zk5:(qH 0 1).op=.assign (.const (.int .i64 0))/\(qH 0 1).dst=some 3/\(qH 0 1).guard=none:=⟨by kernel_rfl,by kernel_rfl,by kernel_rfl⟩
theorem zk6:(qH 0 2).op=.assign (.const (.bool false))/\(qH 0 2).dst=some 4/\(qH 0 2).guard=none:=⟨by kernel_rfl,by kernel_rfl,by kernel_rfl⟩
theorem lH1:(oH 1).toList=[qH 1 0]:=by kernel_rfl
theorem zk7:(qH 1 0).op=.assign (.const (.slice none 0 0))/\(qH 1 0).dst=some 5/\(qH 1 0).guard=none:=⟨by kernel_rfl,by kernel_rfl,by kernel_rfl⟩
theorem lH2:(oH 2).toList=[qH 2 0]:=by kernel_rfl
theorem zk8:(qH 2 0).op=.assign (.const (.bool false))/\(qH 2 0).dst=some 6/\(qH 2 0).guard=none:=⟨by kernel_rfl,by kernel_rfl,by kernel_rfl⟩
theorem lH3:(oH 3).toList=[qH 3 0,qH 3 1,qH 3 2]:=by kernel_rfl
theorem zk9:(qH 3 0).op=.move (.tmp 0)/\(qH 3 0).dst=some 10/\(qH 3 0).guard=none:=⟨by kernel_rfl,by kernel_rfl,by kernel_rfl⟩
theorem zla:(qH 3 1).op=.call ⟨.builtin .len,#[.tmp 10],#[22]⟩/\(qH 3 1).dst=some 11/\(qH 3 1).guard=none:=⟨by kernel_rfl,by kernel_rfl,by kernel_rfl⟩
theorem zlb:(qH 3 2).op=.move (.const (.int .i64 0))/\(qH 3 2).dst=some 12/\(qH 3 2).guard=none:=⟨by kernel_rfl,by kernel_rfl,by kernel_rfl⟩
theorem zun:(cfg sp).E.types 22=some (tyF 22):=by kernel_rfl
theorem zur:(tyF 22).under=.slice 49:=by kernel_rfl
variable {sp:Nat->Option (List V->Heap->Option (CR×Heap))}
def qm8:Op->Bool
 | .defer _=>true
 | _=>false
theorem qbg {E:Env} {nd:Bool} {all:Array Oper} {fr:Fr} {H H':Heap} {Q:Ex->Fr->Heap->Prop} {o:Oper} {l:List Oper} {a:Op} {d:Nat} {v:V} (he:o.op=a/\o.dst=some d/\o.guard=none) (b:qm8 a=false) (c:d<fr.n) (h:zb E o fr H=some (.val v,H'))
  (k:∀ fr',Upd fr d v fr'->WpO E nd all l fr' H' Q):WpO E nd all (o::l) fr H Q:=
 q4f (by
  have:qa7 o=qm8 o.op:=by unfold qa7 qm8;cases o.op<;>rfl
  rw [this,he.1];exact b) (qdk he.2.2) he.2.1 c h k
structure Same (fr fr':Fr):Prop where
 n:fr'.n=66
 ds:fr'.defers=fr.defers
 t:∀ t,t=10∨t=11∨t=12->fr'.tmp t=fr.tmp t
section
variable {H0 H:Heap} {rs:List Repeat} {sv:V} {nm:Nat} {os:List Nat}
theorem q8k (wf:∀ n,H.next<=n->H.get n=none) (x:O):∀ n,(H.new x).next<=n->(H.new x).get n=none:=λn a=>by
 rw [qi] at a;obtain ⟨t,m,r,g⟩:=H;have:=wf n (by show m<=n;simp only at a;omega);have b:¬ n=m:=by simp only at a;omega
 simp only [Heap.new,Heap.get,Tree.zn,zF b];exact this
theorem zp2 (wf:∀ n,H.next<=n->H.get n=none) {nm:Nat} (x:O) (h:nm<H.next):∀ n,(H.put nm x).next<=n->(H.put nm x).get n=none:=λn a=>by
 rw [qpz] at a;rw [zd (by omega)];exact wf n a
theorem q8p (kp:Keeps H0 H) (wf:∀ n,H.next<=n->H.get n=none) (a3:H0.ro<=H0.next) (T:Stk H0 H rs none sv nm os none) {fr:Fr} {i:Int} (hn:fr.n=66) (t5:fr.tmp 5=some sv) (t7:fr.tmp 7=some (.int .i64 i)) (hl:rs.length<=1000000000) :
  WpO (cfg sp).E true o14 o14.toList fr H λex fr' H'=>ex=.normal/\(∃ a nm' o,fr'.tmp 5=some a/\Stk H0 H' rs (some i) a nm' os (some o))/\Keeps H0 H'/\(∀ n,H'.next<=n->H'.get n=none)/\fr'.tmp 6=some (.bool true)/\Same fr fr':=by
 rw [l14];refine qbg zkq rfl (by omega) (zf zkq.1 (qe t5)) λf1 B=>?_;have n1:=B.n.trans hn;refine qbg zkr rfl (by omega) (zf zkr.1 (qe (B.ne t7))) λf2 C=>?_;have n2:=C.n.trans n1;refine qbg zks rfl (by omega) (qnb zks.1 zum zuq (zg (qe C.get) jn) zrh (zr3 i)) λf3 D=>?_;have n3:=D.n.trans n2;refine qbg zkt rfl (by omega) (qiz zkt.1 (qe D.get)) λf4 F=>?_;have n4:=F.n.trans n3;let H1:Heap:=z5 H (cR ⟨i,0,0⟩) 125;let d:Heap:=z5 H1 [pO H.next] 135;have hf:qds (λi=>some (i * (tyF 135).size,(tyF 135).size)) (List.replicate 1 (tyF 135).zero.cells).flatten [(0,pO H.next)]=some [pO H.next]:=by rw [q1v,zuv];rfl
 refine qbg zku rfl (by omega) (qpw (cs:=[pO H.next]) zku.1 q67 q68 zbh (zg (qe F.get) jn) (by rw [q1v];rfl) hf) λQ u=>?_;have n5:=u.n.trans n4;rw [q1v] at u;have x1:H1.next=H.next+1:=qi
 have x2:d.next=H.next+2:=by rw [show d.next=H1.next+1 from qi,x1]
 have ga:d.get H.next=some (.row (cR ⟨i,0,0⟩) 125 0 0 0 true):=by
  rw [show d.get H.next=H1.get H.next from ke (by omega)];exact zl
 have gb:d.get H1.next=some (.row [pO H.next] 135 0 0 0 true):=zl
 have k:∀ n,n<H.next->d.get n=H.get n:=λn h=>by
  rw [show d.get n=H1.get n from ke (by omega)];exact ke h
 have R:Keeps H0 d:=(kp.new _).new _;have G:∀ n,d.next<=n->d.get n=none:=q8k (q8k wf _) _
 have I:H0.next<=H.next:=kp.next
 have J:∀ o ∈ os++(none:Option Nat).toList,o<H.next:=λo f=>by
  simp only [Option.toList_none,zJ] at f;obtain ⟨j,S,U⟩:=List.mem_iff_getElem.1 f;obtain ⟨cs,g,z,ex,w⟩:=T.obj j o (rs[j]'(by rw [<-T.len];exact S)) (by rw [List.getElem?_eq_getElem S,U]) (by rw [List.getElem?_eq_getElem (by rw [<-T.len];exact S)]);exact qlv wf w
 have fin:∀ {a:V} {nm':Nat} {A:Heap} {K:Fr},Upd Q 33 a K->Stk H0 A rs (some i) a nm' os (some H.next)->Keeps H0 A->(∀ n,A.next<=n->A.get n=none)->
   WpO (cfg sp).E true o14 [q14 6,q14 7] K A λex fr' H'=>ex=.normal/\(∃ a nm' o,fr'.tmp 5=some a/\Stk H0 H' rs (some i) a nm' os (some o))/\Keeps H0 H'/\(∀ n,H'.next<=n->H'.get n=none)/\fr'.tmp 6=some (.bool true)/\Same fr fr':=by
  intro a nm' A K l T' k3 W;have n6:=l.n.trans n5;refine qbg zkv rfl (by omega) (qy zkv.1 (qe l.get)) λf7 O=>?_;have n7:=O.n.trans n6;refine qbg zkw rfl (by omega) (qy zkw.1 (v:=.bool true) rfl) λf8 L=>qz ⟨rfl,⟨a,nm',H.next,L.ne O.get,T'⟩,k3,W,L.get,L.n.trans n7,?_,λt ht=>?_⟩
  .rw [L.ds,O.ds,l.ds,u.ds,F.ds,D.ds,C.ds,B.ds]
  .rcases ht with rfl | rfl | rfl<;>exact L.ne (O.ne (l.ne (u.ne (F.ne (D.ne (C.ne (B.ne rfl)))))))
 have X:Q.tmp 28=some sv:=u.ne (F.ne (D.ne (C.ne B.get)));have m:∀ {r:V×Heap},kv d 135 1 8 sv (.slice H1.next 0 0 1 1 (some 1))=some r->zb (cfg sp).E (q14 5) Q d=some (.val r.1,r.2):=λh=>
  q0i zd4.1 rfl rfl rfl q67 q68 q67 q68 zbh (qe X) (qe u.get) (by rw [q1v,zrp];exact h)
 rcases T.sv with ⟨P,rfl⟩ | ⟨P,w,Y,rfl,Z⟩
 .have a0:os=[]:=by simpa using P
  subst a0;have h:=zg9 (e:=135) (b:=8) (by omega) gb rfl;refine qbg zd4 rfl (by omega) (m h) λK l=>fin l (nm':=d.next) ⟨T.len,.inr ⟨i,H.next,rfl,rfl,?_⟩,λj o r w _=>(by simp at w),λo f=>?_,by simp,.inr ⟨by simp,by omega,?_,rfl,zl⟩⟩ (R.new _) (q8k G _)
  .exact (ke (by omega)).trans ga
  .simp at f;omega
  .simp;omega
 .simp only [Option.toList_none,zJ] at P Y Z ⊢;have a1:=qlv wf Z;have p:0<os.length:=List.length_pos_iff.2 P;have q:(os.map pO).length=os.length:=List.length_map _;have h:=zha (b:=8) (cs:=os.map pO) (by omega) gb rfl rfl ((k nm a1).trans Z) (by rw [q,T.len];omega) (by rw [R.ro];omega);rw [q] at h;have M:∀ o,o<H.next->o≠nm->(d.put nm (.row (os.map pO++[pO H.next]) 135 (os.length-1+1) 0 0 false)).get o=H.get o:=λo f a2=>(zd a2).trans (k o f)
  have c:os++(some H.next).toList=os++[H.next]:=rfl;have s:∀ o ∈ os,o<H.next:=λo f=>J o (List.mem_append_left _ f)
  refine qbg zd4 rfl (by omega) (m (by rw [show os++(none:Option Nat).toList=os from zJ _];exact h)) λK l=>fin l (nm':=nm) ⟨T.len,.inr ⟨i,H.next,rfl,rfl,?_⟩,λj o r j1 j2=>?_,λo f=>?_,?_,.inr ⟨by simp,w,?_,?_,?_⟩⟩ (R.put w _) (zp2 (nm:=nm) G _ (by omega))
  .exact (zd (by omega)).trans ga
  .obtain ⟨cs,g,z,ex,j3⟩:=T.obj j o r j1 j2;have N:=List.mem_of_getElem? j1;exact ⟨cs,g,z,ex,(M o (s o N) (λU=>Y (U ▸ N))).trans j3⟩
  .rw [c,List.mem_append,List.mem_singleton] at f;rcases f with f | rfl
   .exact T.new o (List.mem_append_left _ f)
   .exact I
  .rw [c,List.nodup_append];refine ⟨by simpa using T.nd,by simp,λx hx y hy=>?_⟩;rw [List.mem_singleton.1 hy];have:=s x hx;omega
  .rw [c,List.mem_append,List.mem_singleton];rintro (N | N)
   .exact Y N
   .omega
  .rw [c,List.length_append];show V.slice nm (os.length-1+1) 0 (os.length+1) 1 none=V.slice nm (os.length+1-1) 0 (os.length+1) 1 none;rw [Nat.sub_add_cancel p,Nat.add_sub_cancel]
  .rw [c,List.length_append,List.map_append];show (d.put nm _).get nm=some (.row (os.map pO++[pO H.next]) 135 (os.length+1-1) 0 0 false);rw [zo,Nat.sub_add_cancel p,Nat.add_sub_cancel]
theorem q44 {f:Int} {o:Nat} (T:Stk H0 H rs (some f) sv nm os (some o)) {fr:Fr} (u:fr.n=66) (l:fr.tmp 5=some sv) (v:rs.length<=1000000000) :
  WpO (cfg sp).E true o18 o18.toList fr H λex fr' H'=>ex=.normal/\H'=H/\fr'.tmp 9=some (pO o)/\Same fr fr'/\fr'.tmp 5=some sv/\fr'.tmp 7=fr.tmp 7/\fr'.tmp 8=fr.tmp 8:=by
 rw [l18];have a:os++(some o).toList=os++[o]:=rfl;rcases T.sv with ⟨m,_⟩ | ⟨m,K,L,p,q⟩
 .rw [a] at m;simp at m
 rw [a] at p q;have k:(os++[o]).length=os.length+1:=by simp
 rw [k,Nat.add_sub_cancel] at p q;have M:os.length<=1000000000:=by rw [T.len];exact v
 subst p;refine qbg zkx rfl (by omega) (zf zkx.1 (qe l)) λN b=>?_;have w:=b.n.trans u;refine qbg zky rfl (by omega) (zf zky.1 (qe (b.ne l))) λO c=>?_;have z:=c.n.trans w;refine qbg zkz rfl (by omega) (qi0 zkz.1 rfl rfl rfl q67 q68 (qe c.get)) λP d=>?_;have A:=d.n.trans z;refine qbg zk0 rfl (by omega) (qbn zk0.1 ⟨by simp,by simp⟩ (qe d.get) (j:=1) rfl (zuk (by omega) (by omega))) λQ e=>?_;have B:=e.n.trans A;have C:kj (tyF 135).size (.slice nm os.length 0 (os.length+1) 1 none) (.int .i64 (((os.length+1:Nat):Int)-1))=some (.ptr nm os.length os.length (os.length+1)):=by
  have D:(((os.length+1:Nat):Int)-1)=(os.length:Int):=by omega
  rw [q1v,D];simp [kj];omega
 refine qbg zk1 rfl (by omega) (qc0 zk1.1 q67 q68 zbh (qe (e.ne (d.ne (c.ne b.get)))) (qe e.get) C) λR g=>?_;have F:=g.n.trans B;have r:((os++[o]).map pO).any isHole=false:=by
  rw [List.any_eq_false];intro x G;obtain ⟨y,_,rfl⟩:=List.mem_map.1 G;simp [pO,isHole]
 have s:jr H (tyF 135) (.ptr nm os.length os.length (os.length+1))=some (pO o):=
  ze2 ⟨_,_,_,_,q,Nat.zero_le _,rfl⟩ r zrf q1v (zN _) (by simp) (by simp)
 refine qbg zk2 rfl (by omega) (jm zk2.1 zbh (qe g.get) s) λS h=>?_;have I:=h.n.trans F;refine qbg zk3 rfl (by omega) (qy zk3.1 (qe h.get)) λU i=>qz ⟨rfl,rfl,i.get,⟨i.n.trans I,?_,λt J=>?_⟩,?_,?_,?_⟩
 .rw [i.ds,h.ds,g.ds,e.ds,d.ds,c.ds,b.ds]
 .rcases J with rfl | rfl | rfl<;>exact i.ne (h.ne (g.ne (e.ne (d.ne (c.ne (b.ne rfl))))))
 .exact i.ne (h.ne (g.ne (e.ne (d.ne (c.ne (b.ne l))))))
 .exact i.ne (h.ne (g.ne (e.ne (d.ne (c.ne (b.ne rfl))))))
 .exact i.ne (h.ne (g.ne (e.ne (d.ne (c.ne (b.ne rfl))))))
end
variable {sp:Nat->Option (List V->Heap->Option (CR×Heap))}
def oR (op:Option Int):List Repeat:=match op with
 | none=>[]
 | some f=>[⟨f,0,0⟩]
section
variable {H0 H:Heap} {rs:List Repeat} {op:Option Int} {sv:V} {nm:Nat} {os:List Nat} {tp:Option Nat}
theorem Stk.rep (T:Stk H0 H rs op sv nm os tp) {w:Wd} (C:w.g=H.get) (D:∀ o,w.M o->o<H0.next):Rep XK szK w (.list 26 (rs++oR op) none) sv:=by
 have u:(os++tp.toList).length=(rs++oR op).length:=by
  rcases T.top with ⟨a,b⟩ | ⟨f,o,a,b,_⟩<;>simp [a,b,oR,T.len]
 have x:∀ (j o:Nat) (r:Repeat),(os++tp.toList)[j]? = some o->(rs++oR op)[j]? = some r->∃ cs g z ex,H.get o=some (.row (cR r++cs) 125 g 0 z ex):=by
  intro j o r a b;by_cases v:j<os.length
  .rw [List.getElem?_append_left v] at a;rw [List.getElem?_append_left (by rw [<-T.len];exact v)] at b;exact T.obj j o r a b
  .rw [List.getElem?_append_right (by omega)] at a;rw [List.getElem?_append_right (by rw [<-T.len];omega),<-T.len] at b;rcases T.top with ⟨_,l⟩ | ⟨f,L,F,l,y⟩
   .rw [l] at a;simp at a
   .rw [l] at a;rw [F] at b;simp only [Option.toList_some,oR] at a b;have G:=(List.getElem?_eq_some_iff.1 a).1;have A:j-os.length=0:=by simpa using G
    rw [A] at a b;simp only [List.getElem?_cons_zero,zS] at a b;subst a b;exact ⟨[],0,0,true,by rw [zJ];exact y⟩
 rcases T.sv with ⟨E,rfl⟩ | ⟨E,a,b,rfl,l⟩
 .rw [E] at u;have:rs++oR op=[]:=List.length_eq_zero_iff.1 u.symm;rw [this];exact .nlist trivial
 .refine .list (by rw [C];exact l) (Nat.zero_le _) (λh=>by have:=D _ h;omega) u (by rw [Nat.zero_add,List.length_map];exact Nat.le_of_eq (Nat.mul_one _)) ⟨by decide,.inl rfl⟩ (λk h=>by cases h) (λi hi j p n=>?_) trivial;have c:i<(os++tp.toList).length:=by rw [u];exact hi
  have n:[P.eptr [.int .i64 none ((rs++oR op)[i]'hi).From,.int .i64 none ((rs++oR op)[i]'hi).To,.int .i64 none ((rs++oR op)[i]'hi).N] 0][j]? = some p:=n;have v:=(List.getElem?_eq_some_iff.1 n).1;have B:j=0:=by simpa using v
  subst B;simp only [List.getElem?_cons_zero,zS] at n;subst n;have I:szK 26=1:=rfl;have s:((os++tp.toList).map pO).getD (0+i * szK 26+0) zs=pO ((os++tp.toList)[i]'c):=by
   rw [I,Nat.zero_add,Nat.mul_one,Nat.add_zero,List.getD_eq_getElem?_getD,List.getElem?_map,List.getElem?_eq_getElem c];rfl
  rw [s];obtain ⟨cs,g,z,ex,y⟩:=x i _ _ (List.getElem?_eq_getElem c) (List.getElem?_eq_getElem hi);have J:¬ w.M ((os++tp.toList)[i]'c):=λh=>by
   have:=D _ h;have:=T.new _ (List.getElem_mem c);omega
  refine Rep.eptr (d:=0) (lim:=3) (off:=0) (gn:=0) (by rw [C];exact y) (Nat.zero_le _) J (zN 3) (by simp [cR]) (λk q e=>?_);have K:k<3:=(List.getElem?_eq_some_iff.1 e).1
  match k,K with
  | 0,_=>simp only [List.getElem?_cons_zero,zS] at e;subst e;exact .int λm t=>by cases t
  | 1,_=>simp only [List.getElem?_cons_succ,List.getElem?_cons_zero,zS] at e;subst e;exact .int λm t=>by cases t
  | 2,_=>simp only [List.getElem?_cons_succ,List.getElem?_cons_zero,zS] at e;subst e;exact .int λm t=>by cases t
end
def tF (l:List Sign) (i:Int) (o:Bool):Tree (PV KT):=((((Tree.nil).set 10 (.list 4 l none)).set 11 (.int .i64 none (ln l))).set 12 (.int .i64 none i)).set 6 (.sb 0 false o (o=true) (o=false))
def cS (s:Sign):List (PV KT):=qck 4 s
def cS4 (s:Sign):List (PV KT):=[.int .i64 none s.Kind,.int .i64 none s.Value,.int .i64 none s.Place,.int .i64 none s.Acc,.sb 4 false s.Color (s.Color=true) (s.Color=false),.int .i64 none s.Stem,.sb 5 false s.Oblique (s.Oblique=true) (s.Oblique=false),.sb 6 false s.Last (s.Last=true) (s.Last=false),.int .i64 none s.MensMax,.int .i64 none s.MensMod,.int .i64 none s.MensTem,.int .i64 none s.MensPro,.sb 7 false s.Stroke (s.Stroke=true) (s.Stroke=false),.int .i64 none s.N,.int .i64 none s.D,.int .i64 none s.ClefStep,.int .i64 none s.ClefLine]
def kI (l:List Sign) (i:Int) (rs:List Repeat) (op:Option Int) (ex:Ex) (st:StV KT):Prop:=
 (Go.E3.look st.owns 1=some 0/\Go.E3.look st.owns 2=some 0)/\match ex with
 | .exit 0=>ln l<=i/\st.tmps.get 6=some (.sb 0 false op.isSome (op.isSome=true) (op.isSome=false))
 | .exit 1000014=>i<ln l/\st.tmps.get 7=some (.int .i64 none i)/\op=none/\(ix l i).Kind=9/\st.tmps.get 12=some (.int .i64 none i)
 | .exit 1000018=>i<ln l/\st.tmps.get 7=some (.int .i64 none i)/\op.isSome=true/\(ix l i).Kind=10/\st.tmps.get 8=some (.cell 8 0 17)/\Go.E3.look st.cells 8=some (.cs (some 49) (cS4 (ix l i)))/\st.tmps.get 12=some (.int .i64 none i)
 | .normal=>i<ln l/\st.tmps.get 12=some (.int .i64 none (i+1))/\st.tmps.get 6=some (.sb 0 false op.isSome (op.isSome=true) (op.isSome=false))/\qbd (l.drop i.toNat) i rs op=qbd (l.drop (i.toNat+1)) (i+1) rs op
 | .ret=>st.tmps.get 2=some .nils/\st.tmps.get 3=some (.int .i64 none i)/\st.tmps.get 4=some (.lit false)/\qbd (l.drop i.toNat) i rs op=([],i,false)
 | _=>False
def sI (l:List Sign) (i j:Int) (o:Bool):StV KT:=
 {tmps:=(((((((Tree.nil).set 2 .nils).set 3 (.int .i64 none i)).set 4 (.lit false)).set 7 (.int .i64 none i)).set 8 (.cell 8 0 17)).set 12 (.int .i64 none j)).set 6 (.sb 0 false o (o=true) (o=false)),n:=66,cells:=[(8,.cs (some 49) (cS4 (ix l i)))],owns:=[(1,0),(2,0)],next:=13,known:=[]}
theorem vcI (l:List Sign) (i:Int) (rs:List Repeat) (op:Option Int):jq AF (cfg sp) (q8b (sp:=sp)) none 62 1 (hol gI cL.1) (stW (tF l i op.isSome) 66) (kI l i rs op) =
 ((i<ln l->Wn i (ln l)/\
   (((ix l i).Kind=5->(op.isSome=true->kI l i rs op .ret (sI l i i op.isSome))/\(op.isSome=false->I64 (i+1)/\kI l i rs op .normal (sI l i (i+1) op.isSome)))/\
    ((ix l i).Kind≠5->
     ((ix l i).Kind=6->(op.isSome=true->kI l i rs op .ret (sI l i i op.isSome))/\(op.isSome=false->I64 (i+1)/\kI l i rs op .normal (sI l i (i+1) op.isSome)))/\
     ((ix l i).Kind≠6->
      ((ix l i).Kind=9->(op.isSome=true->kI l i rs op .ret (sI l i i op.isSome))/\(op.isSome=false->kI l i rs op (.exit 1000014) (sI l i i op.isSome)))/\
      ((ix l i).Kind≠9->
       ((ix l i).Kind=10->(op.isSome=false->kI l i rs op .ret (sI l i i op.isSome))/\(op.isSome=true->kI l i rs op (.exit 1000018) (sI l i i op.isSome)))/\
       ((ix l i).Kind≠10->I64 (i+1)/\kI l i rs op .normal (sI l i (i+1) op.isSome)))))))/\
  (ln l<=i->kI l i rs op (.exit 0) (sI l i i op.isSome))):=by kernel_rfl
theorem q2l {l:List Sign} {i:Nat} (h:(i:Int)<ln l):l.drop ((i:Int).toNat)=ix l i::l.drop ((i:Int).toNat+1):=by
 have hi:i<l.length:=by have:(i:Int)<(l.length:Int):=h;omega
 rw [Int.toNat_natCast,List.drop_eq_getElem_cons hi];congr 1;simp [ix,List.getD_eq_getElem?_getD,hi]
theorem okI (l:List Sign) (i:Nat) (rs:List Repeat) (op:Option Int) (j:ln l<=1000000000):jq AF (cfg sp) (q8b (sp:=sp)) none 62 1 (hol gI cL.1) (stW (tF l i op.isSome) 66) (kI l i rs op):=by
 rw [vcI];have b:∀ (hi:(i:Int)<ln l),qbd (l.drop ((i:Int).toNat)) i rs op=([],(i:Int),false)->kI l i rs op .ret (sI l i i op.isSome):=λ_ h=>⟨⟨rfl,rfl⟩,rfl,rfl,rfl,h⟩;have c:∀ (hi:(i:Int)<ln l),qbd (l.drop ((i:Int).toNat)) i rs op=qbd (l.drop ((i:Int).toNat+1)) (i+1) rs op->kI l i rs op .normal (sI l i (i+1) op.isSome):=λhi h=>⟨⟨rfl,rfl⟩,hi,rfl,rfl,h⟩;refine ⟨λhi=>⟨⟨Int.natCast_nonneg _,hi⟩,?_⟩,λh=>⟨⟨rfl,rfl⟩,h,rfl⟩⟩;have a:I64 ((i:Int)+1):=⟨by omega,by have:(i:Int)<(l.length:Int):=hi;omega⟩;have e:=q2l hi;refine ⟨λk=>⟨λo=>b hi ?_,λo=>⟨a,c hi ?_⟩⟩,λm=>⟨λk=>⟨λo=>b hi ?_,λo=>⟨a,c hi ?_⟩⟩,λn=>⟨λk=>⟨λo=>b hi ?_,λo=>⟨⟨rfl,rfl⟩,hi,rfl,?_,k,rfl⟩⟩,λg=>⟨λk=>⟨λo=>b hi ?_,λo=>⟨⟨rfl,rfl⟩,hi,rfl,o,k,rfl,rfl,rfl⟩⟩,λd=>⟨a,c hi ?_⟩⟩⟩⟩⟩
 .rw [e,qcq,zT (.inl k),zT o]
 .rw [e,qcq,zT (.inl k),zF (by rw [o];decide)]
 .rw [e,qcq,zT (.inr k),zT o]
 .rw [e,qcq,zT (.inr k),zF (by rw [o];decide)]
 .rw [e,qcq,zF (by omega),zT k,zT o]
 .cases op with
  | none=>rfl
  | some f=>cases o
 .cases op with
  | none=>rw [e,qcq,zF (by omega),zF (by omega),zT k]
  | some f=>cases o
 .rw [e,qcq,zF (by omega),zF g,zF d]
variable {sp:Nat->Option (List V->Heap->Option (CR×Heap))}
structure JF (l:List Sign) (vl:V) (H0:Heap) (i:Nat) (rs:List Repeat) (op:Option Int) (fr:Fr) (H:Heap):Prop where
 kp:Keeps H0 H
 wf:∀ n,H.next<=n->H.get n=none
 n:fr.n=66
 ds:fr.defers=[]
 t10:fr.tmp 10=some vl
 t11:fr.tmp 11=some (.int .i64 (ln l))
 t12:fr.tmp 12=some (.int .i64 i)
 t6:fr.tmp 6=some (.bool op.isSome)
 stk:∃ sv nm os tp,fr.tmp 5=some sv/\Stk H0 H rs op sv nm os tp
 is:i<=l.length/\(rs++oR op).length<=i
 go:qbd (l.drop i) i rs op=kf l
def RF (l:List Sign) (H0:Heap) (M:Nat->Prop) (fr:Fr) (H:Heap):Prop:=
 Keeps H0 H/\(∀ n,H.next<=n->H.get n=none)/\fr.defers=[]/\∃ v,fr.tmp 2=some v/\fr.tmp 3=some (.int .i64 (kf l).2.1)/\fr.tmp 4=some (.bool (kf l).2.2)/\∃ w:Wd,w.g=H.get/\(∀ n,M n->w.M n)/\Rep XK szK w (.list 26 (kf l).1 none) v
theorem qe9 {w:Wd} {k:IntKind} {lit:Option Int} {n:Int} {v:V} (h:Rep XK szK w (.int k lit n) v):v=.int k n:=by cases h;rfl
theorem zgd {w:Wd} {id:Nat} {neg b:Bool} {a c:Prop} {v:V} (h:Rep XK szK w (.sb id neg b a c) v):v=.bool b:=by cases h;rfl
theorem qwo {w:Wd} {b:Bool} {v:V} (h:Rep XK szK w (.lit b) v):v=.bool b:=by cases h;rfl
theorem q6r {w:Wd} {v:V} (h:Rep XK szK w .nils v):v=.nils:=by cases h;rfl
def kD (i:Int) (ex:Ex) (st:StV KT):Prop:=(Go.E3.look st.owns 1=some 0/\Go.E3.look st.owns 2=some 0)/\ex=.normal/\st.tmps.get 12=some (.int .i64 none (i+1))
theorem vcD (i:Int):jq AF (cfg sp) (q8b (sp:=sp)) none 62 1 cE (stW ((Tree.nil).set 12 (.int .i64 none i)) 66) (kD i)=(I64 (i+1)/\kD i .normal (stW ((Tree.nil).set 12 (.int .i64 none (i+1))) 66)):=by kernel_rfl
theorem nd1:[5,6,10,11].all (λt=>!(qdy cE).contains t)=true:=by kernel_rfl
theorem nd2:[5,10,11].all (λt=>!(qdy (hol gI cL.1)).contains t)=true:=by kernel_rfl
theorem nd3:[5,10,11,12].all (λt=>!(qdy c19).contains t)=true:=by kernel_rfl
theorem ndt {l d:List Nat} {t:Nat} (h:l.all (λt=>!d.contains t)=true) (a:t ∈ l):t ∉ d:=λb=>by
 have:=List.all_eq_true.1 h t a;simp [b] at this
theorem zlo (r:qt (cfg sp)) {H0 H:Heap} {M:Nat->Prop} (S:Go.E3.Start XK szK (cfg sp) H0 M) {l:List Sign} {p:V} {i:Nat} {rs:List Repeat} {op:Option Int} {fr:Fr} (s:Keeps H0 H) (wf:∀ n,H.next<=n->H.get n=none) (n:fr.n=66) (ds:fr.defers=[])
  (b:fr.tmp 10=some p) (c:fr.tmp 11=some (.int .i64 (ln l))) (d:fr.tmp 12=some (.int .i64 i)) (u:fr.tmp 6=some (.bool op.isSome)) (e:∃ sv nm os tp,fr.tmp 5=some sv/\Stk H0 H rs op sv nm os tp)
  (hi:(i:Int)<ln l) (w:ln l<=1000000000) (x:(rs++oR op).length<=i+1) (go:qbd (l.drop (i+1)) (i+1) rs op=kf l):Wp (cfg sp).E 62 none cE fr H λex fr' H'=>ex=.normal/\JF l p H0 (i+1) rs op fr' H':=by
 obtain ⟨sv,nm,os,tp,y,T⟩:=e;have z:i<l.length:=by have:(i:Int)<(l.length:Int):=hi;omega
 have A:l.length<=1000000000:=by have:(l.length:Int)<=1000000000:=w;omega
 refine (zej r S s wf T (t:=(Tree.nil).set 12 (.int .i64 none i)) (k:=kD i) (by kernel_rfl) ds (qe0 qs2 d (.int λm B=>by cases B)) (λex st h=>h.1) ?_).mono λex fr' H' C=>?_
 .rw [n,vcD];exact ⟨⟨by omega,by omega⟩,⟨rfl,rfl⟩,rfl,rfl⟩
 .obtain ⟨⟨D,w',⟨_,F,g⟩,G,_⟩,I,j,o,a,J,K⟩:=C;obtain ⟨v,q,L⟩:=G.f 12 _ g;rw [qe9 L] at q;have N:=(a 5 (ndt nd1 (by simp))).trans y;exact ⟨F,j,o,J.trans n,K,(a 10 (ndt nd1 (by simp))).trans b,(a 11 (ndt nd1 (by simp))).trans c,q,(a 6 (ndt nd1 (by simp))).trans u,⟨sv,nm,os,tp,N,I⟩,⟨by omega,x⟩,by rw [<-go];simp⟩
def sC (f i:Int) (s:Sign) (b:Int×Int) (t:Tree (PV KT)):StV KT:=
 {tmps:=t,n:=66,cells:=[(1,.cs (some 125) [.int .i64 none f,.int .i64 none b.1,.int .i64 none b.2]),(2,.cs (some 49) (cS s))],owns:=[(3,0)],next:=4,known:=[]}
def tC (i:Int):Tree (PV KT):=(((Tree.nil).set 9 (.cell 1 0 3)).set 7 (.int .i64 none i)).set 8 (.cell 2 0 17)
def kC (f i:Int) (s:Sign) (ex:Ex) (st:StV KT):Prop:=
 Go.E3.look st.owns 3=some 0/\ex=.normal/\st.tmps.get 6=some (.lit false)/\Go.E3.look st.cells 1=some (.cs (some 125) [.int .i64 none f,.int .i64 none i,.int .i64 none s.N])
theorem vcC (f i:Int) (s:Sign):jq AF (cfg sp) (q8b (sp:=sp)) none 62 1 c19 (sC f i s (0,0) (tC i)) (kC f i s)=kC f i s .normal (sC f i s (i,s.N) ((tC i).set 6 (.lit false))):=by kernel_rfl
def zut:PV KT->PV KT
 | .sb _ _ b a c=>.sb 0 false b a c
 | p=>p
def zlh:PV KT->Bool
 | .int _ none _=>true
 | .sb ..=>true
 | _=>false
theorem zgc {w w':Wd} {p:PV KT} {v:V} (a:zlh p=true) (h:Rep XK szK w p v):Rep XK szK w' (zut p) v:=by
 cases h with
 | int _=>exact .int λm b=>by subst b;cases a
 | sb c d f=>exact .sb c d λe=>absurd rfl e
 | _=>cases a
theorem zh2 (s:Sign):(cS4 s).all zlh=true:=rfl
theorem zp6 {w w':Wd} {s:Sign} {vs:List V} (h:ql XK szK w (cS4 s) vs):ql XK szK w' (cS s) vs:=by
 have e:cS s=(cS4 s).map zut:=rfl;rw [e];refine ⟨by rw [List.length_map];exact h.1,λj p a=>?_⟩;rw [List.getElem?_map] at a;obtain ⟨q,b,rfl⟩:=zM.1 a;exact zgc (List.all_eq_true.1 (zh2 s) q (List.mem_of_getElem? b)) (h.2 j q b)
theorem znl (hq:qt (cfg sp)) {H0 H:Heap} {M:Nat->Prop} (S:Go.E3.Start XK szK (cfg sp) H0 M) {rs:List Repeat} {f i:Int} {Z:V} {nm o a:Nat} {os:List Nat} {s:Sign} {fr:Fr} {vs:List V} {e:TypeId} {ex:Bool} (kp:Keeps H0 H) (wf:∀ n,H.next<=n->H.get n=none) (T:Stk H0 H rs (some f) Z nm os (some o))
  (n:fr.n=66) (ds:fr.defers=[]) (t5:fr.tmp 5=some Z) (t9:fr.tmp 9=some (pO o)) (t7:fr.tmp 7=some (.int .i64 i)) (t8:fr.tmp 8=some (.ptr a 0 0 17)) (ha:H.get a=some (.row vs e 0 0 0 ex)) (a0:e=49/\ex=true) {wa:Wd} (hs:ql XK szK wa (cS4 s) vs) (X:H0.next<=a/\a ∉ nm::(os++[o])) :
  Wp (cfg sp).E 62 none c19 fr H λex fr' H'=>ex=.normal/\Keeps H0 H'/\(∀ n,H'.next<=n->H'.get n=none)/\fr'.n=66/\fr'.defers=[]/\fr'.tmp 6=some (.bool false)/\(∀ t,t=5∨t=10∨t=11∨t=12->fr'.tmp t=fr.tmp t)/\Stk H0 H' (rs++[⟨f,i,s.N⟩]) none Z nm (os++[o]) none:=by
 have K:os++(some o).toList=os++[o]:=rfl;have d:(os++[o])++(none:Option Nat).toList=os++[o]:=zJ _;have b:=T.new;have q:=T.nd;have L:=T.sv;rw [K] at b q L;rcases T.top with ⟨h,_⟩ | ⟨f',o',h1,h2,u⟩
 .cases h
 cases h1;cases h2;rcases L with ⟨h0,_⟩ | ⟨h0,O,P,a1,v⟩
 .simp at h0
 have k:o ∈ os++[o]:=by simp
 have Q:a≠o:=λh=>X.2 (zG _ (h ▸ k));have a2:a≠nm:=λh=>X.2 (h ▸ zC);have a3:nm≠o:=λh=>P (h ▸ k);have aa:∀ x,H0.next<=x->¬ M x:=λx h h2=>by have:=S.Mlt x h2;omega
 let M':Nat->Prop:=λx=>M x∨x=o∨x=a;let cc:Nat->Nat:=λid=>if id=1 then o else a
 let I:Nat->Option Nat:=λj=>if j=3 then some nm else none
 let st:StV KT:=sC f i s (0,0) (tC i);let w:Wd:=Go.E3.wdS (cfg sp) H0 H M' st cc I;have y:∀ x,M' x->x<H0.next∨x=o∨x=a:=λx h=>h.imp (S.Mlt x) id
 have R:RelH XK szK (cfg sp) H0 st H w:=by
  refine za3 zi S kp wf rfl (by show 1<=4;omega) (λx hx=>⟨λh=>h.elim id λh=>?_,.inl⟩) (λx h=>?_) (λid ct h=>?_) (λid a4 h Y he=>?_) (λj z h=>?_) (λj x h=>?_) (λj j' x h Y=>?_)
  .have:=b o k;omega
  .rcases y x h with h | rfl | rfl
   .exact zL h kp.next
   .exact qlv wf u
   .exact qlv wf ha
  .have:=qco h;simp only [st,sC,zD,zP,List.not_mem_nil,or_false] at this;rcases this with ⟨rfl,rfl⟩ | ⟨rfl,rfl⟩
   .refine ⟨by show 1<4;omega,qlv wf u,b o k,.inr (.inl rfl),_,_,_,u,⟨rfl,rfl⟩,?_⟩;exact ql.cons (.int λm l=>by cases l) (ql.cons (.int λm l=>by cases l) (ql.cons (.int λm l=>by cases l) .nil))
   .exact ⟨by show 2<4;omega,qlv wf ha,X.1,.inr (.inr rfl),_,_,_,ha,a0,zp6 hs⟩
  .have U:∀ id,Go.E3.look st.cells id≠none->id=1∨id=2:=λid h=>by
    cases hl:Go.E3.look st.cells id with
    | none=>exact absurd hl h
    | some ct=>
     have:=qco hl;simp only [st,sC,zD,zP,List.not_mem_nil,or_false] at this;omega
   rcases U id h with rfl | rfl<;>rcases U a4 Y with rfl | rfl
   .rfl
   .exact absurd he.symm Q
   .exact absurd he Q
   .rfl
  .have:=qco h;simp only [st,sC,zD,zP,List.not_mem_nil,or_false] at this;show j<4;omega
  .by_cases A:j=3
   .simp only [I,zT A,zS] at h;subst h;exact ⟨O,qlv wf v,λh=>by
     rcases y _ h with h | h | h
     .omega
     .exact a3 h
     .exact a2 h.symm⟩
   .simp only [I,zF A] at h;cases h
  .by_cases A:j=3
   .by_cases a5:j'=3
    .omega
    .simp only [I,zF a5] at Y;cases Y
   .simp only [I,zF A] at h;cases h
 have F:qmy XK szK w (tC i) fr:=qe0 (qe0 (qe0 qs2 t9 (.cell (by show 1<4;omega))) t7 (.int λm l=>by cases l)) t8 (.cell (id:=2) (by show 2<4;omega));have W:Rel XK szK (cfg sp) H0 st fr H w:=⟨R,F,n,by rw [ds];exact .nil (Nat.zero_le _)⟩;have hw:jq AF (cfg sp) (q8b (sp:=sp)) none 62 1 c19 st (kC f i s):=by
  rw [show st=sC f i s (0,0) (tC i) from rfl,vcC];exact ⟨rfl,rfl,rfl,rfl⟩
 refine (zbq (by kernel_rfl) (Go.E3.Wp.frame (zx (rd:=none) (round:=none) zi ze qlf (qlh zi ze qlf hq 0) trivial W hw))).mono λex fr' H' hA=>?_;obtain ⟨⟨⟨_,ab,w',⟨k1,k2,k3,k4⟩,B,le⟩,h3,h4⟩,h5⟩:=hA;obtain ⟨v6,e1,e2⟩:=B.f 6 _ k3;rw [qwo e2] at e1;have C:∀ t,t=5∨t=10∨t=11∨t=12->t ∉ qdy c19:=λt ht=>ndt nd3 (by simpa using ht);have a6:w'.c 1=o:=le.c 1 (by show 1<4;omega);obtain ⟨_,_,a7,e',ex',g1,⟨rfl,rfl⟩,D⟩:=B.h.cells 1 _ k4;rw [a6] at g1;have a8:a7=cR ⟨f,i,s.N⟩:=by
  obtain ⟨x1,r1,rfl,q1,D⟩:=D.zk;obtain ⟨x2,r2,rfl,q2,D⟩:=D.zk;obtain ⟨x3,r3,rfl,q3,D⟩:=D.zk;rw [qe9 q1,qe9 q2,qe9 q3,D.z6];rfl
 subst a8;refine ⟨k2,B.h.keeps,B.h.wf,h4.trans n,h5.trans ds,e1,λt ht=>h3 t (C t ht),⟨?_,.inl ⟨rfl,rfl⟩,λj x r p J=>?_,by rw [d];exact b,by rw [d];exact q,?_⟩⟩
 .simp [T.len]
 .by_cases A:j<os.length
  .rw [List.getElem?_append_left A] at p;rw [List.getElem?_append_left (by rw [<-T.len];exact A)] at J;obtain ⟨cs,g,z,ex,j3⟩:=T.obj j x r p J;have G:=List.mem_of_getElem? p;have l:¬ M' x:=λh=>by
    rcases y x h with h | h | h
    .have:=b x (List.mem_append_left _ G);omega
    .exact (List.nodup_append.1 q).2.2 x G o (by simp) h
    .exact X.2 (h ▸ zG _ (List.mem_append_left _ G))
   obtain ⟨_,cs2,g',z',ex',j4⟩:=le.mem x _ _ _ _ _ _ j3 l;exact ⟨cs++cs2,g',z',ex',by rw [<-B.h.g,j4,List.append_assoc]⟩
  .rw [List.getElem?_append_right (by omega)] at p;rw [List.getElem?_append_right (by rw [<-T.len];omega),<-T.len] at J;have hz:=(List.getElem?_eq_some_iff.1 p).1;have a9:j-os.length=0:=by simpa using hz
   rw [a9] at p J;simp only [List.getElem?_cons_zero,zS] at p J;subst p J;exact ⟨[],0,0,true,by rw [zJ];exact g1⟩
 .rw [d];refine .inr ⟨h0,O,P,a1,?_⟩;have ko:=(le.o3 3 0 (by show 3<4;omega) rfl (by rw [B.h.owns];exact k1)).2 nm (by simp [w,Go.E3.wdS,I]) (by show H.get nm≠_;rw [v];simp);rw [<-B.h.g,ko];exact v
variable {sp:Nat->Option (List V->Heap->Option (CR×Heap))}
structure XF (l:List Sign) (H0:Heap) (rs:List Repeat) (op:Option Int) (fr:Fr) (H:Heap):Prop where
 kp:Keeps H0 H
 wf:∀ n,H.next<=n->H.get n=none
 n:fr.n=66
 ds:fr.defers=[]
 t6:fr.tmp 6=some (.bool op.isSome)
 stk:∃ sv nm os tp,fr.tmp 5=some sv/\Stk H0 H rs op sv nm os tp
 is:(rs++oR op).length<=l.length
 go:qbd [] l.length rs op=kf l
theorem zqa (hq:qt (cfg sp)) {H0 H:Heap} {M:Nat->Prop} (S:Go.E3.Start XK szK (cfg sp) H0 M) {l:List Sign} {vl:V} (hv:Rep XK szK (wd0 H0 M (cfg sp).codec) (.list 4 l none) vl) (hl:ln l<=1000000000) {i:Nat} {rs:List Repeat} {op:Option Int} {fr:Fr} (J:JF l vl H0 i rs op fr H) :
  Wp (cfg sp).E 62 none cL.1 fr H λex fr' H'=>(ex=.normal/\∃ a1 a2,(i:Int)<ln l/\JF l vl H0 (i+1) a1 a2 fr' H')∨(ex=.exit 0/\XF l H0 rs op fr' H')∨(ex=.ret/\RF l H0 M fr' H'):=by
 obtain ⟨sv,nm,os,tp,t5,T⟩:=J.stk;have af:l.length<=1000000000:=by have:(l.length:Int)<=1000000000:=hl;omega
 have X:rs.length<=1000000000:=by
  have A:=J.is.2;rw [List.length_append] at A;have:=J.is.1;omega
 have F:qmy XK szK (Go.E3.wdS (cfg sp) H0 H M (stW (tF l i op.isSome) fr.n) (λ_=>0) (qxn nm os tp)) (tF l i op.isSome) fr:=
  qe0 (qe0 (qe0 (qe0 qs2 J.t10 (hv.qbb ztm (zey J.kp S.wf λ_ _=>.rfl))) J.t11 (.int λm w=>by cases w)) J.t12 (.int λm w=>by cases w)) J.t6 (.sb .rfl .rfl λh=>absurd rfl h)
 have Y:qft gI cL.1=[14,18]:=by kernel_rfl
 have h0:=zej hq S J.kp J.wf T (k:=kI l i rs op) (by kernel_rfl:qel (hol gI cL.1)=true) J.ds F (λex st h=>h.1) (by rw [J.n];exact okI l i rs op hl);have B:qbd (l.drop ((i:Int).toNat)) i rs op=kf l:=by rw [Int.toNat_natCast];exact J.go
 refine zrb (h:=gI) (by kernel_rfl) (by rw [Y];decide) h0 (λex fr' H' Z hA=>?_) (λj L fr' H' hA=>?_)
 .obtain ⟨⟨a,w',⟨_,r⟩,b,le⟩,O,p,q,P,K,W⟩:=hA;have f5:=(P 5 (ndt nd2 (by simp))).trans t5;have C:=(P 10 (ndt nd2 (by simp))).trans J.t10;have D:=(P 11 (ndt nd2 (by simp))).trans J.t11;split at r
  .obtain ⟨hi,k6⟩:=r;obtain ⟨v',d,G⟩:=b.f 6 _ k6;rw [zgd G] at d;have a3:i=l.length:=by
    have:=J.is.1;have:(l.length:Int)<=(i:Int):=hi;omega
   subst a3;exact .inr (.inl ⟨rfl,p,q,K.trans J.n,W,d,⟨sv,nm,os,tp,f5,O⟩,J.is.2,by rw [<-J.go,List.drop_length]⟩)
  .have:=Z _ rfl;omega
  .have:=Z _ rfl;omega
  .obtain ⟨hi,s,k6,kg⟩:=r;obtain ⟨v,y,Q⟩:=b.f 12 _ s;rw [qe9 Q] at y;obtain ⟨v',d,G⟩:=b.f 6 _ k6;rw [zgd G] at d;refine .inl ⟨rfl,rs,op,hi,p,q,K.trans J.n,W,C,D,y,d,⟨sv,nm,os,tp,f5,O⟩,⟨?_,?_⟩,?_⟩
   .have:(i:Int)<(l.length:Int):=hi;omega
   .have:=J.is.2;omega
   .rw [<-B,kg,Int.toNat_natCast];simp
  .obtain ⟨k2,k3,k4,kg⟩:=r;obtain ⟨v2,y,Q⟩:=b.f 2 _ k2;obtain ⟨v3,d,G⟩:=b.f 3 _ k3;obtain ⟨v4,e5,e6⟩:=b.f 4 _ k4;rw [qe9 G] at d;rw [qwo e6] at e5;have hr:kf l=([],(i:Int),false):=B.symm.trans kg;refine .inr (.inr ⟨rfl,p,q,W,v2,y,?_,?_,w',b.h.g,λn K=>le.Mu n (S.Mlt n K) K,?_⟩)
   .rw [hr];exact d
   .rw [hr];exact e5
   .rw [hr,q6r Q];exact .nlist trivial
  .exact absurd r id
 .obtain ⟨⟨a,w',⟨_,r⟩,b,le⟩,O,p,q,P,K,W⟩:=hA;have f5:=(P 5 (ndt nd2 (by simp))).trans t5;have C:=(P 10 (ndt nd2 (by simp))).trans J.t10;have D:=(P 11 (ndt nd2 (by simp))).trans J.t11;rw [Y] at L;simp only [zD,List.not_mem_nil,or_false] at L;rcases L with rfl | rfl
  .have r:(i:Int)<ln l/\a.tmps.get 7=some (.int .i64 none i)/\op=none/\(ix l i).Kind=9/\a.tmps.get 12=some (.int .i64 none i):=r;obtain ⟨hi,k7,rfl,kk,s⟩:=r;have a4:tp=none:=by
    rcases O.top with ⟨_,h⟩ | ⟨f,o,h,_⟩
    .exact h
    .cases h
   subst a4;obtain ⟨v,y,Q⟩:=b.f 7 _ k7;rw [qe9 Q] at y;obtain ⟨v',d,G⟩:=b.f 12 _ s;rw [qe9 G] at d;rw [zp7];refine za (qah (qah (qcs ((q8p p q S.ro.1 O (K.trans J.n) f5 y X).mono λex a5 H2 hB=>?_))));obtain ⟨rfl,⟨a6,nm',o,b5,T2⟩,a7,a8,b6,u⟩:=hB;refine qa3 (qa3 (qk ?_));refine (zlo hq S a7 a8 u.n (u.ds.trans W) ((u.t 10 (by simp)).trans C) ((u.t 11 (by simp)).trans D) ((u.t 12 (by simp)).trans d) b6 (rs:=rs) (op:=some (i:Int)) ⟨a6,nm',os,some o,b5,T2⟩ hi hl ?_ ?_).mono λex a9 H3 hC=>.inl ⟨hC.1,rs,some (i:Int),hi,hC.2⟩
   .have:=J.is.2;simp only [oR,zJ,List.length_append,List.length_cons,List.length_nil] at this ⊢;omega
   .rw [<-B,q2l hi,qcq,zF (by omega),zT kk,zF (by simp),Int.toNat_natCast]
  .have r:(i:Int)<ln l/\a.tmps.get 7=some (.int .i64 none i)/\op.isSome=true/\(ix l i).Kind=10/\a.tmps.get 8=some (.cell 8 0 17)/\Go.E3.look a.cells 8=some (.cs (some 49) (cS4 (ix l i)))/\a.tmps.get 12=some (.int .i64 none i):=r;obtain ⟨hi,k7,ko,kk,k8,kc,s⟩:=r;obtain ⟨f,rfl⟩:=Option.isSome_iff_exists.1 ko;obtain ⟨o,rfl,go⟩:∃ o,tp=some o/\H.get o=some (.row (cR ⟨f,0,0⟩) 125 0 0 0 true):=by
    rcases T.top with ⟨h,_⟩ | ⟨f',o,A,R,h3⟩
    .cases h
    .cases A;exact ⟨o,R,h3⟩
   obtain ⟨v,y,Q⟩:=b.f 7 _ k7;rw [qe9 Q] at y;obtain ⟨v',d,G⟩:=b.f 12 _ s;rw [qe9 G] at d;obtain ⟨v8,e5,e6⟩:=b.f 8 _ k8;obtain ⟨c1,c2,vs,e,ex,c3,c4,c5⟩:=b.h.cells 8 _ kc;have aa:=b.h.cl 8 c1;have ab:∀ x,H0.next<=x->¬ M x:=λx h R=>by have:=S.Mlt x R;omega
   have a0:w'.c 8 ∉ nm::(os++[o]):=by
    have U:∀ x cs e g fl z ex,H0.next<=x->H.get x=some (.row cs e g fl z ex)->w'.c 8≠x:=λx cs e g fl z ex A R he=>by
     have:=(le.mem x cs e g fl z ex R (ab x A)).1;rw [<-he] at this;exact this c2
    intro w;rcases zD.1 w with w | w
    .rcases T.sv with ⟨h,_⟩ | ⟨_,A,_,_,R⟩
     .simp at h
     .exact U nm _ _ _ _ _ _ A R w
    .rcases List.mem_append.1 w with I | I
     .obtain ⟨j,L,he⟩:=List.mem_iff_getElem.1 I;obtain ⟨cs,g,z,ex,A⟩:=T.obj j _ (rs[j]'(by rw [<-T.len];exact L)) (by rw [List.getElem?_eq_getElem L,he]) (by rw [List.getElem?_eq_getElem (by rw [<-T.len];exact L)]);exact U _ _ _ _ _ _ _ (T.new _ w) A rfl
     .rw [List.mem_singleton] at I;exact U o _ _ _ _ _ _ (T.new _ (by simp)) go I
   have e8:fr'.tmp 8=some (.ptr (w'.c 8) 0 0 17):=by
    cases e6;exact e5
   rw [zp8];refine za (qah (qah (za (qcs ((q44 O (K.trans J.n) f5 X).mono λex a5 H2 hB=>?_)))));obtain ⟨rfl,rfl,b9,u,b5,b7,b8⟩:=hB;refine qk ?_;refine (znl hq S p q O u.n (u.ds.trans W) b5 b9 (b7.trans y) (b8.trans e8) c3 c4 c5 ⟨aa.2.2,a0⟩).mono λex a9 H3 hC=>?_;obtain ⟨rfl,ad,ae,n3,d3,d6,dt,T3⟩:=hC;refine qa3 (qa3 (qk ?_));refine (zlo hq S ad ae n3 d3 ((dt 10 (by simp)).trans ((u.t 10 (by simp)).trans C)) ((dt 11 (by simp)).trans ((u.t 11 (by simp)).trans D)) ((dt 12 (by simp)).trans ((u.t 12 (by simp)).trans d)) d6 (rs:=rs++[⟨f,i,(ix l i).N⟩]) (op:=none) ⟨sv,nm,os++[o],none,(dt 5 (by simp)).trans b5,T3⟩ hi hl ?_ ?_).mono λex ag H4 hD=>.inl ⟨hD.1,_,none,hi,hD.2⟩
   .have:=J.is.2;simp only [oR,zJ,List.length_append,List.length_cons,List.length_nil] at this ⊢;omega
   .rw [<-B,q2l hi,qcq,zF (by omega),zF (by omega),zT kk,Int.toNat_natCast]
def tE (rs:List Repeat) (op:Option Int):Tree (PV KT):=((Tree.nil).set 5 (.list 26 (rs++oR op) none)).set 6 (.sb 0 false op.isSome (op.isSome=true) (op.isSome=false))
def kE (rs:List Repeat) (op:Option Int) (ex:Ex) (st:StV KT):Prop:=
 (Go.E3.look st.owns 1=some 0/\Go.E3.look st.owns 2=some 0)/\ex=.ret/\(op.isSome=true->st.tmps.get 2=some .nils/\st.tmps.get 3=some (.int .i64 none (ix (rs++oR op) (ln (rs++oR op)-1)).From)/\st.tmps.get 4=some (.lit false))/\
 (op.isSome=false->st.tmps.get 2=some (.list 26 (rs++oR op) none)/\st.tmps.get 3=some (.int .i64 (some 0) 0)/\st.tmps.get 4=some (.lit true))
theorem vcE (rs:List Repeat) (op:Option Int):jq AF (cfg sp) (q8b (sp:=sp)) none 62 1 cL.2 (stW (tE rs op) 66) (kE rs op) =
 ((op.isSome=true->I64 (ln (rs++oR op)-1)/\Wn (ln (rs++oR op)-1) (ln (rs++oR op))/\kE rs op .ret (stW ((((Tree.nil).set 2 .nils).set 3 (.int .i64 none (ix (rs++oR op) (ln (rs++oR op)-1)).From)).set 4 (.lit false)) 66))/\
  (op.isSome=false->kE rs op .ret (stW ((((Tree.nil).set 2 (.list 26 (rs++oR op) none)).set 3 (.int .i64 (some 0) 0)).set 4 (.lit true)) 66))):=by kernel_rfl
theorem zu1 (B:qt (cfg sp)) {H0 H:Heap} {M:Nat->Prop} (S:Go.E3.Start XK szK (cfg sp) H0 M) {l:List Sign} (C:ln l<=1000000000) {rs:List Repeat} {op:Option Int} {fr:Fr} (J:XF l H0 rs op fr H):Wp (cfg sp).E 62 none cL.2 fr H λex fr' H'=>ex=.ret/\RF l H0 M fr' H':=by
 obtain ⟨sv,nm,os,tp,D,T⟩:=J.stk;have w:l.length<=1000000000:=by have:(l.length:Int)<=1000000000:=C;omega
 have G:=J.is;have F:qmy XK szK (Go.E3.wdS (cfg sp) H0 H M (stW (tE rs op) fr.n) (λ_=>0) (qxn nm os tp)) (tE rs op) fr:=
  qe0 (qe0 qs2 D (T.rep rfl λo h=>S.Mlt o h)) J.t6 (.sb .rfl .rfl λh=>absurd rfl h)
 refine (zej B S J.kp J.wf T (k:=kE rs op) (by kernel_rfl) J.ds F (λex st h=>h.1) ?_).mono λex fr' H' I=>?_
 .rw [J.n,vcE];refine ⟨λd=>?_,λd=>⟨⟨rfl,rfl⟩,rfl,λh=>(by rw [d] at h;cases h),λ_=>⟨rfl,rfl,rfl⟩⟩⟩;have Y:0<(rs++oR op).length:=by
   cases op with
   | none=>cases d
   | some f=>simp [oR]
  have K:(1:Int)<=ln (rs++oR op):=by show (1:Int)<=((rs++oR op).length:Int);omega
  have L:ln (rs++oR op)<=1000000000:=by show ((rs++oR op).length:Int)<=1000000000;omega
  have x:I64 (ln (rs++oR op)-1)/\Wn (ln (rs++oR op)-1) (ln (rs++oR op)):=by
   generalize ln (rs++oR op)=z at K L ⊢;exact ⟨⟨by omega,by omega⟩,⟨by omega,by omega⟩⟩
  exact ⟨x.1,x.2,⟨rfl,rfl⟩,rfl,λ_=>⟨rfl,rfl,rfl⟩,λh=>(by rw [d] at h;cases h)⟩
 .obtain ⟨⟨N,w',⟨_,O,P,Q⟩,a,R⟩,_,i,j,_,_,U⟩:=I;refine ⟨O,i,j,U,?_⟩;have y:∀ n,M n->w'.M n:=λn A=>R.Mu n (S.Mlt n A) A;cases op with
  | none=>
   obtain ⟨m,p,q⟩:=Q rfl;obtain ⟨r,s,e⟩:=a.f 2 _ m;obtain ⟨V,b,t⟩:=a.f 3 _ p;obtain ⟨W,c,u⟩:=a.f 4 _ q;rw [qe9 t] at b;rw [qwo u] at c;have v:kf l=(rs,0,true):=J.go.symm;rw [v];simp only [oR,zJ] at e;exact ⟨r,s,b,c,w',a.h.g,y,e⟩
  | some f=>
   obtain ⟨m,p,q⟩:=P rfl;obtain ⟨r,s,e⟩:=a.f 2 _ m;obtain ⟨V,b,t⟩:=a.f 3 _ p;obtain ⟨W,c,u⟩:=a.f 4 _ q;rw [qe9 t] at b;rw [qwo u] at c;have v:kf l=([],f,false):=J.go.symm;have X:(ix (rs++oR (some f)) (ln (rs++oR (some f))-1)).From=f:=by
    have Z:(ln (rs++oR (some f))-1).toNat=rs.length:=by simp [oR]
    simp only [ix,oR,List.getD_eq_getElem?_getD];simp
   rw [X] at b;rw [v];exact ⟨r,s,b,c,w',a.h.g,y,by rw [q6r e];exact .nlist trivial⟩
theorem q5k (A:qt (cfg sp)) (l:List Sign) (B:ln l<=1000000000):qhp XK szK (cfg sp) 62 [.list 4 l none] (.tuple [.list 26 (kf l).1 none,.int .i64 none (kf l).2.1,.sb 0 false (kf l).2.2 ((kf l).2.2=true) ((kf l).2.2=false)]):=by
 intro H M vs S Q;obtain ⟨t,T,rfl,N,U⟩:=Q.zk;rw [U.z6];have O:l.length<=1000000000:=by have:(l.length:Int)<=1000000000:=B;omega
 have C:∀ {o:Oper} {fr:Fr} {H:Heap},o.op=.call ⟨.builtin .len,#[.tmp 10],#[22]⟩->fr.tmp 10=some t->zb (cfg sp).E o fr H=some (.val (.int .i64 (ln l)),H):=by
  intro o fr H u P;cases N with
  | nlist=>exact qo5 u rfl rfl rfl zun zur (qe P)
  | @list c l' own nm gn off len z cap cs e V D W ex hg hf hM a=>
   have:=qi0 (fr:=fr) (H:=H) u rfl rfl rfl (zun (sp:=sp)) zur (qe P);rw [a] at this;exact this
 refine qb3 (A.1 62 rfl) zu3 rfl ((?_:∀ q:Fr,q.tmp 0=some t->q.n=66->q.defers=[]->Wp (cfg sp).E 62 none cF q H _) _ (zp rfl) rfl rfl);intro q Y Z d0;rw [zrx];refine za (qcs ?_);rw [lH0];refine qbg zk4 rfl (by omega) (qy zk4.1 (v:=.nils) rfl) λf1 F=>?_;have n1:=F.n.trans Z;refine qbg zk5 rfl (by omega) (qy zk5.1 (v:=.int .i64 0) rfl) λf2 G=>?_;have n2:=G.n.trans n1;refine qbg zk6 rfl (by omega) (qy zk6.1 (v:=.bool false) rfl) λf3 I=>qz (qk (za (qcs ?_)));have n3:=I.n.trans n2;rw [lH1];refine qbg zk7 rfl (by omega) (qy zk7.1 (v:=.nils) rfl) λf4 y=>qz (qk (za (qcs ?_)));have n4:=y.n.trans n3;rw [lH2];refine qbg zk8 rfl (by omega) (qy zk8.1 (v:=.bool false) rfl) λf5 s=>qz (qk (za (za (qcs ?_))));have n5:=s.n.trans n4;rw [lH3];refine qbg zk9 rfl (by omega) (zf zk9.1 (qe (s.ne (y.ne (I.ne (G.ne (F.ne Y))))))) λf6 k=>?_;have n6:=k.n.trans n5;refine qbg zla rfl (by omega) (C zla.1 k.get) λf7 p=>?_;have n7:=p.n.trans n6;refine qbg zlb rfl (by omega) (zf zlb.1 (v:=.int .i64 0) rfl) λf8 d=>qz (qk ?_);have n8:=d.n.trans n7;have T0:Stk H H [] none .nils H.next [] none:=⟨rfl,.inl ⟨rfl,rfl⟩,λj o r h1 _=>(by simp at h1),λo u=>(by simp at u),by simp,.inl ⟨rfl,rfl⟩⟩
 have J0:JF l t H 0 [] none f8 H:=⟨.refl H,S.wf,n8,by rw [d.ds,p.ds,k.ds,s.ds,y.ds,I.ds,G.ds,F.ds,d0],d.ne (p.ne k.get),d.ne p.get,d.get,d.ne (p.ne (k.ne s.get)),⟨.nils,_,_,_,d.ne (p.ne (k.ne (s.ne y.get))),T0⟩,⟨Nat.zero_le _,zN 0⟩,rfl⟩;have fin:∀ {fr':Fr} {H':Heap},RF l H M fr' H'->((Ex.ret=Ex.normal∨Ex.ret=Ex.ret)/\∃ f,jh fr'.defers H'=some f/\∃ vs,zv (cfg sp).E fr' f [.tmp 2,.tmp 3,.tmp 4]=some vs/\
   ∃ w',Answer XK szK (cfg sp) H M (.tuple [.list 26 (kf l).1 none,.int .i64 none (kf l).2.1,.sb 0 false (kf l).2.2 ((kf l).2.2=true) ((kf l).2.2=false)]) 0 (oneOf vs) f w'):=by
  rintro fr' H' ⟨kp,wf,hd,v,e2,e3,e4,w,wg,wM,r⟩;refine ⟨.inr rfl,H',by rw [hd];rfl,[v,.int .i64 (kf l).2.1,.bool (kf l).2.2],qc4 e2 (qc4 e3 (qc4 e4 qeg)),?_⟩;let w':Wd:={g:=H'.get,M:=M,c:=λ_=>0,nu:=λ_=>false,n:=0,owns:=λ_=>some 0,eta:=λ_=>none,ce:=(cfg sp).codec,cl:=λ_=>False,nx:=H'.next,b:=H.next,lp:=λ_=>none,fl:=0};have r':Rep XK szK w' (.list 26 (kf l).1 none) v:=r.plain zf2 wg.symm (λnm x _ h h2=>h (wM nm h2)) .list;exact ⟨w',kp,wf,rfl,λ_ _=>.rfl,λn h=>zL (S.Mlt n h) kp.next,rfl,rfl,λ_=>rfl,λi nm h=>(by cases h),λi j nm h=>(by cases h),.tuple' (.cons r' (.cons (.int λm hm=>by cases hm) (.cons (.sb .rfl .rfl λh=>absurd rfl h) .nil)))⟩
 refine qah (qij (λm fr H'=>∃ i rs op,m=l.length-i/\JF l t H i rs op fr H') ⟨0,[],none,rfl,J0⟩ ?_);rintro m fr H' ⟨i,rs,op,rfl,J⟩;refine (zqa A S N B J).mono λex fr' H2 hA=>?_;rcases hA with ⟨rfl,K,L,hi,J'⟩ | ⟨rfl,X⟩ | ⟨rfl,R⟩
 .have:(i:Int)<(l.length:Int):=hi;exact ⟨l.length-(i+1),by omega,i+1,K,L,rfl,J'⟩
 .refine qgm (qfb (qk ?_));refine (zu1 A S B X).mono λex a0 H3 hB=>?_;obtain ⟨rfl,R⟩:=hB;exact fin R
 .exact fin R
end Go.Proofs.YtpofmogdhigakaaGreatDoor
