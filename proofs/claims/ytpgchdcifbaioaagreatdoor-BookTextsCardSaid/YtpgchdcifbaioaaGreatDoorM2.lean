/- A VERIFIED EVALUATOR, texts E2p, E2q, E2r, E2x, E2s, E2t, E2u, E2v, E2z, E2y in one. -/
import Derived.Test.YtpgchdcifbaioaaGreatDoorM1
import Derived.RecoverIn
import Derived.Laws.Externs
import Derived.Lib.Bytealg
import Derived.Lib.Builder
import Derived.ChangeSame
import Derived.RowKit
import Derived.OpenShut
import Derived.Deep.DeepHandedRow
/- E2: OPERATIONS IN ANY ORDER. First the plain law of lists: who is apart from whom may be taken out; then the operations of a region that draws its order as such a list. -/
namespace Go.E2
open Go
theorem put_eq (fr:Fr) (dst:Option Tmp) (v:V):fr.put dst v=match dst with
  | some d=>bif Nat.blt d fr.n then {fr with tmps:=fr.tmps.set d v} else fr
  | none=>fr:=by
 cases dst<;>rfl
theorem zk8 (fr:Fr) (dst:Option Tmp) (v:V):(fr.put dst v).n=fr.n:=by
 rw [put_eq];cases dst with
 | none=>rfl
 | some d=>grind
theorem put_defers (fr:Fr) (dst:Option Tmp) (v:V):(fr.put dst v).defers=fr.defers:=by
 rw [put_eq];cases dst with
 | none=>rfl
 | some d=>grind
structure RW (L X:Type) where
 rd:L->Option (X->Prop)
 wr:L->Option X
section
variable {L X:Type}
def RW.app (o:RW L X) (s:L->X):L->X:=λl=>(o.wr l).getD (s l)
def q25:List (RW L X)->(L->X)->L->X
 | [],s=>s
 | o::R,s=>q25 R (o.app s)
def RW.qr7 (o:RW L X) (s:L->X):Prop:=∀ l p,o.rd l=some p->p (s l)
def qvy:List (RW L X)->(L->X)->Prop
 | [],_=>True
 | o::R,s=>o.qr7 s/\qvy R (o.app s)
def RW.dis (p q:RW L X):Prop:=∀ l,(p.wr l≠none->q.rd l=none/\q.wr l=none)/\(q.wr l≠none->p.rd l=none/\p.wr l=none)
theorem RW.qt9 {o:RW L X} {s:L->X} {l:L} (h:o.wr l=none):o.app s l=s l:=by simp [RW.app,h]
theorem RW.dis.comm {p q:RW L X} (h:p.dis q) (s:L->X):p.app (q.app s)=q.app (p.app s):=by
 funext l;cases a:p.wr l with
 | none=>rw [RW.qt9 a];simp only [RW.app,a,Option.getD_none]
 | some x=>
  have b:=((h l).1 (by rw [a];simp)).2;rw [RW.qt9 (o:=q) b];simp only [RW.app,a,b,Option.getD_some]
theorem RW.dis.qr7 {p q:RW L X} (h:p.dis q) {s:L->X}:p.qr7 (q.app s)↔p.qr7 s:=by
 constructor
 .intro c l d a;have b:q.wr l=none:=by
   cases b:q.wr l with
   | none=>rfl
   | some x=>have:=((h l).2 (by rw [b];simp)).1;rw [this] at a;cases a
  have:=c l d a
  rwa [RW.qt9 b] at this
 .intro c l d a;have b:q.wr l=none:=by
   cases b:q.wr l with
   | none=>rfl
   | some x=>have:=((h l).2 (by rw [b];simp)).1;rw [this] at a;cases a
  rw [RW.qt9 b];exact c l d a
theorem RW.dis.symm {p q:RW L X} (h:p.dis q):q.dis p:=λl=>⟨(h l).2,(h l).1⟩
theorem zwq:∀ (A:List (RW L X)) (i:RW L X) (B:List (RW L X)) (s:L->X),(∀ a ∈ A,a.dis i)->qvy (A++i::B) s->
  i.qr7 s/\qvy (A++B) (i.app s)/\q25 (A++B) (i.app s)=q25 (A++i::B) s
 | [],i,B,s,_,h=>⟨h.1,h.2,rfl⟩
 | a::A,i,B,s,c,h=>by
  obtain ⟨d,e⟩:=h;obtain ⟨f,g,j⟩:=zwq A i B (a.app s) (λx k=>c x (zG _ k)) e;have b:=c a zC;refine ⟨(b.symm.qr7).1 f,⟨(b.qr7).2 d,?_⟩,?_⟩
  .rw [b.comm];exact g
  .simp only [List.cons_append,q25];rw [b.comm];exact j
end
abbrev Loc:=Nat ⊕ Nat
abbrev Val:=Option V×Option O×Nat
structure It where
 i:Nat
 o:Oper
 f:Fr
 K:Heap
 v:V
 K':Heap
 fp:FP
 dels:List Nat
def okN (next:Nat) (dels:List Nat) (n:Nat):Bool:=Nat.blt n next&&!dels.any λm=>Nat.beq n m
def It.dom (t:It) (nm:Nat):Bool:=
 match t.fp with
 | .none=>false
 | .reads l | .writes l=>(l.any λm=>Nat.beq nm m)&&okN t.K.next t.dels nm
 | .call | .lone=>okN t.K.next t.dels nm
def It.qa0 (t:It):Bool:=
 match t.fp with
 | .writes _ | .lone=>true
 | _=>false
def It.rw (all:Array Oper) (t:It):RW Loc Val where
 rd:=λ
  | .inl x=>if x ∈ t.o.looksAt all then some λy=>t.f.tmps.get x=y.1/\y.2.2<=t.K.next else none
  | .inr nm=>if t.dom nm=true then some λy=>t.K.get nm=y.2.1/\y.2.2<=t.K.next else none
 wr:=λ
  | .inl x=>if t.o.dst=some x/\x<t.f.n then some (some t.v,none,t.K'.next) else none
  | .inr nm=>if (t.K.next<=nm/\nm<t.K'.next)∨(t.qa0=true/\t.dom nm=true) then some (none,t.K'.get nm,t.K'.next) else none
structure ItOk (E:Env) (call:Call) (all:Array Oper) (fr:Fr) (H:Heap) (t:It):Prop where
 run:qgb E call all t.o t.f t.K=some (.ret t.v,t.K')
 op:all[t.i]? = some t.o
 le:t.K.next<=t.K'.next
 start:H.next<=t.K.next
 ro:H.ro<=t.K.ro
 roN:t.K.ro<=t.K.next
 roM:t.qa0=false->t.K.ro=t.K.next
 zm:t.K.zm=H.zm
 dom:∀ nm,nm<t.K.next->t.K.get nm≠none->t.dom nm=true
 looks:∀ x,t.f.tmps.get x≠none->x ∈ t.o.looksAt all
 n:t.f.n=fr.n
 dfr:t.f.defers=fr.defers
 dels:∀ nm ∈ t.dels,nm<t.K.next
def Rep (s:Loc->Val) (fr:Fr) (H:Heap):Prop:=
 (∀ x,(s (.inl x)).1=fr.tmps.get x/\(s (.inl x)).2.2<=H.next)/\∀ nm,nm<H.next->(s (.inr nm)).2.1=H.get nm/\(s (.inr nm)).2.2<=H.next
def z7q (b:Array Nat) (p q:It):Prop:=(b.getD q.i 0).testBit p.i=true
theorem q9u {next:Nat} {dels:List Nat} {n:Nat} (h:okN next dels n=true):n<next:=by
 simp only [okN,zA,Nat.blt_eq] at h;exact h.1
theorem qo4 {next:Nat} {dels:List Nat} {n:Nat} (h:okN next dels n=true):n ∉ dels:=by
 simp only [okN,zA,Bool.not_eq_true',List.any_eq_false,Nat.beq_eq] at h;intro a;exact h.2 n a rfl
theorem qtk {next:Nat} {dels:List Nat} {n:Nat} (h:n<next) (a:n ∉ dels):okN next dels n=true:=by
 simp only [okN,zA,Bool.not_eq_true',List.any_eq_false,Nat.beq_eq,Nat.blt_eq];refine ⟨h,λm b c=>a (c ▸ b)⟩
theorem It.qs4 {t:It} {nm:Nat} (h:t.dom nm=true):nm<t.K.next/\nm ∉ t.dels:=by
 unfold It.dom at h;split at h
 .cases h
 .have:=(Bool.and_eq_true_iff.1 h).2;exact ⟨q9u this,qo4 this⟩
 .have:=(Bool.and_eq_true_iff.1 h).2;exact ⟨q9u this,qo4 this⟩
 .exact ⟨q9u h,qo4 h⟩
 .exact ⟨q9u h,qo4 h⟩
def zfk (d:Done) (t:It):Prop:=d.i=t.i/\d.fp=t.fp/\d.lo=t.K.next/\d.hi=t.K'.next/\d.dels=t.dels
theorem q51 {p q:It} {d:Done} (s:zfk d p) (h:qdb d q.dels q.fp=false) {nm:Nat} (b:p.dom nm=true) (c:q.dom nm=true):p.qa0=false/\q.qa0=false:=by
 obtain ⟨_,t,u,_,v⟩:=s;have f:∀ (w l:List Nat),(w.any λn=>l.any λm=>Nat.beq n m)=false->(w.any λm=>Nat.beq nm m)=true->(l.any λm=>Nat.beq nm m)=true->False:=by
  intro w l g i e;obtain ⟨m,j,a⟩:=List.any_eq_true.1 i;rw [Nat.beq_eq] at a;subst a;rw [List.any_eq_false] at g;exact g nm j e
 have out:∀ (l:List Nat),(l.any λn=>Nat.blt n p.K.next&&!p.dels.any λm=>Nat.beq n m)=false->(l.any λm=>Nat.beq nm m)=true->okN p.K.next p.dels nm=true->False:=by
  intro l k i e;obtain ⟨m,j,a⟩:=List.any_eq_true.1 i;rw [Nat.beq_eq] at a;subst a;rw [List.any_eq_false] at k;exact k nm j e
 have ins:∀ (l:List Nat),(l.any λn=>!q.dels.any λm=>Nat.beq n m)=false->(l.any λm=>Nat.beq nm m)=true->okN q.K.next q.dels nm=true->False:=by
  intro l k i e;obtain ⟨m,j,a⟩:=List.any_eq_true.1 i;rw [Nat.beq_eq] at a;subst a;rw [List.any_eq_false] at k;simp only [okN,zA] at e;exact k nm j e.2
 unfold It.dom at b c;unfold It.qa0;unfold qdb at h;rw [t,u,v] at h;cases o:p.fp<;>cases r:q.fp<;>simp only [o,r,zA] at h b c ⊢<;>first
  | exact ⟨rfl,rfl⟩
  | (cases h;done)
  | (cases b;done)
  | (cases c;done)
  | exact (f _ _ h b.1 c.1).elim
  | exact (f _ _ h c.1 b.1).elim
  | exact (out _ h c.1 b).elim
  | exact (ins _ h b.1 c).elim
  | trivial
theorem z32 {all:Array Oper} {p q:It} {d:Done} (hd:zfk d p) (hap:p.o.apart all q.o=true) (hcl:qdb d q.dels q.fp=false) (hle:p.K'.next<=q.K.next) (hpl:p.K.next<=p.K'.next)
  (hdel:∀ nm,p.K.next<=nm->nm<p.K'.next->nm ∈ q.dels):(p.rw all).dis (q.rw all):=by
 obtain ⟨a1,a2,a3⟩:=Oper.apart_spec hap;intro l;cases l with
 | inl x=>
  simp only [It.rw];refine ⟨λh=>?_,λh=>?_⟩
  .simp_all
  .grind
 | inr nm=>
  simp only [It.rw];refine ⟨λh=>?_,λh=>?_⟩
  .have hw:(p.K.next<=nm/\nm<p.K'.next)∨(p.qa0=true/\p.dom nm=true):=by
    by_cases hx:(p.K.next<=nm/\nm<p.K'.next)∨(p.qa0=true/\p.dom nm=true)
    .exact hx
    .simp_all
   have hnd:¬ q.dom nm=true:=by
    intro hq;rcases hw with hw | hw
    .exact (It.qs4 hq).2 (hdel nm hw.1 hw.2)
    .have:=(q51 hd hcl hw.2 hq).1;rw [hw.1] at this;cases this
   have hlt:nm<q.K.next:=by
    rcases hw with hw | hw
    .omega
    .have:=(It.qs4 hw.2).1;omega
   rw [if_neg hnd, if_neg (by intro hx; rcases hx with hx | hx; · omega
                              .exact hnd hx.2)]
   exact ⟨rfl,rfl⟩
  .have hw:(q.K.next<=nm/\nm<q.K'.next)∨(q.qa0=true/\q.dom nm=true):=by
    by_cases hx:(q.K.next<=nm/\nm<q.K'.next)∨(q.qa0=true/\q.dom nm=true)
    .exact hx
    .simp_all
   have hnd:¬ p.dom nm=true:=by
    intro hp;rcases hw with hw | hw
    .have:=(It.qs4 hp).1;omega
    .have:=(q51 hd hcl hp hw.2).2;rw [hw.1] at this;cases this
   have hnn:¬ (p.K.next<=nm/\nm<p.K'.next):=by
    intro hp;rcases hw with hw | hw
    .omega
    .exact (It.qs4 hw.2).2 (hdel nm hp.1 hp.2)
   rw [if_neg hnd, if_neg (by intro hx; rcases hx with hx | hx; · exact hnn hx
                              .exact hnd hx.2)]
   exact ⟨rfl,rfl⟩
def Rl (b:Array Nat) (all:Array Oper) (p q:It):Prop:=p.i<q.i/\p.K'.next<=q.K.next/\(z7q b p q∨(p.rw all).dis (q.rw all))
theorem qbj (H:Heap) (fp:FP) (dels:List Nat):(zx H fp dels).next=H.next:=by unfold zx;split<;>rfl
theorem zi0 (H:Heap) (fp:FP) (dels:List Nat):(zx H fp dels).zm=H.zm:=by unfold zx;split<;>rfl
theorem qrj {l:List Nat} {n:Nat}:(l.any λm=>Nat.beq n m)=true↔n ∈ l:=by
 rw [List.any_eq_true];constructor
 .simp_all
 .simp_all
theorem q72 (H:Heap) (fp:FP) (dels:List Nat) (i:Nat) (o:Oper) (f:Fr) (v:V) (b:Heap) (nm:Nat) (a:nm<H.next) :
  (zx H fp dels).get nm=if (It.mk i o f (zx H fp dels) v b fp dels).dom nm=true then H.get nm else none:=by
 unfold It.dom;simp only [qbj];cases fp with
 | none=>rfl
 | reads l=>
  simp only [zx,Heap.get,qaj,Tree.get];by_cases h:nm ∈ l/\okN H.next dels nm=true
  .rw [zT (by rw [List.mem_filter];exact h),zT (by rw [zA];exact ⟨qrj.2 h.1,h.2⟩)]
  .rw [zF (by rw [List.mem_filter];exact h),zF (by rw [zA];exact λq=>h ⟨qrj.1 q.1,q.2⟩)]
 | writes l=>
  simp only [zx,Heap.get,qaj,Tree.get];by_cases h:nm ∈ l/\okN H.next dels nm=true
  .rw [zT (by rw [List.mem_filter];exact h),zT (by rw [zA];exact ⟨qrj.2 h.1,h.2⟩)]
  .rw [zF (by rw [List.mem_filter];exact h),zF (by rw [zA];exact λq=>h ⟨qrj.1 q.1,q.2⟩)]
 | call=>
  simp only [zx,Heap.get,qaj,Tree.get];by_cases h:nm ∈ dels
  .rw [zT h,zF (λq=>qo4 q h)]
  .rw [zF h,zT (qtk a h)]
 | lone=>
  simp only [zx,Heap.get,qaj,Tree.get];by_cases h:nm ∈ dels
  .rw [zT h,zF (λq=>qo4 q h)]
  .rw [zF h,zT (qtk a h)]
theorem mem_range {a b n:Nat}:n ∈ List.range' a (b-a)↔a<=n/\n<b:=by
 rw [List.mem_range'_1];omega
theorem znp (H K':Heap) (fp:FP) (dels:List Nat) (i:Nat) (o:Oper) (f:Fr) (v:V) (nm:Nat) (hn:nm<K'.next) (hd:∀ nm ∈ dels,nm<H.next) :
  (qcm H K' fp dels).get nm=if (H.next<=nm/\nm<K'.next)∨((It.mk i o f (zx H fp dels) v K' fp dels).qa0=true/\(It.mk i o f (zx H fp dels) v K' fp dels).dom nm=true) then K'.get nm else H.get nm:=by
 unfold It.dom It.qa0;simp only [qbj];have base:∀ (q:Prop) [Decidable q],(q↔nm ∈ List.range' H.next (K'.next-H.next))->(jj K'.qcg (List.range' H.next (K'.next-H.next)) H.qcg).get nm=if q then K'.get nm else H.get nm:=by
  intro q _ hq;rw [qaj];by_cases h:q
  .rw [zT h,zT (hq.1 h)];rfl
  .rw [zF h,zF (λx=>h (hq.2 x))];rfl
 cases fp with
 | none=>exact base _ (by rw [mem_range];simp)
 | reads l=>exact base _ (by rw [mem_range];simp)
 | call=>exact base _ (by rw [mem_range];simp)
 | writes l=>
  simp only [qcm,Heap.get,qaj,List.mem_append,mem_range,true_and];have:(nm ∈ l.filter (λn=>Nat.blt n H.next&&!dels.any λm=>Nat.beq n m))↔((l.any λm=>Nat.beq nm m)&&okN H.next dels nm)=true:=by
   rw [List.mem_filter];exact ⟨λq=>Bool.and_eq_true_iff.2 ⟨qrj.2 q.1,q.2⟩,λq=>⟨qrj.1 (Bool.and_eq_true_iff.1 q).1,(Bool.and_eq_true_iff.1 q).2⟩⟩
  by_cases h1:H.next<=nm/\nm<K'.next
  .simp_all
  .grind
 | lone=>
  simp only [qcm,Heap.get,qaj,true_and];by_cases h:nm ∈ dels
  .have:=hd nm h
   rw [if_pos h, if_neg (by rintro (q | q); · omega
                            .exact qo4 q h)]
  .rw [zF h];by_cases h1:H.next<=nm
   .simp_all
   .rw [zT (.inr (qtk (by omega) h))]
theorem qsg {E:Env} {call:Call} {all:Array Oper} {b:Array Nat} {z:Fr} {H0:Heap}
  (W:∀ k j p o,all[k]? = some p->all[j]? = some o->k<j->(b.getD j 0).testBit k=false->p.apart all o=true) :
  ∀ (m:List Oper) (i:Nat) (done:List Done) (c:List It) (fr:Fr) (H:Heap) (fr':Fr) (H':Heap) (s:Loc->Val),
   qdy E call all b i m done fr H=some (fr',H')->(∀ k,m[k]? = all[i+k]?)->
   (∀ p ∈ c,∃ d ∈ done,zfk d p)->(∀ d ∈ done,d.hi<=H.next)->(∀ p ∈ c,p.i<i/\p.K'.next<=H.next/\p.K.next<=p.K'.next/\all[p.i]? = some p.o)->
   fr.n=z.n->fr.defers=z.defers->H0.next<=H.next->H.ro=H0.ro->H.zm=H0.zm->H.ro<=H.next->Rep s fr H->
   ∃ r:List It,r.map (·.i)=List.range' i m.length/\(∀ t ∈ r,ItOk E call all z H0 t/\t.K'.next<=H'.next)/\qvy (r.map (It.rw all)) s/\Rep (q25 (r.map (It.rw all)) s) fr' H'/\
    (∀ p ∈ c,∀ q ∈ r,Rl b all p q)/\r.Pairwise (Rl b all)/\fr'.n=z.n/\fr'.defers=z.defers/\H'.ro=H0.ro/\H'.zm=H0.zm/\H.next<=H'.next
 | [],i,done,c,fr,H,fr',H',s,h,B,hp,P,Q,hn,y,R,S,J,X,g=>by
  simp only [qdy,zS,zP] at h;obtain ⟨rfl,rfl⟩:=h;exact ⟨[],rfl,by simp,trivial,g,by simp,.nil,hn,y,S,J,zN _⟩
 | o::m,i,done,c,fr,H,fr',H',s,h,B,hp,P,Q,hn,y,R,S,J,X,g=>by
  simp only [qdy,zI] at h;obtain ⟨a8,hw,h⟩:=h;generalize af:(bif a8 then (match qlw E o fr with
   | .call=>bif qw0 E all b i then FP.lone else .call
   | x=>x) else .none)=fp at h
  generalize C:(done.filter λd=>!(b.getD i 0).testBit d.i)=free at h;generalize D:free.flatMap Done.names=dels at h;rw [cond_eq_ite] at h;split at h
  .cases h
  .rename_i aa;split at h
   .rename_i v K' Y;rw [cond_eq_ite] at h;split at h
    .cases h
    .rename_i e;have e:H.next<=K'.next:=by
      rw [Nat.blt_eq] at e;omega
     have Z:∀ nm ∈ dels,nm<H.next:=by
      intro nm G;rw [<-D,List.mem_flatMap] at G;obtain ⟨d,A,G⟩:=G;rw [<-C,List.mem_filter] at A;have:=P d A.1;unfold Done.names at G;rw [mem_range] at G;omega
     obtain ⟨t,I⟩:∃ t:It,t=⟨i,o,{fr with tmps:=jj fr.tmps (o.looksAt all) .nil},zx H fp dels,v,K',fp,dels⟩:=⟨_,rfl⟩;have T:all[i]? = some o:=by have:=B 0;simpa using this.symm
     have ab:ItOk E call all z H0 t:=by
      subst I;refine ⟨Y,T,by rw [qbj];exact e,by rw [qbj];exact R,?_,?_,?_,by rw [zi0];exact J,λnm f L=>?_,λx u=>?_,hn,y,by rw [qbj];exact Z⟩
      .unfold zx;split<;>simp<;>omega
      .unfold zx;split<;>simp<;>omega
      .unfold It.qa0 zx;cases fp<;>simp
      .rw [qbj] at f;rw [q72 H fp dels i o {fr with tmps:=jj fr.tmps (o.looksAt all) .nil} v K' nm f] at L;by_cases G:(It.mk i o {fr with tmps:=jj fr.tmps (o.looksAt all) .nil} (zx H fp dels) v K' fp dels).dom nm=true
       .exact G
       .simp_all
      .rw [qaj] at u;by_cases G:x ∈ o.looksAt all
       .exact G
       .rw [zF G] at u;simp [Tree.get] at u
     have ad:Rep ((t.rw all).app s) (fr.put o.dst v) (qcm H K' fp dels):=by
      refine ⟨λx=>?_,λnm L=>?_⟩
      .have F:=g.1 x;simp only [RW.app,It.rw];subst I;by_cases u:o.dst=some x/\x<fr.n
       .rw [zT u];simp only [put_eq,u.1,cond_eq_ite,Nat.blt_eq,u.2,if_true,Option.getD_some,Tree.jq];exact ⟨trivial,zN _⟩
       .rw [zF u,Option.getD_none];refine ⟨F.1.trans ?_,zR F.2 e⟩;rw [put_eq];split
        .rename_i d A;rw [cond_eq_ite];split
         .rename_i f;rw [Nat.blt_eq] at f;simp only [Tree.jq];rw [zF (λ(q:x=d)=>u ⟨by rw [A,q],by rw [q];exact f⟩)]
         .rfl
        .rfl
      .have hg:=znp H K' fp dels i o {fr with tmps:=jj fr.tmps (o.looksAt all) .nil} v nm L Z;rw [hg];simp only [RW.app,It.rw];subst I;simp only [qbj];split
       .exact ⟨rfl,zN _⟩
       .rename_i u;have f:nm<H.next:=by
         by_cases h1:nm<H.next
         .exact h1
         .exact (u (.inl ⟨by omega,L⟩)).elim
        have F:=g.2 nm f;rw [Option.getD_none];exact ⟨F.1,zR F.2 e⟩
     have U:(t.rw all).qr7 s:=by
      intro l p O;cases l with
      | inl x=>
       simp only [It.rw] at O;split at O
       .rename_i u;cases O;have F:=g.1 x;subst I;simp only at u;simp only [qaj,zT u,qbj];exact ⟨F.1.symm,F.2⟩
       .cases O
      | inr nm=>
       simp only [It.rw] at O;split at O
       .rename_i u;cases O;have f:=(It.qs4 u).1;subst I;simp only [qbj] at f;have F:=g.2 nm f;rw [q72 H fp dels i o {fr with tmps:=jj fr.tmps (o.looksAt all) .nil} v K' nm f,zT u];simp only [qbj];exact ⟨F.1.symm,F.2⟩
       .cases O
     have V:∀ p ∈ c,Rl b all p t:=by
      intro p a;obtain ⟨a1,a2,a3,a4⟩:=Q p a;obtain ⟨d,A,M⟩:=hp p a;have a6:=M;obtain ⟨d1,d2,d3,d4,_⟩:=a6;subst I;refine ⟨a1,by rw [qbj];exact a2,?_⟩;by_cases w:(b.getD i 0).testBit p.i=true
      .exact .inl w
      .right;have w:(b.getD i 0).testBit p.i=false:=by simpa using w
       have y:d ∈ free:=by
        rw [<-C,List.mem_filter];exact ⟨A,by rw [d1,w];rfl⟩
       refine z32 M (W _ _ _ _ a4 T a1 w) ?_ (by rw [qbj];exact a2) a3 (λnm h1 h2=>?_)
       .have:=List.any_eq_false.1 (by simpa using aa) d y;simpa using this
       .show nm ∈ dels;rw [<-D,List.mem_flatMap];exact ⟨d,y,by unfold Done.names;rw [mem_range,d3,d4];exact ⟨h1,h2⟩⟩
     obtain ⟨r,e1,e2,e3,e4,e5,e6,e7,e8,e9,ae,a7⟩:=qsg W m (i+1) (⟨i,fp,H.next,K'.next,dels⟩::done) (t::c) (fr.put o.dst v) (qcm H K' fp dels) fr' H' ((t.rw all).app s) h
      (λk=>by have:=B (k+1);simpa [Nat.add_assoc,Nat.add_comm 1 k] using this)
      (by
        intro p a;rcases zD.1 a with rfl | a
        .exact ⟨_,zC,by subst I;exact ⟨rfl,rfl,by rw [qbj],rfl,rfl⟩⟩
        .obtain ⟨d,A,M⟩:=hp p a;exact ⟨d,zG _ A,M⟩)
      (by
        intro d A;rcases zD.1 A with rfl | A
        .exact zN _
        .exact zR (P d A) e)
      (by
        intro p a;rcases zD.1 a with rfl | a
        .subst I;exact ⟨Nat.lt_succ_self _,zN _,by rw [qbj];exact e,T⟩
        .obtain ⟨a1,a2,a3,a4⟩:=Q p a;exact ⟨Nat.lt_succ_of_lt a1,zR a2 e,a3,a4⟩)
      ((zk8 _ _ _).trans hn) ((put_defers _ _ _).trans y)
      (zR R e) S J (zR X e) ad
     refine ⟨t::r,?_,?_,⟨U,e3⟩,e4,?_,?_,e7,e8,e9,ae,zR e a7⟩
     .simp only [List.map_cons,e1,List.length_cons,List.range'_succ];subst I;rfl
     .intro q N;rcases zD.1 N with rfl | N
      .refine ⟨ab,?_⟩;subst I;exact a7
      .exact e2 q N
     .intro p a q N;rcases zD.1 N with rfl | N
      .exact V p a
      .exact e5 p (zG _ a) q N
     .exact List.Pairwise.cons (λq N=>e5 t zC q N) e6
   .cases h
end Go.E2
/- E2: A REGION THAT DRAWS ITS ORDER: what holds between two of its operations, and how one operation keeps it. -/
namespace Go.E2
open Go
def qhk (G:qk) (B:Nat):qk:=λnm g=>if nm<B then G nm g else none
theorem j7 {G:qk} {B nm g:Nat} {x} (h:qhk G B nm g=some x):nm<B/\G nm g=some x:=by
 unfold qhk at h;by_cases a:nm<B
 .simp_all
 .simp_all
theorem qe1 {G:qk} {B nm g:Nat} {x} (a:nm<B) (h:G nm g=some x):qhk G B nm g=some x:=by
 unfold qhk;rw [zT a];exact h
structure Mid (fr0:Fr) (H0:Heap) (G0:qk) (w0:World) (N:Nat) (R:List It) (s:Loc->Val) (G:qk) (a:Act) (w:World):Prop where
 lt:∀ nm g b sh n,G nm g=some (b,sh,n)->b<w.heap.size
 inj:∀ nm g b sh n nm' g' sh' n',G nm g=some (b,sh,n)->G nm' g'=some (b,sh',n')->nm=nm'/\sh=sh'
 free:∀ t ∈ R,∀ nm g,t.K.next<=nm->nm<t.K'.next->G nm g=none
 top:∀ nm g x,G nm g=some x->nm<N
 tmp:∀ x v,(s (.inl x)).1=some v->Rel (qhk G (s (.inl x)).2.2) w v (a.tmps.getD x undef)
 obj:∀ nm o,(s (.inr nm)).2.1=some o->nm<N->nm<(s (.inr nm)).2.2/\qfb (qhk G (s (.inr nm)).2.2) w nm o
 n:a.tmps.size=fr0.n
 dfr:qcs (qhk G H0.next) w fr0.defers a.defers
 globs:∀ g o,g<H0.zm->(s (.inr g)).2.1=some o->∃ n,G g 0=some (g,0,n)
 keep:∀ nm,nm<H0.ro->(s (.inr nm)).2.1=H0.get nm
 ext:Ext H0.ro G0 w0 G w
 newG:∀ nm g x,G nm g=some x->nm<H0.ro->G0 nm g=some x
 frame:∀ nm,nm<H0.next->H0.get nm=none->(s (.inr nm)).2.1=none/\(∀ g b sh n,G0 nm g=some (b,sh,n)->w.heap[b]? = w0.heap[b]?)/\∀ g x,G nm g=some x->G0 nm g=some x
section
variable {E:Env} {call:Call} {all:Array Oper} {fr0:Fr} {H0:Heap} {G0:qk} {w0:World} {N:Nat} {s:Loc->Val} {G:qk} {a:Act} {w:World} {t:It}
theorem q24 {B a:Nat} (h:B<=a):Up (qhk G B) w (qhk G a) w:=
 ⟨λ_ _ _ b=>qe1 (zL (j7 b).1 h) (j7 b).2,λ_ _ h=>h⟩
theorem Mid.sim {R:List It} (m:Mid fr0 H0 G0 w0 N R s G a w) (l:H0.zm<=H0.ro) (ok:ItOk E call all fr0 H0 t) (H:t.K'.next<=N) (q:(t.rw all).qr7 s) :
  Sim t.K (qhk G t.K.next) w/\SimFr (qhk G t.K.next) w t.f a:=by
 have d:∀ nm,nm<t.K.next->t.K.get nm≠none->(s (.inr nm)).2.1=t.K.get nm/\(s (.inr nm)).2.2<=t.K.next:=by
  intro nm c p;have r:=ok.dom nm c p;have:=q (.inr nm) (λy=>t.K.get nm=y.2.1/\y.2.2<=t.K.next) (by simp only [It.rw];rw [zT r]);exact ⟨this.1.symm,this.2⟩
 refine ⟨⟨λnm g b u n e=>⟨m.lt _ _ _ _ _ (j7 e).2,(j7 e).1⟩,λnm g b u n z I A J h j=>m.inj _ _ _ _ _ _ _ _ _ (j7 h).2 (j7 j).2,λnm o c i=>?_,ok.roN,?_,λg o e i=>?_⟩,⟨λx v k=>?_,by rw [m.n,ok.n],?_⟩⟩
 .obtain ⟨h,j⟩:=d nm c (by rw [i];simp);obtain ⟨B,C⟩:=m.obj nm o (h.trans i) (by have:=ok.le;omega);exact C.up (q24 j) (λg x k=>qe1 B (j7 k).2) (λ_ _ _ _ _=>rfl)
 .rw [ok.zm];exact zR l ok.ro
 .rw [ok.zm] at e;have c:g<t.K.next:=by have:=ok.ro;have:=ok.roN;omega
  obtain ⟨h,j⟩:=d g c (by rw [i];simp);obtain ⟨n,D⟩:=m.globs g o e (h.trans i);exact ⟨n,qe1 c D⟩
 .have F:=ok.looks x (by rw [k];simp);have:=q (.inl x) (λy=>t.f.tmps.get x=y.1/\y.2.2<=t.K.next) (by simp only [It.rw];rw [zT F]);exact Rel.up (q24 this.2) (m.tmp x v (this.1.symm.trans k))
 .rw [ok.dfr];exact qcs.up (q24 ok.start) m.dfr
def qqm (G a:qk) (hi:Nat):qk:=λnm g=>if nm<hi then a nm g else G nm g
theorem qey {G a:qk} {hi nm g:Nat} (h:nm<hi):qqm G a hi nm g=a nm g:=by unfold qqm;rw [zT h]
theorem qjw {G a:qk} {hi nm g:Nat} (h:¬ nm<hi):qqm G a hi nm g=G nm g:=by unfold qqm;rw [zF h]
theorem Mid.step {A B:List It} (m:Mid fr0 H0 G0 w0 N (A++t::B) s G a w) (ok:ItOk E call all fr0 H0 t) (hN:t.K'.next<=N) (hf:(t.rw all).qr7 s)
  (hA:∀ k ∈ A,k.K'.next<=t.K.next/\(k.rw all).dis (t.rw all)) (hB:∀ k ∈ B,t.K'.next<=k.K.next) {z:qk} {w1:World} (st:Step t.K (qhk G t.K.next) w t.K' z w1)
  {y:Value} (hy:Rel z w1 t.v y):Mid fr0 H0 G0 w0 N (A++B) ((t.rw all).app s) (qqm G z t.K'.next) (a.put t.o.dst y) w1:=by
 have ah:=ok.le;have U:∀ nm g x,z nm g=some x->nm<t.K'.next:=λnm g x c=>(st.sim.lt nm g x.1 x.2.1 x.2.2 c).2
 have ag:∀ nm g,t.K.next<=nm->nm<t.K'.next->G nm g=none:=m.free t (by simp)
 have I:∀ nm g x,G nm g=some x->qqm G z t.K'.next nm g=some x:=by
  intro nm g x c;by_cases h:nm<t.K'.next
  .rw [qey h];by_cases M:nm<t.K.next
   .exact st.ext.sub _ _ _ (qe1 M c)
   .simp_all
  .rw [qjw h];exact c
 have J:∀ nm g b i n,¬ nm<t.K.next->G nm g=some (b,i,n)->w1.heap[b]? = w.heap[b]?/\qko z b:=by
  intro nm g b i n H j;refine st.ext.frg b (m.lt _ _ _ _ _ j) (λO g' Z n' M=>?_);have:=j7 M;have:=(m.inj _ _ _ _ _ _ _ _ _ j this.2).1;omega
 have C:∀ nm,¬ ((t.K.next<=nm/\nm<t.K'.next)∨(t.qa0=true/\t.dom nm=true))->
   (∀ g x,qqm G z t.K'.next nm g=some x->G nm g=some x)/\∀ g b i n,G nm g=some (b,i,n)->w1.heap[b]? = w.heap[b]?:=by
  intro nm p;by_cases D:nm<t.K.next
  .have hr:(∀ g x,z nm g=some x->qhk G t.K.next nm g=some x)/\∀ g b i n,qhk G t.K.next nm g=some (b,i,n)->w1.heap[b]? = w.heap[b]?:=by
    cases a1:t.qa0 with
    | false=>
     have V:=ok.roM a1;exact ⟨λg x c=>st.newG nm g x c (by omega),λg b i n j=>st.ext.ro nm g b i n (by omega) j⟩
    | true=>
     have r:t.K.get nm=none:=by
      by_cases P:t.K.get nm=none
      .exact P
      .exact (p (.inr ⟨a1,ok.dom nm D P⟩)).elim
     obtain ⟨_,f2,f3⟩:=st.frame nm D r;exact ⟨f3,f2⟩
   refine ⟨λg x c=>?_,λg b i n j=>hr.2 g b i n (qe1 D j)⟩;rw [qey (by omega)] at c;exact (j7 (hr.1 g x c)).2
  .have u:¬ nm<t.K'.next:=λu=>p (.inl ⟨by omega,u⟩)
   exact ⟨λg x c=>by rw [qjw u] at c;exact c,λg b i n j=>(J nm g b i n D j).1⟩
 have L:∀ B,Up (qhk G B) w (qhk (qqm G z t.K'.next) B) w1:=λB=>
  ⟨λnm g x c=>qe1 (j7 c).1 (I _ _ _ (j7 c).2),st.ext.shp⟩
 have S:Up z w1 (qhk (qqm G z t.K'.next) t.K'.next) w1:=
  ⟨λnm g x c=>qe1 (U _ _ _ c) (by rw [qey (U _ _ _ c)];exact c),λ_ _ h=>h⟩
 have W:∀ nm g x,qhk (qqm G z t.K'.next) t.K'.next nm g=some x->z nm g=some x:=by
  intro nm g x c;have:=j7 c;rw [qey this.1] at this;exact this.2
 have a6:∀ nm,t.dom nm=true->t.K.get nm=(s (.inr nm)).2.1/\(s (.inr nm)).2.2<=t.K.next:=by
  intro nm X;exact hf (.inr nm) (λy=>t.K.get nm=y.2.1/\y.2.2<=t.K.next) (by simp only [It.rw];rw [zT X])
 have Q:∀ nm,(t.K.next<=nm/\nm<t.K'.next)∨(t.qa0=true/\t.dom nm=true)->((t.rw all).app s) (.inr nm)=(none,t.K'.get nm,t.K'.next):=by
  intro nm h;simp only [RW.app,It.rw];rw [zT h,Option.getD_some]
 have p:∀ nm,¬ ((t.K.next<=nm/\nm<t.K'.next)∨(t.qa0=true/\t.dom nm=true))->((t.rw all).app s) (.inr nm)=s (.inr nm):=by
  intro nm h;simp only [RW.app,It.rw];rw [zF h,Option.getD_none]
 refine ⟨λnm g b i n j=>?_,λnm g b i n O g' Z n' D u=>?_,λk hk nm g D u=>?_,λnm g x c=>?_,λx v c=>?_,λnm o R ae=>?_,?_,?_,λg o j R=>?_,λnm H=>?_,?_,λnm g x c H=>?_,λnm H h0=>?_⟩
 .
  by_cases h:nm<t.K'.next
  .rw [qey h] at j;exact (st.sim.lt _ _ _ _ _ j).1
  .rw [qjw h] at j;exact zL (m.lt _ _ _ _ _ j) st.ext.size
 .
  by_cases h:nm<t.K'.next
  .rw [qey h] at D;by_cases M:O<t.K'.next
   .rw [qey M] at u;exact st.sim.inj _ _ _ _ _ _ _ _ _ D u
   .rw [qjw M] at u;exact ((J O g' b Z n' (by omega) u).2 _ _ _ _ D).elim
  .rw [qjw h] at D;by_cases M:O<t.K'.next
   .rw [qey M] at u;exact ((J nm g b i n (by omega) D).2 _ _ _ _ u).elim
   .rw [qjw M] at u;exact m.inj _ _ _ _ _ _ _ _ _ D u
 .
  have a7:G nm g=none:=by
   refine m.free k ?_ nm g D u;rcases List.mem_append.1 hk with h | h
   .exact List.mem_append.2 (.inl h)
   .exact List.mem_append.2 (.inr (zG _ h))
  have a8:¬ ((t.K.next<=nm/\nm<t.K'.next)∨(t.qa0=true/\t.dom nm=true)):=by
   rcases List.mem_append.1 hk with h | h
   .obtain ⟨Y,q2⟩:=hA k h;rintro (q | q)
    .omega
    .have:=((q2 (.inr nm)).1 (by simp only [It.rw];rw [zT (.inl ⟨D,u⟩)];simp)).2;simp only [It.rw] at this;rw [zT (.inr q)] at this;cases this
   .have Y:=hB k h;rintro (q | q)
    .omega
    .have:=(It.qs4 q.2).1;omega
  cases P:qqm G z t.K'.next nm g with
  | none=>rfl
  | some x=>rw [(C nm a8).1 g x P] at a7;cases a7
 .
  by_cases h:nm<t.K'.next
  .omega
  .rw [qjw h] at c;exact m.top _ _ _ c
 .
  simp only [RW.app,It.rw] at c ⊢;by_cases X:t.o.dst=some x/\x<t.f.n
  .rw [zT X] at c ⊢;simp only [Option.getD_some,zS] at c ⊢;subst c;have l:x<a.tmps.size:=by rw [m.n,<-ok.n];exact X.2
   have e:(a.put t.o.dst y).tmps.getD x undef=y:=by
    simp only [Act.put,X.1];simp [Array.getElem?_setIfInBounds_self_of_lt l]
   rw [e];exact Rel.up S hy
  .rw [zF X] at c ⊢;simp only [Option.getD_none] at c ⊢;have e:(a.put t.o.dst y).tmps.getD x undef=a.tmps.getD x undef:=by
    cases aa:t.o.dst with
    | none=>rfl
    | some d=>
     simp only [Act.put];by_cases ab:x=d
     .subst ab;have:¬ x<a.tmps.size:=by rw [m.n,<-ok.n];exact λq=>X ⟨aa,q⟩
      rw [Array.setIfInBounds_eq_of_size_le (Nat.le_of_not_lt this)]
     .simp [Array.getElem?_setIfInBounds_ne (Ne.symm ab)]
   rw [e];exact Rel.up (L _) (m.tmp x v c)
 .
  by_cases F:(t.K.next<=nm/\nm<t.K'.next)∨(t.qa0=true/\t.dom nm=true)
  .rw [Q nm F] at R ⊢;have l:nm<t.K'.next:=by
    rcases F with h | h
    .exact h.2
    .have:=(It.qs4 h.2).1;omega
   exact ⟨l,(st.sim.obj nm o l R).up S (λg x c=>W _ _ _ c) (λ_ _ _ _ _=>rfl)⟩
  .rw [p nm F] at R ⊢;obtain ⟨Y,q2⟩:=m.obj nm o R ae;obtain ⟨q3,q4⟩:=C nm F;exact ⟨Y,q2.up (L _) (λg x c=>qe1 Y (q3 g x (j7 c).2)) (λg b i n j=>q4 g b i n (j7 j).2)⟩
 .have:(a.put t.o.dst y).tmps.size=a.tmps.size:=by
   cases t.o.dst<;>simp [Act.put]
  rw [this];exact m.n
 .have:(a.put t.o.dst y).defers=a.defers:=by
   cases t.o.dst<;>rfl
  rw [this];exact qcs.up (L _) m.dfr
 .
  by_cases F:(t.K.next<=g/\g<t.K'.next)∨(t.qa0=true/\t.dom g=true)
  .rw [Q g F] at R;have af:g<t.K'.zm:=by rw [st.zm,ok.zm];exact j
   obtain ⟨n,H⟩:=st.sim.globs g o af R;exact ⟨n,by rw [qey (U _ _ _ H)];exact H⟩
  .rw [p g F] at R;obtain ⟨n,H⟩:=m.globs g o j R;exact ⟨n,I _ _ _ H⟩
 .
  have V:=ok.ro;have T:=ok.roN;by_cases F:(t.K.next<=nm/\nm<t.K'.next)∨(t.qa0=true/\t.dom nm=true)
  .rw [Q nm F];simp only;rw [st.keep nm (by omega)];rcases F with h | h
   .omega
   .rw [(a6 nm h.2).1];exact m.keep nm H
  .rw [p nm F];exact m.keep nm H
 .
  have V:=ok.ro;have T:=ok.roN;refine m.ext.trans ⟨I,λb hb ad=>?_,st.ext.size,st.ext.shp,λnm g b i n H j=>?_,st.ext.out⟩
  .have:=st.ext.frg b hb (λnm g i n h=>ad _ _ _ _ (j7 h).2);refine ⟨this.1,λnm g i n h=>?_⟩;by_cases l:nm<t.K'.next
   .rw [qey l] at h;exact this.2 _ _ _ _ h
   .rw [qjw l] at h;exact ad _ _ _ _ h
  .exact st.ext.ro nm g b i n (by omega) (qe1 (by omega) j)
 .
  have V:=ok.ro;have T:=ok.roN;rw [qey (by omega)] at c;exact m.newG nm g x (j7 (st.newG nm g x c (by omega))).2 H
 .
  obtain ⟨Y,q2,q3⟩:=m.frame nm H h0;have ai:=ok.start;have l:nm<t.K.next:=by omega
  have r:t.K.get nm=none:=by
   by_cases P:t.K.get nm=none
   .exact P
   .have:=ok.dom nm l P;rw [(a6 nm this).1,Y] at P;exact (P rfl).elim
  obtain ⟨f1,f2,f3⟩:=st.frame nm l r;refine ⟨?_,λg b i n j=>?_,λg x c=>?_⟩
  .by_cases F:(t.K.next<=nm/\nm<t.K'.next)∨(t.qa0=true/\t.dom nm=true)
   .rw [Q nm F];exact f1
   .rw [p nm F];exact Y
  .exact (f2 g b i n (qe1 l (m.ext.sub _ _ _ j))).trans (q2 g b i n j)
  .rw [qey (by omega)] at c;exact q3 g x (j7 (f3 g x c)).2
end
end Go.E2
/- E2: A REGION THAT DRAWS ITS ORDER, whole. -/
namespace Go.E2
open Go
def qao (acc:Array Nat) (o:Oper):Nat:=o.after.foldl (λs e=>if Region.binds .any e then s ||| 2 ^ e.on ||| acc.getD e.on 0 else s) 0
theorem qxo (acc:Array Nat) (o:Oper):qao acc o=o.after.toList.foldl (λs e=>if Region.binds .any e then s ||| 2 ^ e.on ||| acc.getD e.on 0 else s) 0:=by
 unfold qao;rw [Array.foldl_toList]
theorem q0t (acc:Array Nat) (k:Nat):∀ (l:List Edge) (s:Nat),(l.foldl (λs e=>if Region.binds .any e then s ||| 2 ^ e.on ||| acc.getD e.on 0 else s) s).testBit k=true->
  s.testBit k=true∨∃ e ∈ l,Region.binds .any e=true/\(k=e.on∨(acc.getD e.on 0).testBit k=true)
 | [],s,h=>.inl h
 | e::l,s,h=>by
  simp only [List.foldl_cons] at h;rcases q0t acc k l _ h with a | ⟨c,d,a⟩
  .by_cases b:Region.binds .any e=true
   .rw [zT b,Nat.testBit_or,Nat.testBit_or,Bool.or_eq_true,Bool.or_eq_true] at a;rcases a with (a | a) | a
    .exact .inl a
    .rw [Nat.testBit_two_pow,decide_eq_true_eq] at a;exact .inr ⟨e,zC,b,.inl a.symm⟩
    .exact .inr ⟨e,zC,b,.inr a⟩
   .rw [zF b] at a;exact .inl a
  .exact .inr ⟨c,zG _ d,a⟩
theorem qs6 (acc a:Array Nat):∀ (l:List Edge) (s:Nat),(∀ e ∈ l,Region.binds .any e=true->acc.getD e.on 0=a.getD e.on 0)->
  l.foldl (λs e=>if Region.binds .any e then s ||| 2 ^ e.on ||| acc.getD e.on 0 else s) s=l.foldl (λs e=>if Region.binds .any e then s ||| 2 ^ e.on ||| a.getD e.on 0 else s) s
 | [],_,_=>rfl
 | e::l,s,h=>by
  simp only [List.foldl_cons];by_cases b:Region.binds .any e=true
  .rw [h e zC b];exact qs6 acc a l _ (λc d=>h c (zG _ d))
  .rw [zF b,zF b];exact qs6 acc a l _ (λc d=>h c (zG _ d))
theorem q73 {acc a:Array Nat} {o:Oper} (h:∀ e ∈ o.after,Region.binds .any e=true->acc.getD e.on 0=a.getD e.on 0):qao acc o=qao a o:=by
 rw [qxo,qxo];exact qs6 _ _ _ _ (λe b=>h e (Array.mem_toList_iff.1 b))
theorem qx8 {all:Array Oper} (p:∀ (j:Nat) (o:Oper),all[j]? = some o->∀ e ∈ o.after,Region.binds .any e=true->e.on<j):∀ (l:List Oper) (a:Array Nat),all.toList.drop a.size=l->
  (∀ j o,j<a.size->all[j]? = some o->a.getD j 0=qao a o)->
  ∀ j o,all[j]? = some o->(l.foldl (λa o=>a.push (qao a o)) a).getD j 0=qao (l.foldl (λa o=>a.push (qao a o)) a) o
 | [],a,h,k,j,o,c=>by
  have:all.size<=a.size:=by
   have:=congrArg List.length h;simp at this;omega
  have f:j<all.size:=by
   rw [Array.getElem?_eq_some_iff] at c;exact c.1
  exact k j o (by omega) c
 | x::l,a,h,k,j,o,c=>by
  have q:all[a.size]? = some x:=by
   have:all.toList[a.size]? = some x:=by
    have r:(all.toList.drop a.size)[0]? = some x:=by rw [h];rfl
    simpa using r
   simpa using this
  have d:∀ j,j<a.size->(a.push (qao a x)).getD j 0=a.getD j 0:=by
   intro j f;simp [Array.getElem?_push_lt f,Array.getElem?_eq_getElem f]
  refine qx8 p l (a.push (qao a x)) ?_ (λj o f c=>?_) j o c
  .rw [Array.size_push,<-List.drop_drop (i:=1) (j:=a.size)];rw [h];rfl
  .rw [Array.size_push] at f;have b:∀ e ∈ o.after,Region.binds .any e=true->a.getD e.on 0=(a.push (qao a x)).getD e.on 0:=λe s m=>(d _ (by have:=p j o c e s m;omega)).symm;by_cases g:j<a.size
   .rw [d j g,k j o g c];exact q73 b
   .have n:j=a.size:=by omega
    subst n;rw [q] at c;cases c;have:(a.push (qao a x)).getD a.size 0=qao a x:=by simp
    rw [this];exact q73 b
theorem q0r {all:Array Oper} (d:∀ (j:Nat) (o:Oper),all[j]? = some o->∀ e ∈ o.after,Region.binds .any e=true->e.on<j) {j k:Nat} {o:Oper} (f:all[j]? = some o) (h:((Region.before all).getD j 0).testBit k=true) :
  ∃ e ∈ o.after,Region.binds .any e=true/\(k=e.on∨((Region.before all).getD e.on 0).testBit k=true):=by
 have g:Region.before all=all.toList.foldl (λa o=>a.push (qao a o)) #[]:=by
  unfold Region.before;rw [<-Array.foldl_toList];rfl
 have b:=qx8 d all.toList #[] (by simp) (λj o i=>by simp at i) j o f;rw [<-g] at b;rw [b,qxo] at h;rcases q0t _ _ _ _ h with c | ⟨e,c,l⟩
 .simp at c
 .grind
section
variable {P:Program} {sp:Nat->Option (List V->Heap->Option (CR×Heap))} {call:Call} {all:Array Oper} {fr0:Fr} {H0:Heap} {G0:qk} {w0:World} {N:Nat} {F:Fence} {n:Nat} {Q:Exit->Act->World->Prop}
theorem qxc {listed:Array Bool} {i:Nat}:i ∈ Region.ready .any all listed↔i<all.size/\listed.getD i true=false/\∃ o,all[i]? = some o/\∀ e ∈ o.after,Region.binds .any e=true->listed.getD e.on false=true:=by
 unfold Region.ready;rw [List.mem_filter,List.mem_range];constructor
 .rintro ⟨b,a⟩;rw [zA,Bool.not_eq_true'] at a;obtain ⟨a,c⟩:=a;refine ⟨b,a,?_⟩;have d:all[i]? = some all[i]:=Array.getElem?_eq_getElem b;refine ⟨_,d,λe f g=>?_⟩;rw [d,zH,Option.getD_some,Array.all_eq_true'] at c;have:=c e f;rw [g] at this;simpa using this
 .grind
theorem zmu (hc:qhr P call) (hF:qhb F) (ah:H0.zm<=H0.ro) (hb:∀ (j:Nat) (o:Oper),all[j]? = some o->∀ e ∈ o.after,Region.binds .any e=true->e.on<j) (E:Loc->Val)
  (hQ:∀ G a w,Mid fr0 H0 G0 w0 N [] E G a w->Q .normal a w) :
  ∀ (m:Nat) (R:List It) (b:Array Bool) (s:Loc->Val) (G:qk) (a:Act) (w:World),R.length=m->b.size=all.size->(∀ i,i<all.size->(b.getD i true=false↔∃ t ∈ R,t.i=i))->
   (∀ j k,j<all.size->b.getD j true=true->((Region.before all).getD j 0).testBit k=true->b.getD k true=true)->
   (∀ t ∈ R,ItOk (zr P sp) call all fr0 H0 t/\t.K'.next<=N)->R.Pairwise (Rl (Region.before all) all)->qvy (R.map (It.rw all)) s->q25 (R.map (It.rw all)) s=E->Mid fr0 H0 G0 w0 N R s G a w->
   wpAnyIn F n P .any all Q m b a w:=by
 intro m
 induction m with
 | zero=>
  intro R b s G a w p a6 l M C O H q u;have hR:R=[]:=List.eq_nil_of_length_eq_zero p;subst hR;refine ⟨?_,?_⟩
  .rw [List.eq_nil_iff_forall_not_mem];intro i hi;obtain ⟨h1,h2,_⟩:=qxc.1 hi;obtain ⟨t,L,_⟩:=(l i h1).1 h2;cases L
  .have:s=E:=q;subst this;exact hQ _ _ _ u
 | succ m ih=>
  intro R b s G a w p a6 l M C O H q u;have a7:∀ t ∈ R,t.i<all.size:=λt L=>by
   have:=(C t L).1.op;rw [Array.getElem?_eq_some_iff] at this;exact this.1
  refine ⟨λa8=>?_,λi hi=>?_⟩
  .exfalso;obtain ⟨r,R',rfl⟩:∃ r R',R=r::R':=by
    cases R with
    | nil=>simp at p
    | cons r R'=>simp_all
   have hr:=a7 r zC;have f:r.i ∈ Region.ready .any all b:=by
    refine qxc.2 ⟨hr,(l r.i hr).2 ⟨r,zC,rfl⟩,r.o,(C r zC).1.op,λe W ai=>?_⟩;have aa:=hb _ _ (C r zC).1.op e W ai;have U:¬ b.getD e.on true=false:=by
     intro hq;obtain ⟨t,L,S⟩:=(l e.on (by omega)).1 hq;rcases zD.1 L with rfl | L
     .omega
     .have:=((List.pairwise_cons.1 O).1 t L).1;omega
    have g:e.on<b.size:=by omega
    simp only [Array.getD_eq_getD_getElem?,Array.getElem?_eq_getElem g,Option.getD_some] at U ⊢;simpa using U
   rw [a8] at f;cases f
  .obtain ⟨h1,h2,o,ho,h3⟩:=qxc.1 hi;obtain ⟨t,L,S⟩:=(l i h1).1 h2;obtain ⟨A,B,rfl⟩:=List.append_of_mem L;obtain ⟨z,hN⟩:=C t L;have ab:=z.op;rw [S,ho] at ab;cases ab;rw [List.pairwise_append] at O;obtain ⟨pA,pB,X⟩:=O;obtain ⟨ad,aj⟩:=List.pairwise_cons.1 pB;have hA:∀ k ∈ A,k.K'.next<=t.K.next/\(k.rw all).dis (t.rw all):=by
    intro k d;obtain ⟨q1,q2,q3⟩:=X k d t zC;refine ⟨q2,q3.resolve_left (λI=>?_)⟩;unfold z7q at I;rw [S] at I;obtain ⟨e,W,c,Y⟩:=q0r hb ho I;have hl:=h3 e W c;have aa:=hb _ _ ho e W c;have g:e.on<b.size:=by omega
    have T:b.getD e.on true=true:=by
     simp only [Array.getD_eq_getD_getElem?,Array.getElem?_eq_getElem g,Option.getD_some] at hl ⊢;exact hl
    have ak:b.getD k.i true=true:=by
     rcases Y with h | h
     .simp_all
     .exact M e.on k.i (by omega) T h
    have ae:=(l k.i (a7 k (List.mem_append.2 (.inl d)))).2 ⟨k,List.mem_append.2 (.inl d),rfl⟩;rw [ak] at ae;cases ae
   have hB:∀ k ∈ B,t.K'.next<=k.K.next:=λk d=>(ad k d).2.1
   rw [List.map_append,List.map_cons] at H q;obtain ⟨v1,v2,v3⟩:=zwq (A.map (It.rw all)) (t.rw all) (B.map (It.rw all)) s (λx Z=>by
    obtain ⟨k,d,rfl⟩:=List.mem_map.1 Z;exact (hA k d).2) H
   obtain ⟨ms,mf⟩:=u.sim ah z hN v1;have f:∀ k,k ∈ A++B->k ∈ A++t::B:=by
    intro k d;rcases List.mem_append.1 d with h | h
    .exact List.mem_append.2 (.inl h)
    .exact List.mem_append.2 (.inr (zG _ h))
   have a1:∀ k ∈ A++B,k.i≠t.i:=by
    intro k d;rcases List.mem_append.1 d with h | h
    .have:=(X k h t zC).1;omega
    .have:=(ad k h).1;omega
   unfold wpOpIn;rw [ho];refine qq3 hc hF ms mf z.run (λv y w' G' hv st hy=>?_) (λw' G' ch al Z=>by cases Z);cases hv;refine ih (A++B) (b.setIfInBounds i true) ((t.rw all).app s) _ _ w' (by simp at p ⊢;omega) (by simp [a6]) (λj hj=>?_) (λj k hj af V=>?_) (λk d=>C k (f k d)) ?_ (by rw [List.map_append];exact v2)
    (by rw [List.map_append,v3];exact q) (u.step z hN v1 hA hB st hy)
   .by_cases D:j=i
    .subst D;have:(b.setIfInBounds j true).getD j true=true:=by simp [Array.getElem?_setIfInBounds_self];split<;>simp
     rw [this];refine ⟨λh=>(Bool.noConfusion h),λ⟨k,d,an⟩=>(a1 k d (by omega)).elim⟩
    .have:(b.setIfInBounds i true).getD j true=b.getD j true:=by
      simp [Array.getElem?_setIfInBounds_ne (Ne.symm D)]
     rw [this,l j hj];constructor
     .rintro ⟨k,d,rfl⟩;rcases List.mem_append.1 d with h | h
      .exact ⟨k,List.mem_append.2 (.inl h),rfl⟩
      .rcases zD.1 h with rfl | h
       .exact (D S).elim
       .exact ⟨k,List.mem_append.2 (.inr h),rfl⟩
     .rintro ⟨k,d,rfl⟩;exact ⟨k,f k d,rfl⟩
   .have J:∀ x,b.getD x true=true->(b.setIfInBounds i true).getD x true=true:=by
     intro x Z;by_cases ag:x=i
     .subst ag;simp [Array.getElem?_setIfInBounds_self];split<;>simp
     .simpa [Array.getElem?_setIfInBounds_ne (Ne.symm ag)] using Z
    by_cases D:j=i
    .subst D;obtain ⟨e,W,c,Y⟩:=q0r hb ho V;have hl:=h3 e W c;have aa:=hb _ _ ho e W c;have g:e.on<b.size:=by omega
     have T:b.getD e.on true=true:=by
      simp only [Array.getD_eq_getD_getElem?,Array.getElem?_eq_getElem g,Option.getD_some] at hl ⊢;exact hl
     rcases Y with h | h
     .rw [h];exact J _ T
     .exact J _ (M e.on k (by omega) T h)
    .rw [show (b.setIfInBounds i true).getD j true=b.getD j true by simp [Array.getElem?_setIfInBounds_ne (Ne.symm D)]] at af;exact J _ (M j k hj af V)
   .exact List.pairwise_append.2 ⟨pA,aj,λx Z y hy=>X x Z y (zG _ hy)⟩
theorem zlr {l:List Oper} {p:Oper×Nat->Bool} (h:l.zipIdx.all p=true) {i:Nat} {o:Oper} (a:l[i]? = some o):p (o,i)=true:=
 List.all_eq_true.1 h (o,i) (List.mem_zipIdx_iff_getElem?.2 a)
theorem q81 (hc:qhr P call) (hm:P.follows .mixedOrders=true):zfl P sp call:=by
 intro c fr H fr' H' h U G w a F n id Q hF C e hQ;have r:∀ j o,c[j]? = some o->(∀ e ∈ o.after,Region.binds .any e=true->e.on<j)/\∀ k p,c[k]? = some p->k<j->((Region.before c).getD j 0).testBit k=false->p.apart c o=true:=by
  intro j o d;have T:=zlr U (by simpa using d:c.toList[j]? = some o);simp only [zA] at T;refine ⟨λe he V=>?_,λk p W hk u=>?_⟩
  .have:=Array.all_eq_true'.1 T.1.1 e he;rw [V] at this;simpa using this
  .have X:=zlr T.2 (by simpa using W:c.toList[k]? = some p);simp only [Bool.or_eq_true,Nat.ble_eq,u,Bool.false_eq_true,or_false] at X;exact X.resolve_left (by omega)
 have hb:∀ (j:Nat) (o:Oper),c[j]? = some o->∀ e ∈ o.after,Region.binds .any e=true->e.on<j:=λj o d=>(r j o d).1;obtain ⟨s,y⟩:∃ s:Loc->Val,s=λl=>match l with
  | .inl x=>(fr.tmps.get x,none,H.next)
  | .inr nm=>(none,if nm<H.next then H.get nm else none,H.next):=⟨_,rfl⟩
 have K:Rep s fr H:=by
  subst y;exact ⟨λx=>⟨rfl,zN _⟩,λnm Y=>⟨by simp only;rw [zT Y],zN _⟩⟩
 obtain ⟨z,e1,e2,e3,L,_,e6,e7,e8,Z,E,M⟩:=qsg (λk j p o W d hk u=>(r j o d).2 k p W hk u) c.toList 0 [] [] fr H fr' H' s h (λk=>by simp) (by simp) (by simp) (by simp) rfl rfl (zN _) rfl rfl C.ro K;obtain ⟨w1,I⟩:∃ w1:World,w1 = {w with drawn:=w.drawn+1}:=⟨_,rfl⟩;have st0:Step H G w H G w1:=Step.same C (by rw [I]) (by rw [I];exact ⟨rfl,rfl⟩);have es:=e.ext st0.ext;refine wpIn_region_any hm ?_;rw [<-I];have N:z.length=c.size:=by
  have:=congrArg List.length e1;simpa using this
 have J:Up G w1 (qhk G H.next) w1:=⟨λnm g x f=>qe1 (st0.sim.lt nm g x.1 x.2.1 x.2.2 f).2 f,λ_ _ h=>h⟩;have O:Mid fr H G w1 H'.next z s G a w1:=by
  refine ⟨λnm g b sh n D=>(st0.sim.lt _ _ _ _ _ D).1,st0.sim.inj,λt ht nm g T X=>?_,λnm g x f=>?_,λx v f=>?_,λnm o d _=>?_,es.n,qcs.up J es.dfr,λg o D d=>?_,λnm R=>?_,Ext.refl _ _ _,λ_ _ _ h _=>h,λnm R h0=>?_⟩
  .cases hq:G nm g with
   | none=>rfl
   | some x=>have:=(st0.sim.lt nm g x.1 x.2.1 x.2.2 hq).2;have:=(e2 t ht).1.start;omega
  .have:=(st0.sim.lt nm g x.1 x.2.1 x.2.2 f).2;omega
  .subst y;exact Rel.up J (es.tmps x v f)
  .subst y;simp only at d ⊢;by_cases q:nm<H.next
   .rw [zT q] at d;exact ⟨q,(st0.sim.obj nm o q d).up J (λg x f=>(j7 f).2) (λ_ _ _ _ _=>rfl)⟩
   .simp_all
  .subst y;simp only at d;have:=C.zm;have:=C.ro;rw [zT (by omega)] at d;exact st0.sim.globs g o D d
  .subst y;have:=C.ro;simp only;rw [zT (by omega)]
  .simp_all
 refine zmu hc hF C.zm hb (q25 (z.map (It.rw c)) s) (λG' a' w' m=>?_) c.size z (Array.replicate c.size false) s G a w1 N (by simp) (λi hi=>?_) (λj k hj a6 _=>?_) e2 e6 e3 rfl O
 .have A:∀ B,Up (qhk G' B) w' G' w':=λB=>⟨λnm g x f=>(j7 f).2,λ_ _ h=>h⟩;have S:=C.ro;refine hQ _ _ _ ⟨G',st0.trans ⟨m.ext,⟨λnm g b sh n D=>⟨m.lt _ _ _ _ _ D,m.top _ _ _ D⟩,m.inj,λnm o q d=>?_,by rw [Z];exact zR S M,by rw [Z,E];exact C.zm,λg o D d=>?_⟩,M,Z,E,λnm R=>?_,m.newG,λnm R h0=>?_⟩,⟨λx v f=>?_,by rw [m.n,e7],?_⟩,rfl⟩
  .have hr:=(L.2 nm q).1;obtain ⟨q1,q2⟩:=m.obj nm o (hr.trans d) q;exact q2.up (A _) (λg x f=>qe1 q1 f) (λ_ _ _ _ _=>rfl)
  .rw [E] at D;have:=C.zm;have hr:=(L.2 g (by omega)).1;exact m.globs g o D (hr.trans d)
  .rw [<-(L.2 nm (by omega)).1];exact m.keep nm R
  .obtain ⟨q1,q2,q3⟩:=m.frame nm R h0;exact ⟨by rw [<-(L.2 nm (by omega)).1];exact q1,q2,q3⟩
  .exact Rel.up (A _) (m.tmp x v ((L.1 x).1.trans f))
  .rw [e8];exact qcs.up (A _) m.dfr
 .have:(Array.replicate c.size false).getD i true=false:=by simp [hi]
  rw [this];refine ⟨λ_=>?_,λ_=>rfl⟩;have hm:i ∈ z.map (·.i):=by rw [e1,List.mem_range'_1];simp;exact hi
  obtain ⟨t,ht,a1⟩:=List.mem_map.1 hm;exact ⟨t,ht,a1⟩
 .simp_all
end
end Go.E2
/- E2: DEFERRED CALLS: what E2 makes of a function that is deferred, and of what is recovered in it, the model makes of it. -/
namespace Go.E2
open Go
def qt2 (G:qk) (w:World):Md->FrameMode->Prop
 | .returning,u=>u=.returning
 | .panicking v,u=>∃ x,u=.panicking [{v:=x,recovered:=false}]/\Rel G w v x
theorem qt2.ext {r:Nat} {G a:qk} {w w':World} (h:Ext r G w a w') {md:Md} {u:FrameMode} (e:qt2 G w md u):qt2 a w' md u:=by
 cases md with
 | returning=>exact e
 | panicking v=>obtain ⟨x,b,c⟩:=e;exact ⟨x,b,c.ext h⟩
theorem qt2.z4u {G:qk} {w:World} {md:Md} {u:FrameMode} (e:qt2 G w md u):u≠.run:=by
 cases md with
 | returning=>subst e;simp
 | panicking v=>obtain ⟨x,rfl,a⟩:=e;simp
end Go.E2
/- E2: CALLS: what E2 makes of a function the model makes of it. -/
namespace Go.E2
open Go
section
variable {P:Program} {sp:Nat->Option (List V->Heap->Option (CR×Heap))} {H:Heap} {G:qk} {w:World} {fr:Fr} {a:Act}
def z13 (P:Program):Prop:=
 ∀ f b args v,P.funcs[f]? = some b->b.body=none->znd (qyc b.name) args=some v->∀ G w (a:Array Value),qq G w args a.toList->
  ∃ x w',(callFunc f a).run P w=.ok (.value x) w'/\w'.heap=w.heap/\(w'.os=w.os/\w'.output=w.output)/\Rel G w v x
def qbx (P:Program) (f:Nat) (s:List V->Heap->Option (CR×Heap)):Prop:=
 ∀ args H r H',s args H=some (r,H')->∀ G w a,Sim H G w->qq G w args a.toList->∃ b c,P.funcs[f]? = some b/\(b.name == "runtime.NumGoroutine")=false/\b.body=some c/\
  ∀ F n,qhb F->CallsIn F n P f a w λe w'=>∃ d,Step H G w H' d w'/\qln d w' r e
def zd4 (tmps:Array Value):ResultVar->Sem Value
 | .tmp t=>pure (tmps.getD t undef)
 | .cell a t=>do loadVar t (<-asAddr (tmps.getD a undef))
theorem qnu (c:Sim H G w) (e:SimFr G w fr a):∀ (rs:List ResultVar) (b:List V),qag (zr P sp) fr H rs=some b->∃ l,(rs.mapM (zd4 a.tmps)).run P w=.ok l w/\qq G w b l
 | [],b,h=>by
  simp only [qag,zS] at h;subst h;exact ⟨[],by simp,qq.nil⟩
 | .tmp t::rs,b,h=>by
  simp only [qag,zI,zM] at h;obtain ⟨v,d,us,f,rfl⟩:=h;obtain ⟨l,g,i⟩:=qnu c e rs us f;exact ⟨_::l,by simp [List.mapM_cons,zd4,g],qq.cons (qoa e d) i⟩
 | .cell x t::rs,b,h=>by
  simp only [qag,zr,zI,zM] at h;obtain ⟨ti,j,p,k,v,d,us,f,rfl⟩:=h;obtain ⟨l,g,i⟩:=qnu c e rs us f;obtain ⟨y,ad,m,n,o⟩:=ql6 c j (qoa e k) d;refine ⟨y::l,?_,qq.cons o i⟩;simp [List.mapM_cons,zd4,g,m,asAddr,n]
theorem zgk (d:Sim H G w) (e:SimFr G w fr a) {fn:Func} {b:List V} (h:qag (zr P sp) fr H fn.results.toList=some b) :
  ∃ v,(results fn a.tmps).run P w=.ok v w/\Rel G w (oneOf b) v:=by
 obtain ⟨l,f,c⟩:=qnu d e _ _ h;have g:(fn.results.mapM (zd4 a.tmps)).run P w=.ok l.toArray w:=by
  rw [Array.mapM_eq_mapM_toList];simp only [Sem.run_map,f,Result.andThen_ok]
 have i:results fn a.tmps=(do
   let b <-fn.results.mapM (zd4 a.tmps)
   pure (if h:b.size=1 then b[0] else .tuple b)):=rfl
 rw [i];simp only [Sem.run_bind,g,Result.andThen_ok,Sem.run_pure];refine ⟨_,rfl,?_⟩
 match b,c with
 | [],c=>
  subst c;exact ⟨_,rfl,qq.nil⟩
 | [v],c=>
  obtain ⟨x,m,rfl,j,rfl⟩:=c;exact j
 | u::v::b,c=>
  have k:=c.length;refine ⟨l.toArray,?_,c⟩;rw [dif_neg (by simp at k ⊢;omega)]
theorem zcf {args:List V} {a:Array Value} (h:qq G w args a.toList) (k:Nat):SimFr G w {tmps:=qhd args,n:=max args.length k,defers:=[]} {tmps:=a++Array.replicate (k-a.size) undef,defers:=[]}:=by
 have d:=h.length;simp only [Array.length_toList] at d;refine ⟨λi v c=>?_,?_,by simp [qcs]⟩
 .simp only [qhd,Tree.qta] at c;obtain ⟨x,b,e⟩:=h.get c;have:(a++Array.replicate (k-a.size) undef).getD i undef=x:=by
   rw [Array.getElem?_toList] at b;have hi:i<a.size:=by rw [Array.getElem?_eq_some_iff] at b;exact b.1
   rw [Array.getD_eq_getD_getElem?,Array.getElem?_append_left hi,b];rfl
  rw [this];exact e
 .grind
theorem qyk {call:Call} (C:qhr P call) (D:zfl P sp call) (d:∀ (f:Nat) (e:Func) (c:Code),P.funcs[f]? = some e->e.body=some c->codeOk c=true) (fuel:Nat) {F:Fence} {n:Nat} (E:qhb F) (q:F.round=none) {e:Func} {tmps:Array Value} {R:Ending->World->Prop} {g:Md} {H':Heap}:∀ (j:List Dfr) (l:List Deferred) (H:Heap) (G:qk) (w:World) (md:Md) (u:FrameMode),Sim H G w->qcs G w j l->qt2 G w md u->leave (zr P sp) call fuel j md H=some (g,H')->
  (∀ w' k o,Step H G w H' k w'->qt2 k w' g o->LeavesInM F n P e tmps R [] o w')->LeavesInM F n P e tmps R l u w
 | [],l,H,G,w,md,u,i,a,p,h,r=>by
  simp only [qcs] at a;subst a;simp only [leave,zS,zP] at h;obtain ⟨rfl,rfl⟩:=h;exact r w G u (Step.refl i) p
 | .mark nm::j,l,H,G,w,md,u,i,a,p,h,r=>by
  simp only [qcs] at a;obtain ⟨x,I,rfl,J,b,K,m,s,rfl⟩:=a;simp only [leave] at h;split at h
  .rename_i B;simp only [zI] at h;obtain ⟨H1,t,h⟩:=h;obtain ⟨L,rfl⟩:=qj4 t;have v:=i.obj nm _ (i.lt _ _ _ _ _ s).2 B;have y:=(v 0 b K m s).2;have st:=i.setObj .gone B s L (.deferred none) y (by simp only [World.shape?,y]) (λ_=>trivial);refine ⟨p.z4u,.inl ⟨b,_,rfl,?_,qyk C D d fuel E q j I _ G _ md u st.sim (J.ext st.ext) (p.ext st.ext) h (λw' k o z A=>r w' k o (st.trans z) A)⟩⟩;simp only [Instr.takeDeferred,Sem.run_bind];simp [getObj,setObj,Sem.run,y,qts]
  .cases h
theorem qe0 {ln:Nat}:∀ (ps:List Tmp) (args:List V) (t c:Tree V) (b:Array Value) (a:List Value),q4m G w t b->b.size=ln->qq G w args a->qe9 ln ps args t=some c->
  a.length=ps.length/\q4m G w c ((ps.zip a).foldl (λtmps (x:Tmp×Value)=>tmps.setIfInBounds x.1 x.2) b)/\((ps.zip a).foldl (λtmps (x:Tmp×Value)=>tmps.setIfInBounds x.1 x.2) b).size=ln
 | [],[],t,c,b,a,f,e,d,h=>by
  simp only [qq] at d;subst d;simp only [qe9,zS] at h;subst h;exact ⟨rfl,f,e⟩
 | [],_::_,t,c,b,a,f,e,d,h=>by simp [qe9] at h
 | _::_,[],t,c,b,a,f,e,d,h=>by simp [qe9] at h
 | p::ps,v::args,t,c,b,a,f,e,d,h=>by
  simp only [qq] at d;obtain ⟨y,i,rfl,j,k⟩:=d;simp only [qe9,cond_eq_ite,Nat.blt_eq] at h;split at h
  .rename_i l;have m:SimFr G w {tmps:=t,n:=ln,defers:=[]} {tmps:=b,defers:=[]}:=⟨f,e,by simp [qcs]⟩;have g:=(m.put (some p) j).tmps;simp only [Fr.put,Act.put,cond_eq_ite,Nat.blt_eq,l,if_true] at g;obtain ⟨o,q,r⟩:=qe0 ps args (t.set p v) c (b.setIfInBounds p y) i g (by simpa using e) k h;exact ⟨by simp [o],q,r⟩
  .cases h
theorem qlu (e:Sim H G w) {l b f n:Nat} (g:G l 0=some (b,f,n)) {jump:Option Code} {r:CR} {H':Heap} (h:qin H l jump=some (r,H')) :
  ∃ v w',(Instr.endRound b jump).run P w=.ok v w'/\Step H G w H' G w'/\qln G w' r (.returned v):=by
 unfold qin at h;split at h
 .rename_i st c lt ln k m o p i;simp only [zM,zP] at h;obtain ⟨H1,j,rfl,rfl⟩:=h;obtain ⟨L,d,_,_,a⟩:=e.zad i g j;refine ⟨.bool jump.isNone,_,?_,a,⟨_,rfl,by simp only [Rel]⟩⟩;simp only [Instr.endRound,Sem.run_bind,run_getLoop d,Result.andThen_ok,run_setObj_loop d,Sem.run_pure]
 .cases h
theorem qwg (e:Sim H G w) {l b f n:Nat} (g:G l 0=some (b,f,n)) {H':Heap} (h:q0s H l=some H') :
  ∃ w',(Instr.beginRound b).run P w=.ok () w'/\Step H G w H' G w':=by
 unfold q0s at h;split at h
 .rename_i c lt ln m o p q i;obtain ⟨L,d,j,k,a⟩:=e.zad i g h;refine ⟨_,?_,k ▸ a⟩;simp only [Instr.beginRound,Sem.run_bind,run_getLoop d,Result.andThen_ok,run_setObj_loop d,j,Sem.run_pure]
 .cases h
theorem qmg (fr:Fr) (H:Heap):∀ (rs:List ResultVar),qag (zr P sp) {fr with defers:=[]} H rs=qag (zr P sp) fr H rs
 | []=>rfl
 | .tmp t::rs=>by simp only [qag,qmg fr H rs];rfl
 | .cell x t::rs=>by simp only [qag,qmg fr H rs];rfl
theorem q5k.ext {r:Nat} {a:qk} {w':World} (h:Ext r G w a w') {p:PE} {q:PanicEntry} (e:q5k G w p q):q5k a w' p q:=⟨e.1.ext h,e.2⟩
theorem qr3.ext {r:Nat} {a:qk} {w':World} (h:Ext r G w a w'):∀ {l:List PE} {b:List PanicEntry},qr3 G w l b->qr3 a w' l b
 | [],_,e=>e
 | p::ps,_,e=>by
  obtain ⟨q,c,rfl,d,f⟩:=e;exact ⟨q,c,rfl,d.ext h,qr3.ext h f⟩
theorem qbr (hm:P.follows .mixedOrders=true) (g:z13 P) (d:∀ (f:Nat) (I:Func) (c:Code),P.funcs[f]? = some I->I.body=some c->codeOk c=true)
  (p:∀ f s,sp f=some s->qbx P f s):∀ n,qhr P (qbh (zr P sp) n)
 | 0=>by intro a1 args H r H' h;simp [qbh] at h
 | n+1=>by
  intro a1 args H r H' h G w t a Z ht;cases a1 with
  | round l=>
   obtain ⟨cap,b,sh,m,rfl,hg,hr⟩:=ht;simp only [qbh] at h;split at h
   .rename_i st au lt ln lp la lb ld ho;simp only [zI] at h;obtain ⟨t',a6,h⟩:=h;obtain ⟨_,L,e1,e2,e3,e4,e5,e6,e7,ah,e8,e9,db,av,dn,aw,ax⟩:=Z.obj l _ (Z.lt _ _ _ _ _ hg).2 ho 0 b sh m hg;obtain ⟨q1,q2,q3⟩:=qe0 lp args lt t' L.tmps a.toList e9 e8 hr a6;have a7:(L.params.zip a).foldl (λtmps (x:Tmp×Value)=>tmps.setIfInBounds x.1 x.2) L.tmps=(lp.zip a.toList).foldl (λtmps (x:Tmp×Value)=>tmps.setIfInBounds x.1 x.2) L.tmps:=by
     rw [<-Array.foldl_toList,Array.toList_zip,e4]
    refine .inr (.inr ⟨b,L.fn,(lp.zip a.toList).foldl (λtmps (x:Tmp×Value)=>tmps.setIfInBounds x.1 x.2) L.tmps,L.assign,L.body,?_,λF k hF=>?_⟩)
    .have N:(invoke (.fn (.yield b) cap) a).run P w=(Instr.yield b a).run P w:=rfl;have ai:¬ a.size≠L.params.size:=by
      have h1:L.params.size=lp.length:=by rw [<-e4];simp
      have h2:a.size=lp.length:=by simpa using q1
      omega
     rw [N,<-a7];simp only [Instr.yield,Sem.run_bind,run_getLoop e1,Result.andThen_ok,zF ai,Sem.run_pure]
    .split at h
     .rename_i aj H1 ak;simp only [zI] at h;obtain ⟨C,a8,y,aa,o⟩:=h;refine roundIn_of_wpIn (hF.1 _) ?_;rw [e5,e6];refine qap (qbr hm g d p n) (q81 (qbr hm g d p n) hm) 0 (n+1) la e7 (some l) H G w {tmps:=t',n:=ln,defers:=[]} _ _ (F.inRound b) k _ (hF.inRound b) ⟨b,sh,m,hg,rfl⟩ Z ⟨q2,q3,by simp [qcs]⟩ ak (λex a' w' hp=>?_);obtain ⟨G1,Q,al,an⟩:=hp;subst an;have R:=Q.ext.sub _ _ _ hg;obtain ⟨w2,ao,st2⟩:=qwg (P:=P) Q.sim R a8;refine ⟨w2,ao,?_⟩;refine qap (qbr hm g d p n) (q81 (qbr hm g d p n) hm) 0 (n+1) lb ah (some l) C G1 w2 aj _ _ (F.inRound b) k _ (hF.inRound b) ⟨b,sh,m,R,rfl⟩ st2.sim (al.ext st2.ext) aa (λex ay az hp=>?_);obtain ⟨G3,D,ab,B⟩:=hp;have S:=D.ext.sub _ _ _ R;have stA:=(Q.trans st2).trans D;unfold qq2 at o;split at o
      .rename_i T;rw [T] at B;subst B;obtain ⟨v,w4,g1,g2,g3⟩:=qlu (P:=P) D.sim S o;exact ⟨v,w4,g1,G3,stA.trans g2,g3⟩
      .rename_i T;rw [T] at B;subst B;obtain ⟨v,w4,g1,g2,g3⟩:=qlu (P:=P) D.sim S o;exact ⟨v,w4,g1,G3,stA.trans g2,g3⟩
      .rename_i id T;rw [T] at B;subst B;obtain ⟨v,w4,g1,g2,g3⟩:=qlu (P:=P) D.sim S o;exact ⟨v,w4,g1,G3,stA.trans g2,g3⟩
      .cases o
     .cases h
   .cases h
  | func f=>
   obtain ⟨cap,rfl,hr⟩:=ht;have U:qq G w args (a++cap).toList:=by simpa using hr
   have N:(invoke (.fn (.func f) cap) a).run P w=(callFunc f (a++cap)).run P w:=rfl;simp only [qbh] at h;split at h
   .rename_i r' A;cases h;split at A
    .rename_i s J;obtain ⟨I,c,h1,h2,h3,h4⟩:=p f s J args H r H' A G w _ Z U;exact .inr (.inl ⟨f,a++cap,qcc h1 h2 h3 _ _,h4⟩)
    .cases A
   .simp only [zI] at h;obtain ⟨fi,q,h⟩:=h;simp only [zr,funcOf] at q;split at q
    .rename_i I K;rw [cond_eq_ite] at q;split at q
     .cases q
     .rename_i V;have M:(I.name == "runtime.NumGoroutine")=false:=by simpa using V
      split at q
      .rename_i c i;cases q;simp only [zI] at h;obtain ⟨x,T,y,z,h⟩:=h;refine .inr (.inl ⟨f,a++cap,qcc K M i _ _,λF m hF=>?_⟩);have ad:qhb {F with round:=none}:=hF;refine (CallsIn.inRound (F:={F with round:=none}) 0 (callsIn_of_wp_marks (F:={F with round:=none}) K i (hF.1 f) ?_ rfl):CallsIn F m P f (a++cap) w _);refine qap (qbr hm g d p n) (q81 (qbr hm g d p n) hm) f (n+1) c (d f I c K i) none H G w _ _ x _ m _ ad rfl Z (zcf U I.ntmps) T (λex a' w' hp=>?_);obtain ⟨G',st,sf,O⟩:=hp;have W:∀ md j C u,qt2 G' w' md u->leave (zr P sp) (qbh (zr P sp) n) (n+1) x.2.1.defers md x.2.2=some (j,C)->y=(j,x.2.1,C)->LeavesInM {F with round:=none} m P I a'.tmps (λe w'=>∃ G',Step H G w H' G' w'/\qln G' w' r e) a'.defers u w':=by
        intro md j C u aq X z;subst z;refine qyk (qbr hm g d p n) (q81 (qbr hm g d p n) hm) d (n+1) ad rfl _ _ _ _ _ _ _ st.sim sf.dfr aq X (λw2 G2 u2 st2 Y=>?_);cases j with
        | returning=>
         simp only [qt2] at Y;subst Y;simp only [qux,zM,zP] at h;obtain ⟨vs,ar,rfl,rfl⟩:=h;have ae:=sf.ext st2.ext;have ab:SimFr G2 w2 {x.2.1 with defers:=[]} {a' with defers:=[]}:=⟨ae.tmps,ae.n,by simp [qcs]⟩;have af:qag (zr P sp) {x.2.1 with defers:=[]} C I.results.toList=some vs:=by rw [<-ar];exact qmg _ _ _
         obtain ⟨v,b1,b2⟩:=zgk st2.sim ab af;exact ⟨v,b1,G2,st.trans st2,v,rfl,b2⟩
        | panicking v=>
         obtain ⟨rv,rfl,hv⟩:=Y;simp only [qux,zS,zP] at h;obtain ⟨rfl,rfl⟩:=h;exact ⟨G2,st.trans st2,_,rfl,by simp only [qr3,q5k];exact ⟨_,_,rfl,⟨hv,rfl,rfl⟩,rfl⟩⟩
       unfold zao at z;split at z
       .rename_i E;rw [E] at O;simp only [zqq] at O;subst O;simp only [zM] at z;obtain ⟨⟨j,C⟩,X,z⟩:=z;exact W .returning j C .returning rfl X z.symm
       .rename_i E;rw [E] at O;simp only [zqq] at O;subst O;simp only [zM] at z;obtain ⟨⟨j,C⟩,X,z⟩:=z;exact W .returning j C .returning rfl X z.symm
       .rename_i v E;rw [E] at O;obtain ⟨aA,rfl,ag⟩:=O;simp only [qr3,q5k] at ag;obtain ⟨⟨qv,qr,qg⟩,qs,rfl,⟨q1,q2,q3⟩,rfl⟩:=ag;simp only at q2 q3;subst q2;subst q3;simp only [zM] at z;obtain ⟨⟨j,C⟩,X,z⟩:=z;exact W (.panicking v) j C _ ⟨qv,rfl,q1⟩ X z.symm
       .cases z
      .rename_i i;cases q;simp only [zM,zP] at h;obtain ⟨v,hv,rfl,rfl⟩:=h;obtain ⟨x,w',e1,e2,eo,e3⟩:=g f I args v K i hv G w _ U;exact .inl ⟨x,w',G,v,e1,Step.same Z e2 eo,rfl,e3.same e2⟩
    .cases q
end
end Go.E2
/- E2: FUNCTIONS WITHOUT A BODY, and what is asked of a program's tables, in one check. -/
namespace Go.E2
open Go
def zzk (fn:Func):Bool:=
 match fn.body with
 | some c=>codeOk c
 | none=>Nat.beq (qyc fn.name) 0 || fn.origin == "" || fn.origin == fn.name
def qo9 (P:Program):Bool:=P.funcs.all zzk
section
variable {P:Program}
theorem zj3 (h:qo9 P=true) {f:Nat} {fn:Func} (a:P.funcs[f]? = some fn):zzk fn=true:=by
 simp only [qo9] at h;rw [Array.all_eq_true] at h;rw [Array.getElem?_eq_some_iff] at a;obtain ⟨hi,rfl⟩:=a;exact h f hi
theorem zjh (h:qo9 P=true) (f:Nat) (fn:Func) (c:Code) (a:P.funcs[f]? = some fn) (b:fn.body=some c):codeOk c=true:=by
 have:=zj3 h a;simpa only [zzk,b] using this
theorem qw2 {fn:Func} {s:String} (b:fn.name=s) (a:fn.origin = "" ∨ fn.origin=fn.name) (h:Extern.allNextRows.lookup s=none):Extern.findNext fn=none:=by
 have c:Extern.allNextRows.lookup "" = none:=by kernel_rfl
 rcases a with a | a
 .simp only [Extern.findNext,a,b,h,c];rfl
 .simp only [Extern.findNext,a,b,h];rfl
theorem qw1 {fn:Func} {s:String} {e:Array Value->Sem Value} (a:fn.name=s) (b:Extern.allGenericRows.lookup s=none) (c:Extern.allTypedRows.lookup s=none) (d:Extern.allRows.lookup s=some e):Extern.find fn=some e:=by
 simp only [Extern.find,a,b,c,d];rfl
theorem qmw (c:UInt8):∀ l:List UInt8,Lib.indexByte l c=(match l.findIdx? (λb=>b == c) with | some i=>(i:Int) | none=>-1)
 | []=>rfl
 | b::l=>by
  unfold Lib.indexByte;rw [List.findIdx?_cons,qmw c l];by_cases h:(b == c)=true
  .simp [h]
  .simp only [h];cases a:l.findIdx? (λb=>b == c) with
   | none=>simp
   | some i=>
    have:¬ ((i:Int) == -1)=true:=by simp
    simp [this]
theorem z15 (h:qo9 P=true):z13 P:=by
 intro f e args v p t k G w d m;have n:=zj3 h p;simp only [zzk,t,Bool.or_eq_true,Nat.beq_eq,beq_iff_eq] at n;unfold znd at k;have q:qyc e.name≠0:=by
  intro z;rw [z] at k;simp at k
 have r:e.origin = "" ∨ e.origin=e.name:=by
  rcases n with (g | g) | g
  .exact (q g).elim
  .exact .inl g
  .exact .inr g
 have l:e.body.isNone=true:=by rw [t];rfl
 have a:(qyc e.name=1->e.name = "internal/bytealg.IndexByteString")/\(qyc e.name=2->e.name = "internal/bytealg.CountString")/\(qyc e.name=4->e.name = "internal/abi.NoEscape"):=by
  unfold qyc;simp only [beq_iff_eq];refine ⟨?_,?_,?_⟩<;>(intro h;repeat (split at h<;>try (first | omega | assumption)))
 split at k
 .rename_i s c o;cases k;have i:=a.1 o;simp only [qq] at m;obtain ⟨x,u,g,rfl,y,A,rfl,rfl,rfl⟩:=m;have j:d = #[.string ⟨s.toArray⟩,.int .u8 c]:=by apply Array.ext';simpa using g
  refine ⟨.int .i64 (Lib.indexByte s c.toNat.toUInt8),w,?_,rfl,⟨rfl,rfl⟩,by simp only [Rel,qmw];rfl⟩;rw [run_callFunc_extern p (by rw [i];decide) l (qw2 i r (by kernel_rfl)) (qw1 i (by kernel_rfl) (by kernel_rfl) (by kernel_rfl:Extern.allRows.lookup "internal/bytealg.IndexByteString" = some Extern.BytealgIndexByte.indexByte))];rw [j,Lib.run_indexByteString];simp only [Result.andThen_ok]
 .rename_i s c o;cases k;have i:=a.2.1 o;simp only [qq] at m;obtain ⟨x,u,g,rfl,y,A,rfl,rfl,rfl⟩:=m;have j:d = #[.string ⟨s.toArray⟩,.int .u8 c]:=by apply Array.ext';simpa using g
  refine ⟨.int .i64 (s.countP (λb=>b == c.toNat.toUInt8):Nat),w,?_,rfl,⟨rfl,rfl⟩,by simp only [Rel]⟩;rw [run_callFunc_extern p (by rw [i];decide) l (qw2 i r (by kernel_rfl)) (qw1 i (by kernel_rfl) (by kernel_rfl) (by kernel_rfl:Extern.allRows.lookup "internal/bytealg.CountString" = some Extern.BytealgCount.count))];rw [j,Lib.run_countString];simp only [Result.andThen_ok,Lib.countByte];rfl
 .rename_i x o;cases k;have i:=a.2.2 o;simp only [qq] at m;obtain ⟨y,u,g,B,rfl⟩:=m;have j:d = #[y]:=by apply Array.ext';simpa using g
  refine ⟨y,w,?_,rfl,⟨rfl,rfl⟩,B⟩;rw [run_callFunc_extern p (by rw [i];decide) l (qw2 i r (by kernel_rfl)) (qw1 i (by kernel_rfl) (by kernel_rfl) (by kernel_rfl:Extern.allRows.lookup "internal/abi.NoEscape" = some Extern.AbiNoEscape.same))];rw [j,Lib.run_noEscape];simp only [Result.andThen_ok]
 .cases k
end
end Go.E2
/- E2: FROM A RUN OF E2 TO A CONTRACT of the model's; a function without arguments that answers true. -/
namespace Go.E2
open Go Go.ChangeShapes Go.WideShapes Go.ChangeAt Go.RowKit
section
variable {P:Program} {H H':Heap} {G:qk} {W:World}
theorem qhr.calls {call:Call} (k:qhr P call) {f:FuncId} {fn:Func} {c:Code} (m:P.funcs[f]? = some fn) (g:(fn.name == "runtime.NumGoroutine")=false) (n:fn.body=some c)
  {args:List V} {a:Array Value} {r:CR} (h:call (.func f) args H=some (r,H')) (o:Sim H G W) (p:qq G W args a.toList) :
  Calls P f a W λe w'=>∃ j,Step H G W H' j w'/\qln j w' r e:=by
 have b:(invoke (.fn (.func f) #[]) a).run P W=.ok (.enter f a) W:=by
  have q:(invoke (.fn (.func f) #[]) a).run P W=(callFunc f (a++#[])).run P W:=rfl;rw [q,Array.append_empty,qcc m g n]
 rcases k (.func f) args H r H' h G W (.fn (.func f) #[]) a o ⟨#[],rfl,by simpa using p⟩ with ⟨x,w',j,v,d,_⟩ | ⟨s,i,d,t⟩ | ⟨l,s,u,w,y,d,_⟩
 .rw [b] at d;cases d
 .rw [b] at d;cases d;exact callsIn_wide.1 (t Fence.wide 0 ⟨λ_=>trivial,rfl,rfl⟩)
 .rw [b] at d;cases d
def H0:Heap:={qcg:=.nil,next:=0,ro:=0,zm:=0}
def noG:qk:=λ_ _=>none
theorem Step.keptBut {w':World} {c:qk} (h:Step H0 noG W H' c w') (may:MemPlace->Prop):W.keptBut w' may:=by
 refine ⟨h.ext.out.1,h.ext.out.2,λi hi=>?_⟩;have d:=(h.ext.frg i hi (λ_ _ _ _ h=>by cases h)).1;rw [d];split
 .rename_i b a;rw [b] at a;cases a;exact ⟨rfl,rfl,rfl,λ_ _=>rfl⟩
 .rename_i b a;rw [b] at a;cases a;exact .inr ⟨rfl,rfl⟩
 .rfl
end
end Go.E2
/- E2: A LONG RUN IN PIECES, with states written out between them; the package-level variables that a row lists, as names of E2's. -/
namespace Go.E2
open Go Go.ChangeShapes
mutual
def qmn:V->V->Bool
 | .int k a,.int o b=>decide (k=o)&&decide (a=b)
 | .bool a,.bool b=>a == b
 | .str a,.str b=>a == b
 | .ptr a b c d,.ptr g i h j=>Nat.beq a g&&Nat.beq b i&&Nat.beq c h&&Nat.beq d j
 | .nilp,.nilp=>true
 | .slice a b c d e f,.slice g i h j p m=>Nat.beq a g&&Nat.beq b i&&Nat.beq c h&&Nat.beq d j&&Nat.beq e p&&(f == m)
 | .nils,.nils=>true
 | .func (.func f) a c,.func (.func m) g h=>Nat.beq f m&&qy8 a g&&qy8 c h
 | .nilf,.nilf=>true
 | .iface t v,.iface q r=>Nat.beq t q&&qmn v r
 | .nili,.nili=>true
 | .agg l,.agg n=>qy8 l n
 | .tuple l,.tuple n=>qy8 l n
 | .map a,.map b=>Nat.beq a b
 | .nilm,.nilm=>true
 | _,_=>false
def qy8:List V->List V->Bool
 | [],[]=>true
 | v::l,a::b=>qmn v a&&qy8 l b
 | _,_=>false
end
mutual
theorem qms:∀ {a b:V},qmn a b=true->a=b
 | .int k a,.int p b,h=>by simp only [qmn,zA,decide_eq_true_eq] at h;rw [h.1,h.2]
 | .bool a,.bool b,h=>by simp only [qmn,beq_iff_eq] at h;rw [h]
 | .str a,.str b,h=>by simp only [qmn,beq_iff_eq] at h;rw [h]
 | .ptr a b c d,.ptr g j i m,h=>by simp only [qmn,zA,Nat.beq_eq] at h;obtain ⟨⟨⟨rfl,rfl⟩,rfl⟩,rfl⟩:=h;rfl
 | .nilp,.nilp,_=>rfl
 | .slice a b c d e f,.slice g j i m q n,h=>by simp only [qmn,zA,Nat.beq_eq,beq_iff_eq] at h;obtain ⟨⟨⟨⟨⟨rfl,rfl⟩,rfl⟩,rfl⟩,rfl⟩,rfl⟩:=h;rfl
 | .nils,.nils,_=>rfl
 | .func (.func f) a c,.func (.func n) g i,h=>by
  simp only [qmn,zA,Nat.beq_eq] at h;rw [h.1.1,qol h.1.2,qol h.2]
 | .nilf,.nilf,_=>rfl
 | .iface t v,.iface r s,h=>by
  simp only [qmn,zA,Nat.beq_eq] at h;rw [h.1,qms h.2]
 | .nili,.nili,_=>rfl
 | .agg l,.agg o,h=>by simp only [qmn] at h;rw [qol h]
 | .tuple l,.tuple o,h=>by simp only [qmn] at h;rw [qol h]
 | .map a,.map b,h=>by simp only [qmn,Nat.beq_eq] at h;rw [h]
 | .nilm,.nilm,_=>rfl
theorem qol:∀ {a b:List V},qy8 a b=true->a=b
 | [],[],_=>rfl
 | v::l,c::d,h=>by
  simp only [qy8,zA] at h;rw [qms h.1,qol h.2]
end
def zzi:O->O->Bool
 | .row c e g f z x,.row a b d h i j=>qy8 c a&&Nat.beq e b&&Nat.beq g d&&Nat.beq f h&&Nat.beq z i&&(x == j)
 | _,_=>false
theorem zjx {a b:O} (h:zzi a b=true):a=b:=by
 unfold zzi at h;split at h
 .simp only [zA,Nat.beq_eq,beq_iff_eq] at h;obtain ⟨⟨⟨⟨⟨c,rfl⟩,rfl⟩,rfl⟩,rfl⟩,rfl⟩:=h;rw [qol c]
 .cases h
def qge {α:Type}:List (Nat×α)->Tree α
 | []=>.nil
 | (k,v)::l=>(qge l).set k v
theorem qdp {α:Type}:∀ (l:List (Nat×α)) (k:Nat) (v:α),(qge l).get k=some v->(k,v) ∈ l
 | [],k,v,h=>by simp [qge,Tree.get] at h
 | (b,c)::l,k,v,h=>by
  simp only [qge,Tree.jq] at h;by_cases a:k=b
  .rw [zT a] at h;cases h;rw [a];exact zC
  .rw [zF a] at h;exact zG _ (qdp l k v h)
structure Fact where
 f:Nat
 args:List V
 pre:List (Nat×O)
 next:Nat
 ro:Nat
 zm:Nat
 ret:V
 post:List (Nat×O)
 next':Nat
def Fact.heap (F:Fact):Heap:={qcg:=qge F.pre,next:=F.next,ro:=F.ro,zm:=F.zm}
def q1y (H:Heap) (l:List (Nat×O)):Bool:=
 l.all λx=>match H.get x.1 with
  | some o=>zzi o x.2
  | none=>false
theorem holds_of {H:Heap} {l:List (Nat×O)} (h:q1y H l=true) {k:Nat} {o:O} (a:(k,o) ∈ l):H.get k=some o:=by
 have:=List.all_eq_true.1 h (k,o) a;split at this
 .rename_i u b;rw [b,zjx this]
 .cases this
def Fact.ok (F:Fact) (E:Env) (n:Nat):Bool:=
 match qbh E n (.func F.f) F.args F.heap with
 | some (.ret v,H)=>qmn v F.ret&&Nat.beq H.next F.next'&&Nat.ble F.next F.next'&&q1y H F.post
 | _=>false
def Fact.dels (F:Fact):List Nat:=(F.pre.map (·.1)).filter (λk=>Nat.ble F.ro k)++List.range' F.next (F.next'-F.next)
def Fact.try (F:Fact) (args:List V) (H:Heap):Option (CR×Heap):=
 match H with
 | ⟨t,k,r,g⟩=>bif qy8 args F.args&&Nat.beq k F.next&&Nat.beq r F.ro&&Nat.beq g F.zm&&q1y ⟨t,k,r,g⟩ F.pre then
   some (.ret F.ret,⟨jj (qge F.post) F.dels t,F.next',r,g⟩) else none
section
variable {P:Program} {sp:Nat->Option (List V->Heap->Option (CR×Heap))} {n:Nat}
theorem Fact.step {F:Fact} {H H1:Heap} {G v:qk} {w w':World} (l:Sim H G w) (t:H.next=F.next) (D:H.ro=F.ro) (M:H.zm=F.zm) (i:q1y H F.pre=true) (st:Step F.heap G w H1 v w') (E:H1.next=F.next') (hle:F.next<=F.next')
  (n:q1y H1 F.post=true):Step H G w {H with qcg:=jj (qge F.post) F.dels H.qcg,next:=F.next'} v w':=by
 have d:∀ nm,({H with qcg:=jj (qge F.post) F.dels H.qcg,next:=F.next'}:Heap).get nm=if nm ∈ F.dels then (qge F.post).get nm else H.get nm:=λnm=>qaj _ _ _ _
 have I:∀ nm o,F.heap.get nm=some o->H.get nm=some o:=λnm o h=>holds_of i (qdp _ _ _ h);have q:∀ nm,F.ro<=nm->nm<F.next->nm ∉ F.dels->F.heap.get nm=none:=by
  intro nm j _ a;cases J:F.heap.get nm with
  | none=>rfl
  | some o=>
   exfalso;apply a;refine List.mem_append_left _ (List.mem_filter.2 ⟨?_,by simpa using j⟩);exact List.mem_map.2 ⟨(nm,o),qdp _ _ _ J,rfl⟩
 have r:∀ nm,nm<F.ro->nm ∉ F.dels:=by
  intro nm j a;rcases List.mem_append.1 a with a | a
  .have:=(List.mem_filter.1 a).2;rw [Nat.ble_eq] at this;omega
  .have:=(List.mem_range'_1.1 a).1;have:=l.ro;omega
 have e:Ext H.ro G w v w':=by
  have h:=st.ext;rw [show F.heap.ro=H.ro from D.symm] at h;exact h
 refine ⟨e,⟨λnm g b y m p=>?_,st.sim.inj,λnm o u k=>?_,?_,?_,λg o p k=>?_⟩,by simp only;rw [t];exact hle,rfl,rfl,λnm j=>?_,λnm g x s j=>st.newG nm g x s (show nm<F.ro by rw [<-D];exact j),λnm u c=>?_⟩
 .have:=st.sim.lt nm g b y m p;rw [E] at this;exact this
 .rw [d] at k;split at k
  .have:=holds_of n (qdp _ _ _ k);exact st.sim.obj nm o (by rw [E];exact u) this
  .rename_i a;by_cases f:nm<F.next
   .by_cases j:nm<F.ro
    .have z:=l.obj nm o (by rw [t];exact f) k;refine z.ext e (λg x s=>st.newG nm g x s j) (λg b y m p=>st.ext.ro nm g b y m j p)
    .obtain ⟨_,A,B⟩:=st.frame nm f (q nm (by omega) f a);exact (l.obj nm o (by rw [t];exact f) k).ext e B A
   .exfalso;apply a;refine List.mem_append_right _ (List.mem_range'_1.2 ⟨by omega,?_⟩);simp only at u;omega
 .simp only;have:=l.ro;omega
 .exact l.zm
 .simp only at p;rw [d,zF (r g (by have:=l.zm;omega))] at k;obtain ⟨m,K⟩:=l.globs g o p k;exact ⟨m,st.ext.sub _ _ _ K⟩
 .simp_all
 .have C:nm<F.next:=by rw [<-t];exact u
  have L:F.heap.get nm=none:=by
   cases J:F.heap.get nm with
   | none=>rfl
   | some o=>simp_all
  obtain ⟨_,A,B⟩:=st.frame nm C L;refine ⟨?_,A,B⟩;rw [d];split
  .rename_i a;rcases List.mem_append.1 a with a | a
   .obtain ⟨x,s,rfl⟩:=List.mem_map.1 (List.mem_filter.1 a).1;rw [holds_of i (show (x.1,x.2) ∈ F.pre from s)] at c;cases c
   .grind
  .exact c
theorem Ext.keptBut {r:Nat} {G c:qk} {W w':World} (h:Ext r G W c w') (d:∀ nm g x,G nm g=some x->nm<r) (may:MemPlace->Prop):W.keptBut w' may:=by
 refine ⟨h.out.1,h.out.2,λi hi=>?_⟩;have e:w'.heap[i]? = W.heap[i]?:=by
  by_cases a:qko G i
  .exact (h.frg i hi a).1
  .simp only [qko,Classical.not_forall,Classical.not_not] at a;obtain ⟨nm,g,f,m,b⟩:=a;exact h.ro nm g i f m (d _ _ _ b) b
 rw [e];split
 .simp_all
 .simp_all
 .rfl
end
def quj (P:Program):List Field->Nat->Nat->Bool
 | [],o,a=>Nat.beq o a
 | f::b,o,a=>Nat.beq f.offset o&&quj P b (o+P.cellsOf f.type) a
def qmv (P:Program):Nat->TypeId->DataW Unit->Option (List Value)
 | 0,_,_=>none
 | n+1,t,d=>match P.underlying t,d with
  | some .bool,.lit (.bool b)=>some [.bool b]
  | some (.int _),.lit (.int k i)=>some [.int k i]
  | some .string,.lit (.string s)=>some [.string ⟨s.toArray⟩]
  | some (.struct c),.agg a=>bif quj P c.toList 0 (P.cellsOf t)&&Nat.beq c.toList.length a.length then ((c.toList.zip a).mapM λx=>qmv P n x.1.type x.2).map List.flatten else none
  | some (.array m e),.agg a=>bif Nat.beq (P.cellsOf t) (m * P.cellsOf e)&&Nat.beq a.length m then (a.mapM (qmv P n e)).map List.flatten else none
  | _,_=>none
section
variable {P:Program} {w:World} {base:Nat} {spare:Nat->Bool} {held:Bool}
theorem qyd {fuel n:Nat} {cs:List Value} (r:∀ t cs d p k,DataW.trod (λ_=>()) P w base spare held fuel t cs=some (d,p)->qmv P n t d=some k->cs=k) {e:Nat} (u:cs.length=e) :
  ∀ (c:List Field) (o:Nat) (ds:List (DataW Unit)) (j:List (DataW Unit×List MemPlace)) (a:List (List Value)),quj P c o e=true->c.length=ds.length->
  (c.mapM λf=>DataW.trod (λ_=>()) P w base spare held fuel f.type ((cs.drop f.offset).take (P.cellsOf f.type)))=some j->j.map (·.1)=ds->((c.zip ds).mapM λx=>qmv P n x.1.type x.2)=some a->cs.drop o=a.flatten
 | [],o,ds,j,a,g,b,l,m,h=>by
  simp only [quj,Nat.beq_eq] at g;simp only [List.zip_nil_left,List.mapM_nil,Option.pure_def,zS] at h;subst h;rw [List.drop_of_length_le (by omega)];rfl
 | f::c,o,ds,j,a,g,b,l,m,h=>by
  simp only [quj,zA,Nat.beq_eq] at g;simp only [List.mapM_cons,Option.bind_eq_bind,zI,Option.pure_def,zS] at l;obtain ⟨⟨d,p⟩,v,q,y,rfl⟩:=l;simp only [List.map_cons] at m;subst m;simp only [List.zip_cons_cons,List.mapM_cons,Option.bind_eq_bind,zI,Option.pure_def,zS] at h;obtain ⟨k,z,i,A,rfl⟩:=h;have s:=r _ _ _ _ _ v z;have B:=qyd r u c (o+P.cellsOf f.type) _ q i g.2 (by simpa using b) y rfl A;rw [g.1] at s;rw [List.flatten_cons,<-s,<-B,<-List.drop_drop,List.take_append_drop]
theorem q1b {fuel n:Nat} {cs:List Value} {e:TypeId} (r:∀ t cs d p j,DataW.trod (λ_=>()) P w base spare held fuel t cs=some (d,p)->qmv P n t d=some j->cs=j) :
  ∀ (l:List Nat) (o:Nat) (ds:List (DataW Unit)) (h:List (DataW Unit×List MemPlace)) (b:List (List Value)),l=List.range' o ds.length->cs.length=(o+ds.length) * P.cellsOf e->
  (l.mapM λi=>DataW.trod (λ_=>()) P w base spare held fuel e ((cs.drop (i * P.cellsOf e)).take (P.cellsOf e)))=some h->h.map (·.1)=ds->(ds.mapM (qmv P n e))=some b->cs.drop (o * P.cellsOf e)=b.flatten
 | [],o,ds,h,b,c,a,k,m,f=>by
  have:ds=[]:=by
   cases ds with
   | nil=>rfl
   | cons d ds=>simp_all
  subst this;simp only [List.mapM_nil,Option.pure_def,zS] at f;subst f;rw [List.drop_of_length_le (by rw [a];simp)];rfl
 | i::l,o,ds,h,b,c,a,k,m,f=>by
  simp only [List.mapM_cons,Option.bind_eq_bind,zI,Option.pure_def,zS] at k;obtain ⟨⟨d,p⟩,s,q,u,rfl⟩:=k;simp only [List.map_cons] at m;subst m;simp only [List.length_cons,List.length_map,List.range'_succ,List.cons.injEq] at c;obtain ⟨rfl,c⟩:=c;simp only [List.mapM_cons,Option.bind_eq_bind,zI,Option.pure_def,zS] at f;obtain ⟨j,v,g,x,rfl⟩:=f;have y:=r _ _ _ _ _ s v;have z:=q1b r l (i+1) _ q g (by simpa using c) (by rw [a];congr 1;simp;omega) u rfl x;rw [List.flatten_cons,<-y,<-z,Nat.add_mul,Nat.one_mul,<-List.drop_drop,List.take_append_drop]
theorem qwk:∀ (n fuel:Nat) (t:TypeId) (cs:List Value) (d:DataW Unit) (p:List MemPlace) (g:List Value),DataW.trod (λ_=>()) P w base spare held fuel t cs=some (d,p)->qmv P n t d=some g->cs=g
 | 0,_,_,_,_,_,_,_,h=>by simp [qmv] at h
 | _+1,0,_,_,_,_,_,h,_=>by simp [DataW.trod] at h
 | n+1,fuel+1,t,cs,d,p,g,h,c=>by
  simp only [qmv] at c;split at c
  .rename_i b a;cases c
   match cs,h with
   | [],h=>simp [DataW.trod,a] at h
   | [v],h=>
    cases v<;>simp [DataW.trod,a] at h;rw [h.1]
   | v::u::l,h=>simp [DataW.trod,a] at h
  .rename_i D k i a;cases c
   match cs,h with
   | [],h=>simp [DataW.trod,a] at h
   | [v],h=>
    cases v<;>simp [DataW.trod,a] at h;obtain ⟨⟨r,_⟩,⟨j,B⟩,_⟩:=h;rw [r,j,B]
   | v::u::l,h=>simp [DataW.trod,a] at h
  .rename_i E a;cases c
   match cs,h with
   | [],h=>simp [DataW.trod,a] at h
   | [v],h=>
    cases v<;>simp [DataW.trod,a] at h;obtain ⟨_,j,_⟩:=h;rw [<-j]
   | v::u::l,h=>simp [DataW.trod,a] at h
  .rename_i C x a;simp only [DataW.trod,a] at h;split at h
   .rename_i y;obtain ⟨z,A,s⟩:=zM.1 h;simp only [zP,DataW.agg.injEq] at s;rw [cond_eq_ite] at c;split at c
    .rename_i f;simp only [zA,Nat.beq_eq] at f;obtain ⟨o,q,rfl⟩:=zM.1 c;have:=qyd (λt cs d p g r j=>qwk n fuel t cs d p g r j) y C.toList 0 x z o f.1 f.2 A s.1 q;simpa using this
    .cases c
   .cases h
  .rename_i m e x a;simp only [DataW.trod,a] at h;split at h
   .rename_i y;obtain ⟨z,A,s⟩:=zM.1 h;simp only [zP,DataW.agg.injEq] at s;rw [cond_eq_ite] at c;split at c
    .rename_i f;simp only [zA,Nat.beq_eq] at f;obtain ⟨o,q,rfl⟩:=zM.1 c;have:=q1b (λt cs d p g r j=>qwk n fuel t cs d p g r j) (List.range m) 0 x z o (by rw [List.range_eq_range',f.2]) (by rw [y,f.1,f.2,Nat.zero_add]) A s.1 q;simpa using this
    .cases c
   .cases h
  .cases c
theorem zuo {g n:Nat} (h:0<n):MemPlace.cell g 0 ∈ MemPlace.row ⟨g,0,none⟩ n:=by
 simp only [MemPlace.row,List.mem_map,List.mem_range];exact ⟨0,h,rfl⟩
theorem qti:∀ {laid:List (String×DataW Unit)} {ps:List MemPlace} (_:DataW.LaidVars P w laid ps) (_:∀ b off,MemPlace.cell b off ∈ ps->∃ c t,w.heap[b]? = some (.cells c t (0,0))) {name:String} {d:DataW Unit} (_:(name,d) ∈ laid)
  {g:Nat} {t:TypeId} (_:P.globalNamed name=some g) (_:(P.globals[g]?).map (·.type)=some t) {n:Nat} {a:List Value} (_:qmv P n t d=some a) (_:a≠[]),∃ r,w.heap[g]? = some (.cells a.toArray r (0,0))
 | [],_,_,_,_,_,e,_,_,_,_,_,_,_,_=>by cases e
 | (G,H)::s,ps,B,u,name,d,e,g,t,i,v,n,a,x,j=>by
  obtain ⟨I,r,cs,fuel,p,q,y,z,f,C,D,rfl⟩:=B;rcases zD.1 e with k | e
  .cases k;rw [i] at y;cases y;rw [v] at z;cases z;have l:=qwk n fuel t cs.toList _ p a C x;simp only [World.var?,i,zB] at f;split at f
   .rename_i c E fz m;cases f;have h:0<cs.size:=by
     rcases Nat.eq_zero_or_pos cs.size with h | h
     .simp_all
     .exact h
    obtain ⟨J,K,A⟩:=u g 0 (by
     refine List.mem_append_left _ (List.mem_append_left _ ?_);exact zuo h)
    rw [m] at A;cases A;have o:cs=a.toArray:=by apply Array.ext';simpa using l
    rw [o] at m;exact ⟨_,m⟩
   .cases f
  .exact qti D (λb off F=>u b off (List.mem_append_right _ F)) e i v x j
end
end Go.E2
/- E2: FACTS WHOSE NAMES MAY BE OTHERS: what one call comes to, written out with names of its own, and asked for under whatever names. -/
namespace Go.E2
open Go
def assoc:List (Nat×Nat)->Nat->Option Nat
 | [],_=>none
 | (a,b)::l,nm=>bif Nat.beq a nm then some b else assoc l nm
theorem qhc:∀ {l:List (Nat×Nat)} {a b:Nat},assoc l a=some b->(a,b) ∈ l
 | [],a,b,h=>by simp [assoc] at h
 | (c,d)::l,a,b,h=>by
  simp only [assoc,cond_eq_ite,Nat.beq_eq] at h;split at h
  .rename_i e;cases h;rw [e];exact zC
  .exact zG _ (qhc h)
def inv:List (Nat×Nat)->Nat->Option Nat
 | [],_=>none
 | (a,b)::l,k=>bif Nat.beq b k then some a else inv l k
theorem qm2:∀ {l:List (Nat×Nat)} {a b:Nat},inv l b=some a->(a,b) ∈ l
 | [],a,b,h=>by simp [inv] at h
 | (c,d)::l,a,b,h=>by
  simp only [inv,cond_eq_ite,Nat.beq_eq] at h;split at h
  .rename_i e;cases h;rw [e];exact zC
  .exact zG _ (qm2 h)
theorem qu1:∀ {l:List (Nat×Nat)} {b:Nat},inv l b=none->∀ a,(a,b) ∉ l
 | [],b,h,a,e=>by cases e
 | (c,d)::l,b,h,a,e=>by
  simp only [inv,cond_eq_ite,Nat.beq_eq] at h;split at h
  .cases h
  .rename_i f;rcases zD.1 e with g | e
   .cases g;exact f rfl
   .exact qu1 h a e
def qqx:List (Nat×Nat)->Bool
 | []=>true
 | (a,b)::l=>(l.all λx=>!Nat.beq a x.1&&!Nat.beq b x.2)&&qqx l
theorem ql9:∀ {l:List (Nat×Nat)},qqx l=true->∀ {a b e f:Nat},(a,b) ∈ l->(e,f) ∈ l->(a=e↔b=f)
 | [],_,a,b,e,f,h,_=>by cases h
 | (c,d)::l,i,a,b,e,f,h,k=>by
  simp only [qqx,zA,List.all_eq_true] at i;obtain ⟨m,n⟩:=i;have o:∀ x ∈ l,c≠x.1/\d≠x.2:=by
   intro x p;have:=m x p;simp only [Bool.not_eq_true'] at this;refine ⟨λj=>?_,λj=>?_⟩
   .simp_all
   .simp_all
  rcases zD.1 h with j | q
  .grind
  .rcases zD.1 k with r | g
   .grind
   .exact ql9 n q g
theorem qkl {l:List (Nat×Nat)} (e:qqx l=true) {a b:Nat} (h:(a,b) ∈ l):assoc l a=some b:=by
 cases d:assoc l a with
 | none=>
  exfalso;have:∀ {l:List (Nat×Nat)},assoc l a=none->(a,b) ∉ l:=by
   intro l
   induction l with
   | nil=>simp_all
   | cons x l f=>
    intro c g;simp only [assoc,cond_eq_ite,Nat.beq_eq] at c;split at c
    .cases c
    .grind
  exact this d h
 | some i=>
  have:=qhc d;rw [(ql9 e this h).1 rfl]
theorem zhe {l:List (Nat×Nat)} (d:qqx l=true) {a b:Nat} (h:(a,b) ∈ l):inv l b=some a:=by
 cases c:inv l b with
 | none=>exact absurd h (qu1 c a)
 | some e=>
  have:=qm2 c;rw [(ql9 d this h).2 rfl]
mutual
def qg7 (m:Nat->Option Nat):V->Option V
 | .ptr nm g off lim=>(m nm).map λk=>.ptr k g off lim
 | .slice nm g off len sz cap=>(m nm).map λk=>.slice k g off len sz cap
 | .func (.func f) a c=>(qf4 m a).bind λd=>(qf4 m c).map λe=>.func (.func f) d e
 | .func ..=>none
 | .iface t v=>(qg7 m v).map λh=>.iface t h
 | .agg l=>(qf4 m l).map .agg
 | .tuple l=>(qf4 m l).map .tuple
 | .map nm=>(m nm).map .map
 | .int k n=>some (.int k n)
 | .bool b=>some (.bool b)
 | .str s=>some (.str s)
 | .nilp=>some .nilp
 | .nils=>some .nils
 | .nilf=>some .nilf
 | .nili=>some .nili
 | .nilm=>some .nilm
def qf4 (m:Nat->Option Nat):List V->Option (List V)
 | []=>some []
 | v::l=>(qg7 m v).bind λa=>(qf4 m l).map λb=>a::b
end
def zv5 (m:Nat->Option Nat):List (V×V×Nat)->Option (List (V×V×Nat))
 | []=>some []
 | (k,v,b)::l=>(qg7 m k).bind λa=>(qg7 m v).bind λc=>(zv5 m l).map λd=>(a,c,b)::d
def q47 (m:Nat->Option Nat):O->Option O
 | .row cells e g f z x=>(qf4 m cells).map λc=>.row c e g f z x
 | .map d a=>(zv5 m d).map λb=>.map b a
 | _=>none
section
variable {m:Nat->Option Nat} {G1 G2:qk} {w:World}
mutual
theorem Rel.ren (hm:∀ nm k,m nm=some k->∀ g,G2 k g=G1 nm g):∀ {v b:V},qg7 m v=some b->∀ {x:Value},Rel G1 w v x↔Rel G2 w b x
 | .int _ _,b,h,x | .bool _,b,h,x | .str _,b,h,x | .nilp,b,h,x | .nils,b,h,x | .nilf,b,h,x | .nili,b,h,x | .nilm,b,h,x=>by
  simp only [qg7,zS] at h;subst h;simp only [Rel]
 | .ptr nm g off lim,b,h,x=>by
  simp only [qg7,zM] at h;obtain ⟨k,n,rfl⟩:=h;simp only [Rel,hm nm k n]
 | .slice nm g off len sz cap,b,h,x=>by
  simp only [qg7,zM] at h;obtain ⟨k,n,rfl⟩:=h;simp only [Rel,hm nm k n]
 | .map nm,b,h,x=>by
  simp only [qg7,zM] at h;obtain ⟨k,n,rfl⟩:=h;simp only [Rel,hm nm k n]
 | .func A a c,b,h,x=>by
  cases A with
  | func f=>
   simp only [qg7,zI,zM] at h;obtain ⟨B,s,C,z,rfl⟩:=h;simp only [Rel,qr4];constructor
   .rintro ⟨j,o,p,d,e,q,r⟩;exact ⟨j,o,p,d,e,(qq.ren hm s).1 q,(qq.ren hm z).1 r⟩
   .rintro ⟨j,o,p,d,e,q,r⟩;exact ⟨j,o,p,d,e,(qq.ren hm s).2 q,(qq.ren hm z).2 r⟩
  | _=>simp [qg7] at h
 | .iface t v,b,h,x=>by
  simp only [qg7,zM] at h;obtain ⟨u,i,rfl⟩:=h;simp only [Rel];constructor
  .rintro ⟨y,d,e⟩;exact ⟨y,d,(Rel.ren hm i).1 e⟩
  .rintro ⟨y,d,e⟩;exact ⟨y,d,(Rel.ren hm i).2 e⟩
 | .agg l,b,h,x=>by
  simp only [qg7,zM] at h;obtain ⟨u,i,rfl⟩:=h;simp only [Rel];constructor
  .rintro ⟨y,d,e⟩;exact ⟨y,d,(qq.ren hm i).1 e⟩
  .rintro ⟨y,d,e⟩;exact ⟨y,d,(qq.ren hm i).2 e⟩
 | .tuple l,b,h,x=>by
  simp only [qg7,zM] at h;obtain ⟨u,i,rfl⟩:=h;simp only [Rel];constructor
  .rintro ⟨y,d,e⟩;exact ⟨y,d,(qq.ren hm i).1 e⟩
  .rintro ⟨y,d,e⟩;exact ⟨y,d,(qq.ren hm i).2 e⟩
theorem qq.ren (hm:∀ nm k,m nm=some k->∀ g,G2 k g=G1 nm g):∀ {l a:List V},qf4 m l=some a->∀ {b:List Value},qq G1 w l b↔qq G2 w a b
 | [],a,h,b=>by
  simp only [qf4,zS] at h;subst h;simp only [qq]
 | v::l,a,h,b=>by
  simp only [qf4,zI,zM] at h;obtain ⟨n,i,o,j,rfl⟩:=h;simp only [qq];constructor
  .rintro ⟨x,c,d,e,f⟩;exact ⟨x,c,d,(Rel.ren hm i).1 e,(qq.ren hm j).1 f⟩
  .rintro ⟨x,c,d,e,f⟩;exact ⟨x,c,d,(Rel.ren hm i).2 e,(qq.ren hm j).2 f⟩
end
theorem zxk {v b:V} (h:qg7 m v=some b):ZS v↔ZS b:=by
 cases v with
 | slice nm g off len sz cap=>
  simp only [qg7,zM] at h;obtain ⟨k,_,rfl⟩:=h;exact ⟨λ⟨_,_,_,_,_,h⟩=>(by cases h;exact ⟨_,_,_,_,_,rfl⟩),λ⟨_,_,_,_,_,h⟩=>(by cases h;exact ⟨_,_,_,_,_,rfl⟩)⟩
 | func d a c=>
  cases d with
  | func f=>
   simp only [qg7,zI,zM] at h;obtain ⟨_,_,_,_,rfl⟩:=h;exact ⟨λ⟨_,_,_,_,_,h⟩=>(by cases h),λ⟨_,_,_,_,_,h⟩=>(by cases h)⟩
  | _=>simp [qg7] at h
 | _=>
  simp only [qg7,zM,zS] at h
  first
  | (subst h;exact ⟨λ⟨_,_,_,_,_,h⟩=>(by cases h),λ⟨_,_,_,_,_,h⟩=>(by cases h)⟩)
  | (obtain ⟨_,_,rfl⟩:=h;exact ⟨λ⟨_,_,_,_,_,h⟩=>(by cases h),λ⟨_,_,_,_,_,h⟩=>(by cases h)⟩)
theorem ztq {v g:V} (h:qg7 m v=some g):isHole v=isHole g:=by
 rw [Bool.eq_iff_iff,qtg,qtg];constructor
 .rintro ⟨u,rfl,e⟩;simp only [qg7,qf4,zM,zI] at h;obtain ⟨_,⟨i,b,_,j,rfl⟩,rfl⟩:=h;cases j;exact ⟨i,rfl,(zxk b).1 e⟩
 .rintro ⟨u,rfl,e⟩;cases v with
  | tuple l=>
   simp only [qg7,zM,V.tuple.injEq] at h;obtain ⟨us,b,rfl⟩:=h;cases l with
   | nil=>simp [qf4] at b
   | cons x l=>
    simp only [qf4,zI,zM,List.cons.injEq] at b;obtain ⟨y,k,o,d,rfl,rfl⟩:=b;cases l with
    | nil=>exact ⟨x,rfl,(zxk k).2 e⟩
    | cons _ _=>
     simp only [qf4,zI,zM] at d;obtain ⟨_,_,_,_,d⟩:=d;cases d
  | func n a c=>
   cases n with
   | func f=>
    simp only [qg7,zI,zM] at h;obtain ⟨_,_,_,_,h⟩:=h;cases h
   | _=>simp [qg7] at h
  | _=>simp [qg7] at h
theorem jo.ren (hm:∀ nm k,m nm=some k->∀ g,G2 k g=G1 nm g):∀ {l a:List V},qf4 m l=some a->∀ {b:List Value},jo G1 w l b↔jo G2 w a b
 | [],a,h,b=>by
  simp only [qf4,zS] at h;subst h;simp only [jo]
 | v::l,a,h,b=>by
  simp only [qf4,zI,zM] at h;obtain ⟨n,c,o,j,rfl⟩:=h;simp only [jo,ztq c];constructor
  .rintro ⟨x,d,e,f,i⟩;exact ⟨x,d,e,f.imp id (Rel.ren hm c).1,(jo.ren hm j).1 i⟩
  .rintro ⟨x,d,e,f,i⟩;exact ⟨x,d,e,f.imp id (Rel.ren hm c).2,(jo.ren hm j).2 i⟩
theorem qb8.ren (hm:∀ nm k,m nm=some k->∀ g,G2 k g=G1 nm g):∀ {l a:List (V×V×Nat)},zv5 m l=some a->∀ {c:List MapEntry},qb8 G1 w l c↔qb8 G2 w a c
 | [],a,h,c=>by
  simp only [zv5,zS] at h;subst h;simp only [qb8]
 | (k,v,b)::l,a,h,c=>by
  simp only [zv5,zI,zM] at h;obtain ⟨r,o,s,p,t,q,rfl⟩:=h;simp only [qb8];constructor
  .rintro ⟨x,d,e,f,i,j,n⟩;exact ⟨x,d,e,(Rel.ren hm o).1 f,(Rel.ren hm p).1 i,j,(qb8.ren hm q).1 n⟩
  .rintro ⟨x,d,e,f,i,j,n⟩;exact ⟨x,d,e,(Rel.ren hm o).2 f,(Rel.ren hm p).2 i,j,(qb8.ren hm q).2 n⟩
theorem qyq:∀ {l a:List V},qf4 m l=some a->a.length=l.length
 | [],a,h=>by simp only [qf4,zS] at h;subst h;rfl
 | v::l,a,h=>by
  simp only [qf4,zI,zM] at h;obtain ⟨c,d,e,b,rfl⟩:=h;simp [qyq b]
theorem q7n:∀ {l a:List V} (n:Nat),qf4 m l=some a->qf4 m (l.take n)=some (a.take n)
 | [],a,n,h=>by simp only [qf4,zS] at h;subst h;simp [qf4]
 | v::l,a,0,h=>by simp [qf4]
 | v::l,a,n+1,h=>by
  simp only [qf4,zI,zM] at h;obtain ⟨d,b,e,c,rfl⟩:=h;simp [qf4,b,q7n n c]
theorem q7m:∀ {l a:List V} (n:Nat),qf4 m l=some a->qf4 m (l.drop n)=some (a.drop n)
 | [],a,n,h=>by simp only [qf4,zS] at h;subst h;simp [qf4]
 | v::l,a,0,h=>by simpa using h
 | v::l,a,n+1,h=>by
  simp only [qf4,zI,zM] at h;obtain ⟨c,d,e,b,rfl⟩:=h;simpa using q7m n b
theorem qfb.ren (hm:∀ nm k,m nm=some k->∀ g,G2 k g=G1 nm g) {nm k:Nat} (p:m nm=some k) {o q:O} (h:q47 m o=some q):qfb G1 w nm o↔qfb G2 w k q:=by
 cases o with
 | row cells e gen f z ex=>
  simp only [q47,zM] at h;obtain ⟨c,d,rfl⟩:=h;have a:∀ n i,∀ {b},jo G1 w ((cells.take n).drop i) b↔jo G2 w ((c.take n).drop i) b:=λn i=>jo.ren hm (q7m i (q7n n d));simp only [qfb,hm nm k p,qyq d,a]
 | map r j=>
  simp only [q47,zM] at h;obtain ⟨c,d,rfl⟩:=h;have l:∀ {b},qb8 G1 w r b↔qb8 G2 w c b:=qb8.ren hm d;simp only [qfb,hm nm k p,l]
 | _=>simp [q47] at h
end
def zjb (ρ:List (Nat×Nat)) (a b:Nat):Option (List (Nat×Nat)):=match assoc ρ a with
 | some c=>bif Nat.beq c b then some ρ else none
 | none=>some ((a,b)::ρ)
mutual
def q9l:V->V->List (Nat×Nat)->Option (List (Nat×Nat))
 | .ptr a _ _ _,.ptr b _ _ _,ρ | .map a,.map b,ρ=>zjb ρ a b
 | .slice a _ _ n _ _,.slice b _ _ e _ _,ρ=>bif Nat.beq n e then zjb ρ a b else none
 | .int _ a,.int _ b,ρ=>bif a == b then some ρ else none
 | .bool a,.bool b,ρ=>bif a == b then some ρ else none
 | .str a,.str b,ρ=>bif a == b then some ρ else none
 | .func _ a c,.func _ f g,ρ=>match qw3 a f ρ with
  | some h=>qw3 c g h
  | none=>none
 | .iface _ v,.iface _ i,ρ=>q9l v i ρ
 | .agg l,.agg d,ρ | .tuple l,.tuple d,ρ=>qw3 l d ρ
 | _,_,ρ=>some ρ
def qw3:List V->List V->List (Nat×Nat)->Option (List (Nat×Nat))
 | v::l,a::b,ρ=>match q9l v a ρ with
  | some c=>qw3 l b c
  | none=>none
 | [],[],ρ=>some ρ
 | _,_,_=>none
end
def zun:List (V×V×Nat)->List (V×V×Nat)->List (Nat×Nat)->Option (List (Nat×Nat))
 | (k,v,_)::l,(b,c,_)::d,ρ=>match q9l k b ρ with
  | some e=>match q9l v c e with
   | some a=>zun l d a
   | none=>none
  | none=>none
 | [],[],ρ=>some ρ
 | _,_,_=>none
def z4n:O->O->List (Nat×Nat)->Option (List (Nat×Nat))
 | .row c _ g _ _ _,.row b _ d _ _ _,ρ=>bif Nat.beq g d then qw3 c b ρ else none
 | .map e _,.map a _,ρ=>zun e a ρ
 | _,_,_=>none
def zc7 (H:Heap):List (Nat×O)->List (Nat×Nat)->Option (List (Nat×Nat))
 | [],ρ=>some ρ
 | (nm,o)::l,ρ=>match assoc ρ nm with
  | some k=>match H.get k with
   | some a=>match z4n o a ρ with
    | some b=>zc7 H l b
    | none=>none
   | none=>none
  | none=>none
def zzh:List (V×V×Nat)->List (V×V×Nat)->Bool
 | [],[]=>true
 | (k,v,b)::l,(a,c,d)::e=>qmn k a&&qmn v c&&Nat.beq b d&&zzh l e
 | _,_=>false
theorem zjw:∀ {a b:List (V×V×Nat)},zzh a b=true->a=b
 | [],[],_=>rfl
 | (k,v,b)::l,(f,g,i)::j,h=>by
  simp only [zzh,zA,Nat.beq_eq] at h;obtain ⟨⟨⟨c,d⟩,rfl⟩,e⟩:=h;rw [qms c,qms d,zjw e]
def q56:O->O->Bool
 | .map b c,.map a d=>zzh b a&&Nat.beq c d
 | o,e=>zzi o e
theorem zci {a b:O} (h:q56 a b=true):a=b:=by
 unfold q56 at h;split at h
 .simp only [zA,Nat.beq_eq] at h;rw [zjw h.1,h.2]
 .exact zjx h
def qwo (m:Nat->Option Nat) (H:Heap) (l:List (Nat×O)):Bool:=
 l.all λx=>match m x.1,q47 m x.2 with
  | some k,some o=>match H.get k with
   | some a=>q56 o a
   | none=>false
  | _,_=>false
def q89 (H:Heap) (l:List (Nat×O)):Bool:=
 l.all λx=>match H.get x.1 with
  | some o=>q56 o x.2
  | none=>false
theorem znm {H:Heap} {l:List (Nat×O)} (h:q89 H l=true) {k:Nat} {o:O} (a:(k,o) ∈ l):H.get k=some o:=by
 have:=List.all_eq_true.1 h (k,o) a;split at this
 .rename_i u b;rw [b,zci this]
 .cases this
theorem qwp {m:Nat->Option Nat} {H:Heap} {l:List (Nat×O)} (h:qwo m H l=true) {nm:Nat} {o:O} (b:(nm,o) ∈ l):∃ k a,m nm=some k/\q47 m o=some a/\H.get k=some a:=by
 have:=List.all_eq_true.1 h (nm,o) b;split at this
 .rename_i k a c d;split at this
  .rename_i u e;exact ⟨k,a,c,d,by rw [e,zci this]⟩
  .cases this
 .cases this
def Fact.names (F:Fact) (ρ:List (Nat×Nat)) (next:Nat) (nm:Nat):Option Nat:=
 bif Nat.ble F.next nm then (bif Nat.blt nm F.next' then some (nm-F.next+next) else none) else assoc ρ nm
def qrn (m:Nat->Option Nat):List (Nat×O)->Option (List (Nat×O))
 | []=>some []
 | (nm,o)::l=>(m nm).bind λk=>(q47 m o).bind λa=>(qrn m l).map λb=>(k,a)::b
theorem qyr {m:Nat->Option Nat}:∀ {l b:List (Nat×O)},qrn m l=some b->∀ {k:Nat} {c:O},(k,c) ∈ b->∃ nm o,(nm,o) ∈ l/\m nm=some k/\q47 m o=some c
 | [],b,h,k,c,a=>by simp only [qrn,zS] at h;subst h;cases a
 | (nm,o)::l,b,h,k,c,a=>by
  simp only [qrn,zI,zM] at h;obtain ⟨p,e,o1,f,q,g,rfl⟩:=h;rcases zD.1 a with i | a
  .cases i;exact ⟨nm,o,zC,e,f⟩
  .obtain ⟨d,o2,j,n⟩:=qyr g a;exact ⟨d,o2,zG _ j,n⟩
def Fact.z6v (F:Fact) (args:List V) (H:Heap):Option (List (Nat×Nat)):=
 match qw3 F.args args ((F.pre.filter λx=>Nat.blt x.1 F.zm).map λx=>(x.1,x.1)) with
 | some ρ=>zc7 H F.pre ρ
 | none=>none
def Fact.fits (F:Fact) (ρ:List (Nat×Nat)) (args:List V) (H:Heap):Bool:=
 (match qf4 (assoc ρ) F.args with
   | some a=>qy8 a args
   | none=>false)&&Nat.beq H.zm F.zm&&qwo (assoc ρ) H F.pre&&qqx ρ&&
 ρ.all λx=>Nat.blt x.1 F.next&&Nat.blt x.2 H.next&&(!Nat.blt x.1 F.zm || Nat.beq x.2 x.1)&&(!Nat.ble F.ro x.1 || Nat.ble H.ro x.2)
def Fact.qum (F:Fact) (ρ:List (Nat×Nat)) (next:Nat):List Nat:=
 ((F.pre.filter λx=>Nat.ble F.ro x.1).filterMap λx=>assoc ρ x.1)++List.range' next (F.next'-F.next)
def Fact.qpq (F:Fact) (args:List V) (H:Heap):Option (CR×Heap):=
 match H with
 | ⟨t,n,r,g⟩=>
  match F.z6v args ⟨t,n,r,g⟩ with
  | some ρ=>bif F.fits ρ args ⟨t,n,r,g⟩ then
    (qg7 (F.names ρ n) F.ret).bind λv=>(qrn (F.names ρ n) F.post).map λl=>(.ret v,⟨jj (qge l) (F.qum ρ n) t,n+(F.next'-F.next),r,g⟩)
   else none
  | none=>none
def Fact.ok2 (F:Fact) (E:Env) (n:Nat):Bool:=
 match qbh E n (.func F.f) F.args F.heap with
 | some (.ret v,H)=>qmn v F.ret&&Nat.beq H.next F.next'&&Nat.ble F.next F.next'&&Nat.ble F.ro F.next&&Nat.ble F.zm F.ro&&q89 H F.post
 | _=>false
theorem qqe {α:Type}:∀ {l:List (Nat×α)} {k:Nat} {v:α},(k,v) ∈ l->∃ b,(qge l).get k=some b
 | [],k,v,h=>by cases h
 | (c,b)::l,k,v,h=>by
  simp only [qge,Tree.jq];by_cases a:k=c
  .rw [zT a];exact ⟨_,rfl⟩
  .rw [zF a];rcases zD.1 h with d | e
   .cases d;exact absurd rfl a
   .exact qqe e
section
variable {P:Program} {sp:Nat->Option (List V->Heap->Option (CR×Heap))} {n:Nat}
def qde (G:qk) (ρ:List (Nat×Nat)):qk:=λnm g=>match assoc ρ nm with
 | some k=>G k g
 | none=>none
def qip (G a:qk) (ρ:List (Nat×Nat)) (F:Fact) (next:Nat):qk:=λk g=>
 if k<next then (match inv ρ k with
  | some nm=>a nm g
  | none=>G k g) else if k-next+F.next<F.next' then a (k-next+F.next) g else none
structure Fits (F:Fact) (ρ:List (Nat×Nat)) (args:List V) (H:Heap):Prop where
 args:qf4 (assoc ρ) F.args=some args
 zm:H.zm=F.zm
 pre:qwo (assoc ρ) H F.pre=true
 one:qqx ρ=true
 lt:∀ a b,(a,b) ∈ ρ->a<F.next/\b<H.next
 same:∀ a b,(a,b) ∈ ρ->a<F.zm->b=a
 ro:∀ a b,(a,b) ∈ ρ->F.ro<=a->H.ro<=b
theorem zj2 {F:Fact} {ρ:List (Nat×Nat)} {args:List V} {H:Heap} (h:F.fits ρ args H=true):Fits F ρ args H:=by
 simp only [Fact.fits,zA,Nat.beq_eq,List.all_eq_true] at h;obtain ⟨⟨⟨⟨f,j⟩,k⟩,l⟩,m⟩:=h;have g:∀ a b,(a,b) ∈ ρ->(a<F.next/\b<H.next)/\(a<F.zm->b=a)/\(F.ro<=a->H.ro<=b):=by
  intro a b c;have:=m (a,b) c;simp only [Nat.blt_eq,Bool.or_eq_true,Bool.not_eq_true',Nat.beq_eq,Nat.ble_eq] at this;obtain ⟨⟨⟨n,o⟩,d⟩,e⟩:=this;refine ⟨⟨n,o⟩,λi=>?_,λi=>?_⟩
  .rcases d with d | d
   .rw [<-Bool.not_eq_true,Nat.blt_eq] at d;exact absurd i d
   .exact d
  .rcases e with e | e
   .rw [<-Bool.not_eq_true,Nat.ble_eq] at e;exact absurd i e
   .exact e
 refine ⟨?_,j,k,l,λa b c=>(g a b c).1,λa b c=>(g a b c).2.1,λa b c=>(g a b c).2.2⟩;split at f
 .rename_i u p;rw [p,qol f]
 .cases f
theorem qfp {G:qk} {ρ:List (Nat×Nat)} {nm g:Nat} {x:Nat×Nat×Nat} (h:qde G ρ nm g=some x):∃ k,(nm,k) ∈ ρ/\G k g=some x:=by
 unfold qde at h;split at h
 .rename_i k a;exact ⟨k,qhc a,h⟩
 .cases h
theorem zej {F:Fact} {ρ:List (Nat×Nat)} {args:List V} {H:Heap} {G:qk} {w:World} (e:Sim H G w) (a:Fits F ρ args H) (i:F.ro<=F.next) (j:F.zm<=F.ro):Sim F.heap (qde G ρ) w:=by
 have d:∀ nm k,assoc ρ nm=some k->∀ g,G k g=qde G ρ nm g:=by
  intro nm k l g;simp only [qde,l]
 refine ⟨λnm g b y n h=>?_,λnm g b y n z D A E h B=>?_,λnm o I p=>?_,i,j,λg o x p=>?_⟩
 .obtain ⟨k,q,r⟩:=qfp h;exact ⟨(e.lt _ _ _ _ _ r).1,(a.lt _ _ q).1⟩
 .obtain ⟨k,q,r⟩:=qfp h;obtain ⟨J,s,t⟩:=qfp B;obtain ⟨c,f⟩:=e.inj _ _ _ _ _ _ _ _ _ r t;exact ⟨(ql9 a.one q s).2 c,f⟩
 .obtain ⟨k,u,c,f,v⟩:=qwp a.pre (qdp _ _ _ p);exact (qfb.ren d c f).2 (e.obj k u (a.lt _ _ (qhc c)).2 v)
 .obtain ⟨k,u,c,f,v⟩:=qwp a.pre (qdp _ _ _ p);have l:=a.same _ _ (qhc c) x;subst l;obtain ⟨m,C⟩:=e.globs k u (by rw [a.zm];exact x) v;exact ⟨m,by rw [<-d k k c];exact C⟩
theorem Fact.z71 {F:Fact} {ρ:List (Nat×Nat)} {args:List V} {H H1:Heap} {G r:qk} {w w':World} (t:Sim H G w) (z:Fits F ρ args H) (hle:F.next<=F.next') (st:Step F.heap (qde G ρ) w H1 r w') (hn:H1.next=F.next') (T:q89 H1 F.post=true)
  {l:List (Nat×O)} (hl:qrn (F.names ρ H.next) F.post=some l):Step H G w {H with qcg:=jj (qge l) (F.qum ρ H.next) H.qcg,next:=H.next+(F.next'-F.next)} (qip G r ρ F H.next) w'/\
   ∀ nm k,F.names ρ H.next nm=some k->∀ g,qip G r ρ F H.next k g=r nm g:=by
 have u:∀ nm,({H with qcg:=jj (qge l) (F.qum ρ H.next) H.qcg,next:=H.next+(F.next'-F.next)}:Heap).get nm=if nm ∈ F.qum ρ H.next then (qge l).get nm else H.get nm:=λnm=>qaj _ _ _ _
 have Y:∀ nm k,F.names ρ H.next nm=some k->∀ g,qip G r ρ F H.next k g=r nm g:=by
  intro nm k c g;simp only [Fact.names,cond_eq_ite,Nat.ble_eq,Nat.blt_eq] at c;split at c
  .rename_i a;split at c
   .rename_i K;cases c;have e1:¬ (nm-F.next+H.next<H.next):=by omega
    have e2:nm-F.next+H.next-H.next+F.next=nm:=by omega
    simp only [qip,zF e1,e2,zT K]
   .cases c
  .have d:=qhc c;simp only [qip,zT (z.lt _ _ d).2,zhe z.one d]
 have Z:∀ k nm,inv ρ k=some nm->(nm,k) ∈ ρ/\∀ g,qde G ρ nm g=G k g:=by
  intro k nm h;have d:=qm2 h;exact ⟨d,λg=>by simp only [qde,qkl z.one d]⟩
 have L:∀ k g b f n,inv ρ k=none->G k g=some (b,f,n)->qko (qde G ρ) b:=by
  intro k g b f n c i a7 W A n' M;obtain ⟨k',s,j⟩:=qfp M;obtain ⟨X,_⟩:=t.inj _ _ _ _ _ _ _ _ _ i j;subst X;exact qu1 c _ s
 have a8:∀ k g b f n,inv ρ k=none->G k g=some (b,f,n)->w'.heap[b]? = w.heap[b]?:=λk g b f n c i=>(st.ext.frg b (t.lt _ _ _ _ _ i).1 (L k g b f n c i)).1;have I:∀ k g x,qip G r ρ F H.next k g=some x->(k<H.next/\((∃ nm,inv ρ k=some nm/\r nm g=some x)∨(inv ρ k=none/\G k g=some x)))∨(H.next<=k/\k-H.next+F.next<F.next'/\r (k-H.next+F.next) g=some x):=by
  intro k g x h;simp only [qip] at h;split at h
  .grind
  .simp_all
 have N:∀ k,k ∈ F.qum ρ H.next->(∃ nm o,(nm,o) ∈ F.pre/\F.ro<=nm/\(nm,k) ∈ ρ)∨(H.next<=k/\k<H.next+(F.next'-F.next)):=by
  intro k c;rcases List.mem_append.1 c with c | c
  .obtain ⟨x,B,aa⟩:=List.mem_filterMap.1 c;obtain ⟨ab,ad⟩:=List.mem_filter.1 B;exact .inl ⟨x.1,x.2,ab,by simpa using ad,qhc aa⟩
  .simp_all
 have ae:∀ nm k o,(nm,o) ∈ F.pre->F.ro<=nm->(nm,k) ∈ ρ->k ∈ F.qum ρ H.next:=by
  intro nm k o a K P;refine List.mem_append_left _ (List.mem_filterMap.2 ⟨(nm,o),List.mem_filter.2 ⟨a,by simpa using K⟩,qkl z.one P⟩)
 have v:∀ k,k<H.ro->k ∉ F.qum ρ H.next:=by
  intro k D E;rcases N k E with ⟨nm,o,a,K,P⟩ | ⟨a,_⟩
  .have:=z.ro _ _ P K;omega
  .have:=t.ro;omega
 have Q:∀ k g x,G k g=some x->qip G r ρ F H.next k g=some x:=by
  intro k g x B;have c:=(t.lt _ _ _ _ _ B).2;simp only [qip,zT c];split
  .rename_i nm af;exact st.ext.sub _ _ _ (by rw [(Z k nm af).2];exact B)
  .exact B
 have U:∀ nm,F.heap.get nm=none∨∃ o,(nm,o) ∈ F.pre:=by
  intro nm;cases hq:F.heap.get nm with
  | none=>exact .inl rfl
  | some o=>exact .inr ⟨o,qdp _ _ _ hq⟩
 have y:∀ k,k<H.next->k ∉ F.qum ρ H.next->(∀ g x,qip G r ρ F H.next k g=some x->G k g=some x)/\∀ g b f n,G k g=some (b,f,n)->w'.heap[b]? = w.heap[b]?:=by
  intro k c E;cases hq:inv ρ k with
  | none=>grind
  | some nm=>
   obtain ⟨d,M⟩:=Z k nm hq;have a1:∀ g,qip G r ρ F H.next k g=r nm g:=λg=>by simp only [qip,zT c,hq]
   rcases U nm with p | ⟨o,R⟩
   .obtain ⟨_,j,X⟩:=st.frame nm (z.lt _ _ d).1 p;exact ⟨λg x B=>by rw [<-M];exact X g x (by rw [<-a1];exact B),λg b f m i=>j g b f m (by rw [M];exact i)⟩
   .by_cases D:F.ro<=nm
    .grind
    .have D:nm<F.ro:=by omega
     exact ⟨λg x B=>by rw [<-M];exact st.newG nm g x (by rw [<-a1];exact B) D,λg b f m i=>st.ext.ro nm g b f m D (by rw [M];exact i)⟩
 have S:Ext H.ro G w (qip G r ρ F H.next) w':=by
  refine ⟨Q,λb hb a6=>?_,st.ext.size,st.ext.shp,λk g b f m D i=>?_,st.ext.out⟩
  .have ag:qko (qde G ρ) b:=by
    intro nm g f m M;obtain ⟨k,_,j⟩:=qfp M;exact a6 k g f m j
   obtain ⟨s,j⟩:=st.ext.frg b hb ag;refine ⟨s,λk g f m i=>?_⟩;rcases I k g _ i with ⟨_,⟨nm,_,a⟩ | ⟨_,a⟩⟩ | ⟨_,_,a⟩
   .exact j _ _ _ _ a
   .exact a6 _ _ _ _ a
   .exact j _ _ _ _ a
  .exact (y k (t.lt _ _ _ _ _ i).2 (v k D)).2 g b f m i
 refine ⟨⟨S,⟨λk g b f m i=>?_,λk g b f m k' W A m' i ah=>?_,λk o c R=>?_,?_,t.zm,λg o i R=>?_⟩,by simp only;omega,rfl,rfl,λk D=>?_,λk g x B D=>?_,λk c p=>?_⟩,Y⟩
 .rcases I k g _ i with ⟨c,⟨nm,_,a⟩ | ⟨_,a⟩⟩ | ⟨c,ai,a⟩
  .exact ⟨(st.sim.lt _ _ _ _ _ a).1,by simp only;omega⟩
  .exact ⟨zL (t.lt _ _ _ _ _ a).1 st.ext.size,by simp only;omega⟩
  .exact ⟨(st.sim.lt _ _ _ _ _ a).1,by simp only;omega⟩
 .have q:∀ {k nm g W f A m m'},r nm g=some (b,f,m)->inv ρ k=none->G k W=some (b,A,m')->False:=by
   intro k nm g W f A m m' a K P;exact (st.ext.frg b (t.lt _ _ _ _ _ P).1 (L k W b A m' K P)).2 _ _ _ _ a
  rcases I k g _ i with ⟨c,⟨nm,hi,a⟩ | ⟨hi,a⟩⟩ | ⟨c,ai,a⟩<;>rcases I k' W _ ah with ⟨J,⟨a7,C,e⟩ | ⟨C,e⟩⟩ | ⟨J,al,e⟩
  .obtain ⟨s,j⟩:=st.sim.inj _ _ _ _ _ _ _ _ _ a e;exact ⟨(ql9 z.one (qm2 hi) (qm2 C)).1 s,j⟩
  .exact (q a C e).elim
  .obtain ⟨s,j⟩:=st.sim.inj _ _ _ _ _ _ _ _ _ a e;have:=(z.lt _ _ (qm2 hi)).1;omega
  .exact (q e hi a).elim
  .exact t.inj _ _ _ _ _ _ _ _ _ a e
  .exact (q e hi a).elim
  .obtain ⟨s,j⟩:=st.sim.inj _ _ _ _ _ _ _ _ _ a e;have:=(z.lt _ _ (qm2 C)).1;omega
  .exact (q a C e).elim
  .obtain ⟨s,j⟩:=st.sim.inj _ _ _ _ _ _ _ _ _ a e;exact ⟨by omega,j⟩
 .rw [u] at R;split at R
  .obtain ⟨nm,o1,p1,p2,p3⟩:=qyr hl (qdp _ _ _ R);have aj:nm<H1.next:=by
    rw [hn];simp only [Fact.names,cond_eq_ite,Nat.ble_eq,Nat.blt_eq] at p2;split at p2
    .split at p2
     .assumption
     .cases p2
    .have:=(z.lt _ _ (qhc p2)).1;omega
   exact (qfb.ren Y p2 p3).1 (st.sim.obj nm o1 aj (znm T p1))
  .rename_i E;have J:k<H.next:=by
    by_cases ak:k<H.next
    .exact ak
    .exfalso;apply E;refine List.mem_append_right _ (List.mem_range'_1.2 ⟨by omega,?_⟩);simp only at c;exact c
   obtain ⟨s,j⟩:=y k J E;exact (t.obj k o J R).ext S s j
 .have:=t.ro;simp only;omega
 .simp only at i;rw [u,zF (v g (by have:=t.zm;omega))] at R;obtain ⟨m,hm⟩:=t.globs g o i R;exact ⟨m,Q _ _ _ hm⟩
 .rw [u,zF (v k D)]
 .exact (y k (by have:=t.ro;omega) (v k D)).1 g x B
 .have E:k ∉ F.qum ρ H.next:=by
   intro E;rcases N k E with ⟨nm,o,a,K,P⟩ | ⟨a,_⟩
   .obtain ⟨k',o',s,j,X⟩:=qwp z.pre a;rw [qkl z.one P] at s;cases s;rw [p] at X;cases X
   .omega
  obtain ⟨s,j⟩:=y k c E;exact ⟨by rw [u,zF E];exact p,j,s⟩
theorem Fact.z5s {F:Fact} (E:qhr P (qbh (zr P sp) n)) {fn:Func} {c:Code} (I:P.funcs[F.f]? = some fn) (g:(fn.name == "runtime.NumGoroutine")=false) (J:fn.body=some c) (h:F.ok2 (zr P sp) n=true)
  {args:List V} {H H':Heap} {r:CR} (d:F.qpq args H=some (r,H')) {G:qk} {w:World} {a:Array Value} (B:Sim H G w) (L:qq G w args a.toList) {K:Fence} {m:Nat} (hK:qhb K) :
  CallsIn K m P F.f a w λe w'=>∃ k,Step H G w H' k w'/\qln k w' r e:=by
 unfold Fact.qpq at d;simp only at d;split at d;rotate_left
 .cases d
 rename_i ρ _;simp only [cond_eq_ite] at d;split at d
 .rename_i b;have b:=zj2 b;simp only [zI,zM,zP] at d;obtain ⟨v',q,l,M,rfl,rfl⟩:=d;unfold Fact.ok2 at h;split at h
  .rename_i v H1 o;simp only [zA,Nat.beq_eq,Nat.ble_eq] at h;obtain ⟨⟨⟨⟨⟨N,O⟩,Q⟩,R⟩,S⟩,T⟩:=h;have U:=qms N;subst U;have s:=zej B b R S;have t:∀ nm u,assoc ρ nm=some u->∀ y,G u y=qde G ρ nm y:=by
    intro nm u W y;simp only [qde,W]
   have i:qq (qde G ρ) w F.args a.toList:=(qq.ren t b.args).2 L;have C:(invoke (.fn (.func F.f) #[]) a).run P w=.ok (.enter F.f a) w:=by
    have X:(invoke (.fn (.func F.f) #[]) a).run P w=(callFunc F.f (a++#[])).run P w:=rfl;rw [X,Array.append_empty,qcc I g J]
   have j:CallsIn K m P F.f a w λe w'=>∃ k,Step F.heap (qde G ρ) w H1 k w'/\qln k w' (.ret F.ret) e:=by
    rcases E (.func F.f) F.args F.heap _ H1 o (qde G ρ) w (.fn (.func F.f) #[]) a s ⟨#[],rfl,by simpa using i⟩ with ⟨x,w',k,v,D,_⟩ | ⟨Y,p,D,h2⟩ | ⟨l,Y,t',a',b',D,_⟩
    .simp_all
    .simp_all
    .simp_all
   refine j.mono λe w' ⟨G1,st,Z⟩=>?_;obtain ⟨z,A⟩:=Fact.z71 B b Q st O T M;obtain ⟨x,rfl,hx⟩:=Z;exact ⟨_,z,x,rfl,(Rel.ren A q).1 hx⟩
  .cases h
 .cases d
def qrv:List Fact->Nat->List V->Heap->Option (CR×Heap)
 | [],_,_,_=>none
 | F::l,f,args,H=>bif Nat.beq F.f f then (match F.qpq args H with
   | some r=>some r
   | none=>qrv l f args H) else qrv l f args H
def qpj (l:List Fact) (f:Nat):Option (List V->Heap->Option (CR×Heap)):=
 bif l.any (λF=>Nat.beq F.f f) then some (qrv l f) else none
theorem qpd:∀ {l:List Fact} (_:∀ F ∈ l,qbx P F.f F.qpq) (f:Nat),qbx P f (qrv l f)
 | [],_,f=>λargs H r H' a=>by simp [qrv] at a
 | F::l,b,f=>λargs H r H' a=>by
  simp only [qrv,cond_eq_ite] at a;split at a
  .rename_i e;rw [Nat.beq_eq] at e;subst e;split at a
   .rename_i g c;cases a;exact b F zC args H r H' c
   .exact qpd (λd h=>b d (zG _ h)) F.f args H r H' a
  .exact qpd (λd h=>b d (zG _ h)) f args H r H' a
theorem q6a (hm:P.follows .mixedOrders=true) (b:qo9 P=true) {l:List Fact} (c:∀ F ∈ l,qbx P F.f F.qpq) (k:Nat):qhr P (qbh (zr P (qpj l)) k):=by
 refine qbr hm (z15 b) (zjh b) (λf s a=>?_) k;unfold qpj at a;rw [cond_eq_ite] at a;split at a
 .cases a;exact qpd c f
 .cases a
theorem qir:∀ F ∈ ([]:List Fact),qbx P F.f F.qpq:=λF h=>by cases h
theorem qlx {F:Fact} {l:List Fact} (h:qbx P F.f F.qpq) (c:∀ F ∈ l,qbx P F.f F.qpq):∀ a ∈ F::l,qbx P a.f a.qpq:=by
 intro a b;rcases zD.1 b with rfl | b
 .exact h
 .exact c a b
theorem qly (hm:P.follows .mixedOrders=true) (a:qo9 P=true) {l:List Fact} (i:∀ F ∈ l,qbx P F.f F.qpq) {F:Fact} (j:qos (zr P λ_=>none) F.f=true) (h:F.ok2 (zr P (qpj l)) n=true):qbx P F.f F.qpq:=by
 intro args H r H' k G w b o p;obtain ⟨q,c,d,e,g⟩:=qs8 j;exact ⟨q,c,d,e,g,λK m s=>Fact.z5s (q6a hm a i n) d e g h k o p s⟩
def Fact.q5d (F:Fact) (args:List V) (H:Heap):Option (CR×Heap):=
 bif F.fits (F.pre.map λx=>(x.1,x.1)) args H&&Nat.beq F.ro F.next&&qmn F.ret ((qg7 (λ_=>none) F.ret).getD (.tuple [.nilp])) then some (.ret F.ret,H) else none
theorem Fact.z7z {F:Fact} {ρ:List (Nat×Nat)} {args:List V} {H H1:Heap} {G t:qk} {w w':World} (e:Sim H G w) (r:Fits F ρ args H) (l:F.ro=F.next) (st:Step F.heap (qde G ρ) w H1 t w'):Step H G w H G w':=by
 have a:∀ k g b c n,G k g=some (b,c,n)->w'.heap[b]? = w.heap[b]?:=by
  intro k g b c n d;cases s:inv ρ k with
  | some nm=>
   have f:=qm2 s;refine st.ext.ro nm g b c n (show nm<F.ro by rw [l];exact (r.lt _ _ f).1) ?_;simp only [qde,qkl r.one f];exact d
  | none=>
   refine (st.ext.frg b (e.lt _ _ _ _ _ d).1 ?_).1;intro u C v D p;obtain ⟨E,x,q⟩:=qfp p;obtain ⟨y,_⟩:=e.inj _ _ _ _ _ _ _ _ _ d q;subst y;exact qu1 s _ x
 have i:Ext H.ro G w G w':=by
  refine ⟨λ_ _ _ h=>h,λb z j=>⟨(st.ext.frg b z ?_).1,j⟩,st.ext.size,st.ext.shp,λk g b c m _ d=>a k g b c m d,st.ext.out⟩;intro nm g c m p;obtain ⟨k,_,q⟩:=qfp p;exact j k g c m q
 exact ⟨i,⟨λk g b c m d=>⟨zL (e.lt _ _ _ _ _ d).1 st.ext.size,(e.lt _ _ _ _ _ d).2⟩,e.inj,λk o A B=>(e.obj k o A B).ext i (λ_ _ h=>h) (λg b c m d=>a k g b c m d),e.ro,e.zm,e.globs⟩,
  zN _,rfl,rfl,λ_ _=>rfl,λ_ _ _ h _=>h,λk _ h=>⟨h,λg b c m d=>a k g b c m d,λ_ _ h=>h⟩⟩
theorem Fact.z5r {F:Fact} (M:qhr P (qbh (zr P sp) n)) {fn:Func} {c:Code} (N:P.funcs[F.f]? = some fn) (g:(fn.name == "runtime.NumGoroutine")=false) (O:fn.body=some c) (h:F.ok2 (zr P sp) n=true)
  {args:List V} {H H':Heap} {r:CR} (o:F.q5d args H=some (r,H')) {G:qk} {w:World} {a:Array Value} (I:Sim H G w) (Q:qq G w args a.toList) {K:Fence} {m:Nat} (hK:qhb K) :
  CallsIn K m P F.f a w λe w'=>∃ k,Step H G w H' k w'/\qln k w' r e:=by
 unfold Fact.q5d at o;simp only [cond_eq_ite,zA,Nat.beq_eq] at o;split at o
 .rename_i y;obtain ⟨⟨b,z⟩,d⟩:=y;cases o;have b:=zj2 b;generalize (F.pre.map λx=>(x.1,x.1))=ρ at b;unfold Fact.ok2 at h;split at h
  .rename_i v H1 p;simp only [zA,Nat.beq_eq,Nat.ble_eq] at h;obtain ⟨⟨⟨⟨⟨R,c2⟩,c3⟩,S⟩,T⟩,c4⟩:=h;have U:=qms R;subst U;have A:=zej I b S T;have B:∀ nm C,assoc ρ nm=some C->∀ D,G C D=qde G ρ nm D:=by
    intro nm C W D;simp only [qde,W]
   have i:qq (qde G ρ) w F.args a.toList:=(qq.ren B b.args).2 Q;have J:(invoke (.fn (.func F.f) #[]) a).run P w=.ok (.enter F.f a) w:=by
    have X:(invoke (.fn (.func F.f) #[]) a).run P w=(callFunc F.f (a++#[])).run P w:=rfl;rw [X,Array.append_empty,qcc N g O]
   have j:CallsIn K m P F.f a w λe w'=>∃ k,Step F.heap (qde G ρ) w H1 k w'/\qln k w' (.ret F.ret) e:=by
    rcases M (.func F.f) F.args F.heap _ H1 p (qde G ρ) w (.fn (.func F.f) #[]) a A ⟨#[],rfl,by simpa using i⟩ with ⟨x,w',k,v,L,_⟩ | ⟨Y,s,L,h2⟩ | ⟨l,Y,t',a',b',L,_⟩
    .simp_all
    .simp_all
    .simp_all
   refine j.mono λe w' ⟨G1,st,Z⟩=>?_;obtain ⟨x,rfl,E⟩:=Z;refine ⟨G,Fact.z7z I b z st,x,rfl,?_⟩;cases t:qg7 (λ_=>none) F.ret with
   | none=>
    rw [t] at d;have q:=qms d;simp only [Option.getD_none] at q;rw [q] at E ⊢;exact E
   | some u=>
    rw [t] at d;have q:=qms d;simp only [Option.getD_some] at q;rw [<-q] at t;exact (Rel.ren (m:=λ_=>none) (G2:=G) (λ_ _ h=>by cases h) t).1 E
  .cases h
 .cases o
theorem q1s (hm:P.follows .mixedOrders=true) (a:qo9 P=true) {l:List Fact} (i:∀ F ∈ l,qbx P F.f F.qpq) {F:Fact} (j:qos (zr P λ_=>none) F.f=true) (h:F.ok2 (zr P (qpj l)) n=true):qbx P F.f F.q5d:=by
 intro args H r H' k G w b o p;obtain ⟨q,c,d,e,g⟩:=qs8 j;exact ⟨q,c,d,e,g,λK m s=>Fact.z5r (q6a hm a i n) d e g h k o p s⟩
end
end Go.E2
/- E2: RUNS OF E2's THAT NEED SO MUCH AND NO MORE: rules for code, one after the other, for proofs about whatever arguments. -/
namespace Go.E2
open Go
def z6e (E:Env) (t:Tgt) (args:List V) (H:Heap) (y:CR×Heap):Prop:=∃ a,∀ k,a<=k->qbh E k t args H=some y
def qdv (E:Env) (t:Tgt) (args:List V) (H:Heap) (Q:V->Heap->Prop):Prop:=∃ v H',z6e E t args H (.ret v,H')/\Q v H'
def Wp (E:Env) (fn:FuncId) (round:Option Nat) (c:Code) (fr:Fr) (H:Heap) (Q:Ex->Fr->Heap->Prop):Prop:=
 ∃ x,(∃ a,∀ k,a<=k->zn E (qbh E k) fn round (k+1) c fr H=some x)/\Q x.1 x.2.1 x.2.2
def WpO (E:Env) (a:Bool) (all:Array Oper) (l:List Oper) (fr:Fr) (H:Heap) (Q:Ex->Fr->Heap->Prop):Prop:=
 ∃ x,(∃ b,∀ k,b<=k->qh8 E (qbh E k) a all l fr H=some x)/\Q x.1 x.2.1 x.2.2
section
variable {E:Env} {fn:FuncId} {round:Option Nat} {nd:Bool} {all:Array Oper} {fr:Fr} {H:Heap} {Q:Ex->Fr->Heap->Prop}
theorem qdv.mono {t:Tgt} {args:List V} {Q a:V->Heap->Prop} (h:qdv E t args H Q) (b:∀ v H',Q v H'->a v H'):qdv E t args H a:=by
 obtain ⟨v,H',c,d⟩:=h;exact ⟨v,H',c,b _ _ d⟩
theorem Wp.mono {c:Code} {a:Ex->Fr->Heap->Prop} (h:Wp E fn round c fr H Q) (b:∀ ex fr' H',Q ex fr' H'->a ex fr' H'):Wp E fn round c fr H a:=by
 obtain ⟨x,d,e⟩:=h;exact ⟨x,d,b _ _ _ e⟩
theorem WpO.mono {l:List Oper} {a:Ex->Fr->Heap->Prop} (h:WpO E nd all l fr H Q) (b:∀ ex fr' H',Q ex fr' H'->a ex fr' H'):WpO E nd all l fr H a:=by
 obtain ⟨x,c,d⟩:=h;exact ⟨x,c,b _ _ _ d⟩
theorem z1y (h:Q .normal fr H):Wp E fn round .skip fr H Q:=⟨(.normal,fr,H),⟨0,λ_ _=>rfl⟩,h⟩
theorem zw7 {l:Nat} (h:Q .normal fr H):Wp E fn round (.label l) fr H Q:=⟨(.normal,fr,H),⟨0,λ_ _=>rfl⟩,h⟩
theorem zw9 (h:Q .ret fr H):Wp E fn round .ret fr H Q:=⟨(.ret,fr,H),⟨0,λ_ _=>rfl⟩,h⟩
theorem z1w {id:Nat} (h:Q (.exit id) fr H):Wp E fn round (.exit id) fr H Q:=⟨(.exit id,fr,H),⟨0,λ_ _=>rfl⟩,h⟩
def q7z (next:Fr->Heap->Prop) (Q:Ex->Fr->Heap->Prop):Ex->Fr->Heap->Prop
 | .normal,fr,H=>next fr H
 | e,fr,H=>Q e fr H
theorem q37 {a b:Code} (h:Wp E fn round a fr H (q7z (λfr' H'=>Wp E fn round b fr' H' Q) Q)):Wp E fn round (.seq a b) fr H Q:=by
 obtain ⟨⟨e,fr',H'⟩,⟨c,d⟩,f⟩:=h;cases e with
 | normal=>
  obtain ⟨x,⟨i,j⟩,l⟩:=f;exact ⟨x,⟨max c i,λk g=>by simp only [zn,d k (by omega),j k (by omega)]⟩,l⟩
 | _=>exact ⟨_,⟨c,λk g=>by simp only [zn,d k g]⟩,f⟩
theorem z1v {c:Operand} {a b:Code} {t:Bool} (d:opd fr H c=some (.bool t)) (h:Wp E fn round (if t then a else b) fr H Q):Wp E fn round (.cond c a b) fr H Q:=by
 obtain ⟨x,⟨e,f⟩,g⟩:=h;refine ⟨x,⟨e,λk i=>?_⟩,g⟩;have:=f k i;cases t<;>simp only [zn,d]<;>exact this
def qsw (id:Nat) (Q:Ex->Fr->Heap->Prop):Ex->Fr->Heap->Prop
 | .exit a,fr,H=>if a=id then Q .normal fr H else Q (.exit a) fr H
 | e,fr,H=>Q e fr H
theorem zw6 {id:Nat} {c:Code} (h:Wp E fn round c fr H (qsw id Q)):Wp E fn round (.block id c) fr H Q:=by
 obtain ⟨⟨e,fr',H'⟩,⟨g,i⟩,d⟩:=h;cases e with
 | exit a=>
  simp only [qsw] at d;by_cases b:a=id
  .rw [zT b] at d;subst b;have j:Nat.beq a a=true:=by rw [Nat.beq_eq]
   exact ⟨(.normal,fr',H'),⟨g,λk f=>by simp only [zn,i k f,j,zO]⟩,d⟩
  .rw [zF b] at d;have j:Nat.beq a id=false:=by
    cases l:Nat.beq a id with
    | false=>rfl
    | true=>simp_all
   exact ⟨(.exit a,fr',H'),⟨g,λk f=>by simp only [zn,i k f,j,zQ]⟩,d⟩
 | _=>exact ⟨_,⟨g,λk f=>by simp only [zn,i k f]⟩,d⟩
theorem zxa {c:Code} (h:Wp E fn round c fr H (λe fr' H'=>(∀ l,e≠.goto l)/\Q e fr' H')):Wp E fn round (.scope c) fr H Q:=by
 obtain ⟨⟨e,fr',H'⟩,⟨a,b⟩,g,d⟩:=h;refine ⟨(e,fr',H'),⟨a,λk f=>?_⟩,d⟩;simp only [zn,b k f]
 all_goals first
  | rfl
  | (cases e with
   | goto l=>simp_all
   | _=>rfl)
theorem qz1 {c:Code} (Inv:Nat->Fr->Heap->Prop) {m:Nat} (p:Inv m fr H)
  (h:∀ m fr H,Inv m fr H->Wp E fn round c fr H (q7z (λfr' H'=>∃ b,b<m/\Inv b fr' H') Q)):Wp E fn round (.loop c) fr H Q:=by
 have j:∀ (m:Nat) (fr:Fr) (H:Heap) (o:Ex),Inv m fr H->∃ x,(∃ a r,∀ k,a<=k->∀ f,r<f->iter (λ(s:Ex×Fr×Heap)=>match zn E (qbh E k) fn round (k+1) c s.2.1 s.2.2 with
   | some (.normal,fr',H')=>some (true,.normal,fr',H')
   | some r=>some (false,r)
   | none=>none) f (o,fr,H)=some x)/\Q x.1 x.2.1 x.2.2:=by
  intro m
  induction m using Nat.strongRecOn with
  | _ m q=>
   intro fr H o hi;obtain ⟨⟨e,fr',H'⟩,⟨a,d⟩,i⟩:=h m fr H hi;cases e with
   | normal=>
    obtain ⟨b,t,l⟩:=i;obtain ⟨x,⟨u,r,v⟩,w⟩:=q b t fr' H' .normal l;refine ⟨x,⟨max a u,r+1,λk n f y=>?_⟩,w⟩;obtain ⟨f,rfl⟩:∃ g,f=g+1:=⟨f-1,by omega⟩;simp only [iter,d k (by omega)];exact v k (by omega) f (by omega)
   | _=>
    refine ⟨_,⟨a,0,λk n f y=>?_⟩,i⟩;obtain ⟨f,rfl⟩:∃ g,f=g+1:=⟨f-1,by omega⟩;simp only [iter,d k n]
 obtain ⟨x,⟨a,r,d⟩,i⟩:=j m fr H .normal p;exact ⟨x,⟨max a r,λk n=>by simp only [zn];exact d k (by omega) (k+1) (by omega)⟩,i⟩
theorem q74 {id:Nat} {ops:Array Oper} (h:WpO E round.isNone ops ops.toList fr H Q):Wp E fn round (.region id ops false) fr H Q:=by
 obtain ⟨x,⟨a,b⟩,c⟩:=h;exact ⟨x,⟨a,λk d=>by simp only [zn,zQ];exact b k d⟩,c⟩
theorem zlp (h:Q .normal fr H):WpO E nd all [] fr H Q:=⟨(.normal,fr,H),⟨0,λ_ _=>rfl⟩,h⟩
def qm5 (o:Oper):Bool:=match o.op with | .defer _=>true | _=>false
theorem qrp {call:Call} {o:Oper} {l:List Oper} (b:qm5 o=false):qh8 E call nd all (o::l) fr H=match qgb E call all o fr H with
   | some (.ret v,H')=>qh8 E call nd all l (fr.put o.dst v) H'
   | some (.panic a,H')=>some (.panic a,fr,H')
   | none=>none:=by
 rfl
theorem qnj {o:Oper} {l:List Oper} {v:V} {H':Heap} (a:qm5 o=false) (hw:qek o all fr=some true) (h:jk E o fr H=some (.val v,H')) (k:WpO E nd all l (fr.put o.dst v) H' Q):WpO E nd all (o::l) fr H Q:=by
 obtain ⟨x,⟨b,c⟩,d⟩:=k;exact ⟨x,⟨b,λk e=>by rw [qrp a];simp only [qgb,hw,h];exact c k e⟩,d⟩
theorem q4e {o:Oper} {l:List Oper} {H':Heap} (a:qm5 o=false) (hw:qek o all fr=some true) (h:jk E o fr H=some (.skip,H')) (k:WpO E nd all l (fr.put o.dst j8) H' Q):WpO E nd all (o::l) fr H Q:=by
 obtain ⟨x,⟨b,c⟩,d⟩:=k;exact ⟨x,⟨b,λk e=>by rw [qrp a];simp only [qgb,hw,h];exact c k e⟩,d⟩
theorem z10 {o:Oper} {l:List Oper} (a:qm5 o=false) (hw:qek o all fr=some false) (k:WpO E nd all l (fr.put o.dst j8) H Q):WpO E nd all (o::l) fr H Q:=by
 obtain ⟨x,⟨b,c⟩,d⟩:=k;exact ⟨x,⟨b,λk e=>by rw [qrp a];simp only [qgb,hw];exact c k e⟩,d⟩
theorem zxh {o:Oper} {l:List Oper} {t:Tgt} {args:List V} {H1:Heap} (a:qm5 o=false) (hw:qek o all fr=some true) (h:jk E o fr H=some (.call t args,H1))
  (k:qdv E t args H1 λv H'=>WpO E nd all l (fr.put o.dst v) H' Q):WpO E nd all (o::l) fr H Q:=by
 obtain ⟨v,H',⟨b,c⟩,⟨x,⟨d,e⟩,f⟩⟩:=k;refine ⟨x,⟨max d b,λk g=>?_⟩,f⟩;rw [qrp a];simp only [qgb,hw,h,c k (by omega)];exact e k (by omega)
theorem qoi {f:Nat} {args:List V} {s:List V->Heap->Option (CR×Heap)} {v:V} {H':Heap} {Q:V->Heap->Prop} (a:E.spec f=some s) (h:s args H=some (.ret v,H')) (b:Q v H'):qdv E (.func f) args H Q:=
 ⟨v,H',⟨1,λk c=>by
  obtain ⟨k,rfl⟩:∃ g,k=g+1:=⟨k-1,by omega⟩;simp only [qbh,a,h]⟩,b⟩
def qe8:List Dfr->Heap->Option Heap
 | [],H=>some H
 | .mark nm::a,H=>match H.get nm with
  | some .dfr=>(H.upd nm .gone).bind λH'=>qe8 a H'
  | _=>none
theorem qyj {call:Call} {fuel:Nat} {md:Md}:∀ {a:List Dfr} {H H':Heap},qe8 a H=some H'->leave E call fuel a md H=some (md,H')
 | [],H,H',h=>by simp only [qe8,zS] at h;simp [leave,h]
 | .mark nm::a,H,H',h=>by
  simp only [qe8] at h;simp only [leave];split at h
  .rename_i b;rw [b];simp only [zI] at h ⊢;obtain ⟨H1,c,d⟩:=h;exact ⟨H1,c,qyj d⟩
  .cases h
theorem q0w {f:Nat} {b:FI} {c:Code} {args:List V} {Q:V->Heap->Prop} (j:E.spec f=none) (l:E.funcs f=some b) (m:b.body=some c)
  (h:Wp E f none c {tmps:=qhd args,n:=max args.length b.ntmps,defers:=[]} H λe fr' H'=>(e=.normal∨e=.ret)/\∃ a,qe8 fr'.defers H'=some a/\∃ d,qag E fr' a b.results=some d/\Q (oneOf d) a):qdv E (.func f) args H Q:=by
 obtain ⟨⟨e,fr',H'⟩,⟨o,p⟩,q,a,r,d,s,t⟩:=h;refine ⟨oneOf d,a,⟨o+1,λk v=>?_⟩,t⟩;obtain ⟨k,rfl⟩:∃ g,k=g+1:=⟨k-1,by omega⟩;have i:zao E (qbh E k) (k+1) (e,fr',H')=some (.returning,fr',a):=by
  have u:=qyj (E:=E) (call:=qbh E k) (fuel:=k+1) (md:=.returning) r;rcases q with rfl | rfl<;>simp [zao,u]
 simp only [qbh,j,l,m,zB,p k (by omega),i,qux,s,zH]
theorem q5y {f:Nat} {a:FI} {args:List V} {v:V} {Q:V->Heap->Prop} (b:E.spec f=none) (c:E.funcs f=some a) (d:a.body=none) (h:znd a.ext args=some v) (e:Q v H):qdv E (.func f) args H Q:=
 ⟨v,H,⟨1,λk i=>by
  obtain ⟨k,rfl⟩:∃ g,k=g+1:=⟨k-1,by omega⟩;simp only [qbh,b,c,d,zB,h,zH]⟩,e⟩
structure Upd (fr:Fr) (d:Nat) (v:V) (fr':Fr):Prop where
 get:fr'.tmp d=some v
 other:∀ j,Nat.beq j d=false->fr'.tmp j=fr.tmp j
 n:fr'.n=fr.n
 ds:fr'.defers=fr.defers
theorem qvl {d:Nat} {v:V} (h:d<fr.n):Upd fr d v (fr.put (some d) v):=by
 obtain ⟨t,n,f⟩:=fr;have a:Nat.blt d n=true:=by rw [Nat.blt_eq];exact h
 refine ⟨?_,λj b=>?_,?_,?_⟩
 .simp only [Fr.put,a,zO,Fr.tmp,Tree.jq,if_true]
 .have c:¬ j=d:=by
   intro e;rw [e] at b;have:Nat.beq d d=true:=by rw [Nat.beq_eq]
   rw [this] at b;cases b
  simp only [Fr.put,a,zO,Fr.tmp,Tree.jq,zF c]
 .simp only [Fr.put,a,zO]
 .simp only [Fr.put,a,zO]
theorem qlm {o:Oper} (a:o.guard=none):qek o all fr=some true:=by simp only [qek,a]
theorem zlm {o:Oper} {j d:Nat} {want b:Bool} (a:o.guard=some (j,want)) (c:(all[j]?).bind (·.dst)=some d) (e:fr.tmp d=some (.bool b)):qek o all fr=some (b == want):=by
 simp only [qek,a,c,e]
theorem zi1 {o:Oper} {j d:Nat} {want:Bool} (a:o.guard=some (j,want)) (b:(all[j]?).bind (·.dst)=some d) (c:fr.tmp d=some j8):qek o all fr=some false:=by
 simp only [qek,a,b,c,j8]
theorem z6c {o:Oper} {l:List Oper} {v:V} {H':Heap} {d:Nat} (b:qm5 o=false) (hw:qek o all fr=some true) (a:o.dst=some d) (c:d<fr.n) (h:jk E o fr H=some (.val v,H')) (k:∀ fr',Upd fr d v fr'->WpO E nd all l fr' H' Q):WpO E nd all (o::l) fr H Q:=
 qnj b hw h (by rw [a];exact k _ (qvl c))
theorem qh6 {t:Nat} {v:V} (h:fr.tmp t=some v):opd fr H (.tmp t)=some v:=h
theorem zof {c:Value} {v:V} (h:qsu 1000 c=some v):opd fr H (.const c)=some v:=h
theorem zu2:qdm fr H []=some []:=rfl
theorem qw7 {x:Operand} {l:List Operand} {v:V} {a:List V} (h:opd fr H x=some v) (b:qdm fr H l=some a):qdm fr H (x::l)=some (v::a):=by
 simp only [qdm,h,b,zB,zH]
section
variable {o:Oper}
theorem zjy {x:Operand} {v:V} (a:o.op=.move x) (b:opd fr H x=some v):jk E o fr H=some (.val v,H):=by simp only [jk,a,b,zH]
theorem q58 {x:Operand} {v:V} (a:o.op=.assign x) (b:opd fr H x=some v):jk E o fr H=some (.val v,H):=by simp only [jk,a,b,zH]
theorem zoe {x:Operand} {v:V} (h:opd fr H x=some v):qo5 fr H (some x)=some (some v):=by simp only [qo5,h,zH]
theorem zbl {lo hi d:Nat} {k:IntKind} {i:Int} (h:(lo:Int)<=i/\i<=hi):qbp lo hi (some (.int k i)) d=some i.toNat:=by simp only [qbp,h,and_self,if_true]
end
theorem z03:qag E fr H []=some []:=rfl
theorem z04 {t:Nat} {v:V} {rs:List ResultVar} {a:List V} (h:fr.tmp t=some v) (b:qag E fr H rs=some a):qag E fr H (.tmp t::rs)=some (v::a):=by
 simp only [qag,h,b,zB,zH]
theorem ends {rs:List ResultVar} {b:List V} {R:V->Heap->Prop} (c:fr.defers=[]) (d:qag E fr H rs=some b) (h:R (oneOf b) H):∃ a,qe8 fr.defers H=some a/\∃ b,qag E fr a rs=some b/\R (oneOf b) a:=
 ⟨H,by rw [c];rfl,b,d,h⟩
theorem z6k (a:fr.defers=[]):qe8 fr.defers H=some H:=by rw [a];rfl
theorem zez {next:Fr->Heap->Prop} (h:next fr H):q7z next Q .normal fr H:=h
theorem zbk {id id':Nat} (a:¬ id'=id) (h:Q (.exit id') fr H):qsw id Q (.exit id') fr H:=by
 simp only [qsw,zF a];exact h
theorem zgm {id:Nat} (h:Q .normal fr H):qsw id Q (.exit id) fr H:=by
 simp only [qsw,if_true];exact h
theorem qd7 {t:Nat} {l:List Nat} (h:t ∈ l):({fr with tmps:=jj fr.tmps l .nil}:Fr).tmp t=fr.tmp t:=by
 simp only [Fr.tmp,qaj,h,if_true]
theorem qtx {o:Oper}:qek o all {fr with tmps:=jj fr.tmps (o.looksAt all) .nil}=qek o all fr:=by
 unfold qek;split
 .rfl
 .rename_i j a b;split
  .rfl
  .rename_i d c;rw [qd7];simp [Oper.looksAt,b,c]
def zv (b:Array Nat) (i:Nat) (done:List Done):List Done:=done.filter λd=>!(b.getD i 0).testBit d.i
theorem qsz {d:Done} {l:List Nat}:qdb d l .none=false:=by
 obtain ⟨i,fp,lo,hi,a⟩:=d;cases fp<;>rfl
theorem ql1 {dels:List Nat}:qcm H (zx H .none dels) .none dels=H:=by
 simp only [qcm,zx,Nat.sub_self,List.range'_zero,jj]
theorem zbn {P:Program} {sp:Nat->Option (List V->Heap->Option (CR×Heap))} (hm:P.follows .mixedOrders=true) (d:qo9 P=true) (j:∀ f s,sp f=some s->qbx P f s) {f:FuncId} {g:Func} {c:Code} (l:P.funcs[f]? = some g) (b:(g.name == "runtime.NumGoroutine")=false) (m:g.body=some c)
  {args:List V} {a:Array Value} {G:qk} {W:World} {R:V->Heap->Prop} (n:Sim H G W) (o:qq G W args a.toList) (h:qdv (zr P sp) (.func f) args H R) :
  Calls P f a W λe w'=>∃ v H' x i,R v H'/\e=.returned x/\Rel i w' v x/\Step H G W H' i w':=by
 obtain ⟨v,H',⟨k,p⟩,q⟩:=h;have r:qhr P (qbh (zr P sp) k):=qbr hm (z15 d) (zjh d) j k;refine (r.calls l b m (p k (zN _)) n o).mono λe w' ⟨i,st,t⟩=>?_;obtain ⟨x,rfl,u⟩:=t;exact ⟨v,H',x,i,q,rfl,u,st⟩
theorem q55 {args:List V} {n:Nat} {a:List Dfr} {i:Nat} {v:V} (h:args[i]? = some v):({tmps:=qhd args,n:=n,defers:=a}:Fr).tmp i=some v:=by
 simp only [Fr.tmp,qhd,Tree.qta,h]
def WpD (E:Env) (all:Array Oper) (b:Array Nat) (i:Nat) (l:List Oper) (done:List Done) (fr:Fr) (H:Heap) (Q:Ex->Fr->Heap->Prop):Prop:=
 ∃ x:Fr×Heap,(∃ a,∀ k,a<=k->qdy E (qbh E k) all b i l done fr H=some x)/\Q .normal x.1 x.2
theorem ze4 {id:Nat} {ops:Array Oper} (h:WpD E ops (Region.before ops) 0 ops.toList [] fr H Q):Wp E fn round (.region id ops true) fr H Q:=by
 obtain ⟨x,⟨a,b⟩,c⟩:=h;exact ⟨(.normal,x.1,x.2),⟨a,λk d=>by simp only [zn,zO,b k d,zH]⟩,c⟩
section
variable {b:Array Nat} {i:Nat} {l:List Oper} {done:List Done} {o:Oper}
theorem zln (h:Q .normal fr H):WpD E all b i [] done fr H Q:=⟨(fr,H),⟨0,λ_ _=>rfl⟩,h⟩
theorem qe4 {fp:FP} {out:Out} {v:V} {K:Heap} (hw:qek o all fr=some true) (e:qlw E o fr=fp) (m:fp≠.call) (f:((zv b i done).any λd=>qdb d ((zv b i done).flatMap Done.names) fp)=false)
  (g:jk E o {fr with tmps:=jj fr.tmps (o.looksAt all) .nil} (zx H fp ((zv b i done).flatMap Done.names))=some (out,K)) (a:out=.val v∨(out=.skip/\v=j8)) (n:H.next<=K.next)
  (k:WpD E all b (i+1) l (⟨i,fp,H.next,K.next,(zv b i done).flatMap Done.names⟩::done) (fr.put o.dst v) (qcm H K fp ((zv b i done).flatMap Done.names)) Q):WpD E all b i (o::l) done fr H Q:=by
 obtain ⟨x,⟨p,q⟩,r⟩:=k;refine ⟨x,⟨p,λk s=>?_⟩,r⟩;have t:Nat.blt K.next H.next=false:=by
  rw [<-Bool.not_eq_true,Nat.blt_eq];omega
 have u:qgb E (qbh E k) all o {fr with tmps:=jj fr.tmps (o.looksAt all) .nil} (zx H fp ((zv b i done).flatMap Done.names))=some (.ret v,K):=by
  rcases a with rfl | ⟨rfl,rfl⟩<;>simp only [qgb,qtx,hw,g]
 have c:((done.filter λd=>!(b.getD i 0).testBit d.i).any λd=>qdb d ((done.filter λd=>!(b.getD i 0).testBit d.i).flatMap Done.names) fp)=false:=f;have h:qgb E (qbh E k) all o {fr with tmps:=jj fr.tmps (o.looksAt all) .nil} (zx H fp ((done.filter λd=>!(b.getD i 0).testBit d.i).flatMap Done.names))=some (.ret v,K):=u;have j:=q k s;simp only [qdy,hw,zB,zO,e];cases fp with
 | call=>simp_all
 | _=>simp only [c,zQ,h,t];exact j
theorem zxg (hw:qek o all fr=some false) (k:WpD E all b (i+1) l (⟨i,.none,H.next,H.next,(zv b i done).flatMap Done.names⟩::done) (fr.put o.dst j8) H Q):WpD E all b i (o::l) done fr H Q:=by
 obtain ⟨x,⟨f,g⟩,h⟩:=k;refine ⟨x,⟨f,λk j=>?_⟩,h⟩;have a:∀ (l:List Done) (dels:List Nat),(l.any λd=>qdb d dels .none)=false:=by
  intro l dels;rw [<-Bool.not_eq_true,List.any_eq_true];rintro ⟨d,_,e⟩;rw [qsz] at e;cases e
 have m:Nat.blt H.next H.next=false:=by
  rw [<-Bool.not_eq_true,Nat.blt_eq];omega
 have c:∀ dels,(zx H .none dels).next=H.next:=λdels=>rfl
 simp only [qdy,hw,zB,zQ,a,qgb,qtx,ql1,c,m];exact g k j
def Calm (B:Nat) (done:List Done):Prop:=∀ d ∈ done,(d.fp=.none∨∃ l,d.fp=.reads l)/\B<=d.lo
theorem zrr {B:Nat}:Calm B []:=λd h=>by cases h
theorem zmz {B:Nat} {d:Done} (h:d.fp=.none∨∃ l,d.fp=.reads l) (b:B<=d.lo) (c:Calm B done):Calm B (d::done):=by
 intro x a;rcases zD.1 a with rfl | a
 .exact ⟨h,b⟩
 .exact c x a
theorem q0z {B:Nat} (c:Calm B done) {fp:FP} (e:fp=.none∨∃ l,fp=.reads l) {dels:List Nat}:((zv b i done).any λd=>qdb d dels fp)=false:=by
 rw [<-Bool.not_eq_true,List.any_eq_true];rintro ⟨d,f,h⟩;have a:=(c d (List.mem_filter.1 f).1).1;obtain ⟨m,g,j,k,n⟩:=d;rcases a with a | ⟨l,a⟩<;>rcases e with rfl | ⟨o,rfl⟩<;>subst a<;>cases h
theorem zm0 {B nm:Nat} (a:Calm B done) (h:nm<B):nm ∉ (zv b i done).flatMap Done.names:=by
 intro c;obtain ⟨d,e,f⟩:=List.mem_flatMap.1 c;have g:=(a d (List.mem_filter.1 e).1).2;have j:=(List.mem_range'_1.1 f).1;omega
theorem qq9 {l:List Nat} {dels:List Nat} {nm:Nat} (b:nm ∈ l) (c:nm<H.next) (d:nm ∉ dels):(zx H (.reads l) dels).get nm=H.get nm:=by
 have a:(Nat.blt nm H.next&&!dels.any λm=>Nat.beq nm m)=true:=qtk c d;simp only [zx,Heap.get,qaj];rw [zT (List.mem_filter.2 ⟨b,a⟩)]
theorem qyh {l dels:List Nat}:qcm H (zx H (.reads l) dels) (.reads l) dels=H:=by
 simp only [qcm,zx,Nat.sub_self,List.range'_zero,jj]
end
section
variable {o:Oper}
theorem qur {t:TypeId} {ti b:TI} {x:Operand} {k nm g off lim:Nat} {f:Field} (c:o.op=.fieldAddr t x k) (d:E.types t=some ti) (e:qi9 ti k=some f) (a:E.types f.type=some b) (h:Nat.beq b.size 0=false) (i:opd fr H x=some (.ptr nm g off lim)):jk E o fr H=some (.val (.ptr nm g (off+f.offset) lim),H):=by
 simp only [jk,c,d,e,a,h,i,zB,zQ]
end
theorem qcp {x:O}:(H.new x).get H.next=some x:=by
 simp only [Heap.new,Heap.get,Tree.jq,if_true]
theorem qec {x:O} {nm:Nat} (h:nm<H.next):(H.new x).get nm=H.get nm:=by
 obtain ⟨t,n,r,g⟩:=H;have:¬ nm=n:=by simp only at h;omega
 simp only [Heap.new,Heap.get,Tree.jq,zF this]
theorem za {x:O}:(H.new x).next=H.next+1:=by cases H;rfl
theorem q4w {x:O}:(H.new x).zm=H.zm:=by cases H;rfl
theorem zcx {x:O}:(H.new x).ro=H.ro:=by cases H;rfl
def Heap.put (H:Heap) (nm:Nat) (x:O):Heap:={H with qcg:=H.qcg.set nm x}
theorem qcl {nm:Nat} {x:O} (h:H.ro<=nm):H.upd nm x=some (H.put nm x):=by
 obtain ⟨t,n,r,g⟩:=H;have a:Nat.blt nm r=false:=by
  rw [<-Bool.not_eq_true,Nat.blt_eq];simp only at h;omega
 simp only [Heap.upd,a,zQ,Heap.put]
theorem qa7 {nm:Nat} {x:O}:(H.put nm x).get nm=some x:=by simp only [Heap.put,Heap.get,Tree.jq,if_true]
theorem qct {nm m:Nat} {x:O} (h:m≠nm):(H.put nm x).get m=H.get m:=by simp only [Heap.put,Heap.get,Tree.jq,zF h]
structure Keeps (H H':Heap):Prop where
 next:H.next<=H'.next
 ro:H'.ro=H.ro
 zm:H'.zm=H.zm
 old:∀ nm,nm<H.next->H'.get nm=H.get nm
theorem Keeps.refl (H:Heap):Keeps H H:=⟨zN _,rfl,rfl,λ_ _=>rfl⟩
theorem Keeps.trans {H H' a:Heap} (h:Keeps H H') (b:Keeps H' a):Keeps H a:=
 ⟨zR h.next b.next,b.ro.trans h.ro,b.zm.trans h.zm,λnm c=>(b.old nm (zL c h.next)).trans (h.old nm c)⟩
theorem Keeps.new {H H':Heap} (h:Keeps H H') (x:O):Keeps H (H'.new x):=
 ⟨by rw [za];have:=h.next;omega,by rw [zcx];exact h.ro,by rw [q4w];exact h.zm,λnm a=>by rw [qec (zL a h.next)];exact h.old nm a⟩
theorem Keeps.put {H H':Heap} (h:Keeps H H') {nm:Nat} (b:H.next<=nm) (x:O):Keeps H (H'.put nm x):=
 ⟨h.next,h.ro,h.zm,λm a=>by rw [qct (by omega)];exact h.old m a⟩
section
variable {b:Array Nat} {i:Nat} {l:List Oper} {done:List Done} {o:Oper}
theorem znq {x:O} {dels:List Nat}:qcm H ((zx H .none dels).new x) .none dels=H.new x:=by
 obtain ⟨t,n,r,g⟩:=H;have a:(Tree.nil.set n x:Tree O).get n=some x:=by rw [Tree.jq,zT rfl]
 simp only [qcm,zx,Heap.new,Nat.add_sub_cancel_left,List.range'_one,jj,a]
theorem qpc {l:List Nat} {dels:List Nat} {nm:Nat} (b:nm ∈ l) (c:nm<H.next) (d:nm ∉ dels):(zx H (.writes l) dels).get nm=H.get nm:=by
 have a:(Nat.blt nm H.next&&!dels.any λm=>Nat.beq nm m)=true:=qtk c d;simp only [zx,Heap.get,qaj];rw [zT (List.mem_filter.2 ⟨b,a⟩)]
end
end
end Go.E2
