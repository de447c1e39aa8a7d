/- A VERIFIED EVALUATOR, texts E3k, E3l, E3m, E3n, E3o, E3p, E3q, E3r in one. -/
import Derived.Test.YtpofmogdhigakaaGreatDoorM4
/- E3: APPEND, LISTS WRITTEN OUT against E2's. -/
namespace Go.E3
open Go Go.E2
variable {K:Nat->Type}
section
variable {X:Codecs K} {sz:Nat->Nat} {C:ZC K} {base H:Heap} {st:StV K} {fr:Fr} {w:Wd}
variable {tbl:Tbl K} {inv:Nat->List (NV K)->Prop} {meas:Nat->List (NV K)->Nat}
theorem qh9 (o:∀ c x,(X.cells c x).length=sz c) {c:Nat} {l:List (K c)} {own:Option (Nat×Nat)} {nm gn off:Nat} {cap:Option Nat} {cs fl:List V} {e:TypeId} {gen floor d:Nat} {ex:Bool}
  (r:w.g nm=some (.row cs e gen floor d ex)) (s:floor<=gn) (t:¬ w.M nm) (u:0<sz c) (b:∀ k,cap=some k->l.length<=k) (f:ql X sz w (l.flatMap (X.cells c)) fl)
  (A:off+fl.length<=cs.length) (h:∀ m,m<fl.length->cs.getD (off+m) zs=fl.getD m zs) (v:qli w sz c own (.slice nm gn off l.length (sz c) cap)) :
  Rep X sz w (.list c l own) (.slice nm gn off l.length (sz c) cap):=by
 have q:fl.length=l.length * sz c:=by rw [<-f.1];exact qi2 o
 refine .list r s t rfl (by omega) ⟨u,.inl rfl⟩ b (λi hi j p y=>?_) v;have a:=qxw o hi y;have z:=f.2 _ p a;have n:i * sz c+j<fl.length:=by rw [<-f.1];exact (List.getElem?_eq_some_iff.1 a).1
 rw [Nat.add_assoc,h _ n];exact z
theorem qfh {α:Type}:∀ {l:List (Nat×α)} {n j:Nat},look (qa1 l n) j=if j=n then none else look l j
 | [],n,j=>by simp [qa1,look]
 | (i,b)::l,n,j=>by
  simp only [qa1,cond_eq_ite,Nat.beq_eq];by_cases hi:i=n
  .subst hi;rw [zT rfl,qfh];by_cases a:j=i
   .rw [zT a,zT a]
   .rw [zF a,zF a,qaw,zF a]
  .rw [zF hi,qaw,qaw];by_cases a:j=i
   .subst a;rw [zT rfl,zF hi,zT rfl]
   .rw [zF a,zF a,qfh]
theorem qr5 (ok:CfgOk X sz C) (R:RelH X sz C base st H w) {id c:Nat} {l:List (K c)} (I:look st.cells id=some (.ml c l)) (J:0<sz c) :
  ∃ w',RelH X sz C base {st with cells:=qa1 st.cells id} H w'/\Le w w'/\w'.n=w.n/\w'.g=w.g/\(∀ own cap,(∀ k,cap=some k->l.length<=k)->qli w' sz c own (.slice (w.c id) 0 0 l.length (sz c) cap)->Rep X sz w' (.list c l own) (.slice (w.c id) 0 0 l.length (sz c) cap)):=by
 obtain ⟨o,V,vs,e,ex,L,_,u⟩:=R.cells id _ I;obtain ⟨N,v,x⟩:=R.cl id o;have u:ql X sz w (l.flatMap (X.cells c)) vs:=u;let w':Wd:={w with M:=λn=>w.M n/\n≠w.c id};have d:Le w w':=
  ⟨⟨zN _,λnm cs e y z A ex h B=>⟨λp=>B p.1,[],y,A,ex,by rw [zJ];exact h⟩,λ_ _=>rfl,λ_ _=>rfl,λ_ _ h=>h,
   λ_ _ _ _ h a=>(by have a:w.owns _=_:=a;rw [h] at a;cases a;exact zN _),λ_ _ _ _ _=>⟨rfl,λ_ _ _=>rfl⟩,rfl,λ_ _=>.rfl,zN _,rfl,λn q O=>⟨O,λD=>by subst D;rw [R.b] at q;omega⟩,λ_ _=>rfl⟩,λ_ h=>h,rfl⟩
 refine ⟨w',⟨R.wf,R.rob,R.g,R.nx,R.b,λn q=>R.Mlt n q.1,R.n,R.one,R.keeps,R.cl,R.cinj,λf ct' a=>?_,R.owns,R.ownn,λi s nm h q=>?_,R.einj,R.ce,R.known,λgn E a=>?_⟩,d,rfl,rfl,λown cap r P=>?_⟩
 .simp only [qfh] at a;by_cases hi:f=id
  .rw [zT hi] at a;cases a
  .rw [zF hi] at a;obtain ⟨j,t,Q⟩:=R.cells f ct' a;exact ⟨j,⟨t,λD=>hi (R.cinj f id j o D)⟩,Q.mono ok.len d (by rw [R.n];exact (R.cl f j).1)⟩
 .obtain ⟨j,t,F⟩:=R.eta i s nm h q;exact ⟨j,t,λp=>F p.1⟩
 .obtain ⟨S,G,T,fl,U,ex',j,t,F⟩:=R.globs gn E a;exact ⟨S,G,T,fl,U,ex',j,t,F.mono ok.len d⟩
 .refine qh9 ok.len (w:=w') (by show w.g _=_;rw [R.g];exact L) (zN _) (λp=>p.2 rfl) J r (u.mono ok.len d) (by omega) (λm _=>by rw [Nat.zero_add]) P
theorem qrc (ok:CfgOk X sz C) (R:RelH X sz C base st H w) {d:StV K} {i s:Nat} (B:Bump st d i s) {named:Bool} (N:named=true->∃ g,look st.owns i=some g) :
  ∃ w',RelH X sz C base d H w'/\Le w w'/\w'.owns i=some s/\w'.eta i=(if named then w.eta i else none)/\w'.n=d.next/\w'.g=w.g/\w'.M=w.M/\w'.ce=w.ce:=by
 let k:Nat->Option Nat:=λj=>if j=i then (if named then w.eta i else none) else w.eta j
 let w':Wd:={w with n:=d.next,owns:=look d.owns,eta:=k};have o:Le w w':=by
  refine ⟨⟨by rw [R.n];exact B.next,λnm cs e u v x ex h O=>⟨O,[],u,x,ex,by rw [zJ];exact h⟩,λ_ _=>rfl,λ_ _=>rfl,λj y h=>?_,λj a b y h l=>?_,λj a y h l=>?_,rfl,λ_ _=>.rfl,zN _,rfl,λ_ _ h=>h,λ_ _=>rfl⟩,λ_ h=>h,rfl⟩
  .rw [R.owns] at h;show look d.owns j=none;rw [B.owns];by_cases c:j=i
   .subst c;have:=B.fresh h;rw [R.n] at y;omega
   .rw [zF c];exact h
  .rw [R.owns] at h;have f:look d.owns j=some b:=l;rw [B.owns] at f;by_cases c:j=i
   .subst c;rw [zT rfl] at f;cases f;exact Nat.le_of_lt (B.up a h)
   .rw [zF c,h] at f;cases f;exact zN _
  .rw [R.owns] at h;have f:look d.owns j=some a:=l;rw [B.owns] at f;by_cases c:j=i
   .subst c;rw [zT rfl] at f;cases f;have:=B.up _ h;omega
   .exact ⟨zF c,λ_ _ _=>rfl⟩
 have p:∀ j a nm,look d.owns j=some a->k j=some nm->∃ z,look st.owns j=some z/\w.eta j=some nm:=by
  intro j a nm h l;rw [B.owns] at h;by_cases c:j=i
  .subst c;simp only [k,if_true] at l;cases named with
   | false=>simp at l
   | true=>
    obtain ⟨g,P⟩:=N rfl;exact ⟨g,P,by simpa using l⟩
  .rw [zF c] at h;simp only [k,zF c] at l;exact ⟨a,h,l⟩
 refine ⟨w',⟨R.wf,R.rob,R.g,R.nx,R.b,R.Mlt,rfl,zR R.one B.next,R.keeps,λid h=>?_,R.cinj,λt q l=>?_,λ_=>rfl,λj a h=>?_,λj a nm h A=>?_,λJ L Q S nm D E T U=>?_,R.ce,λid b h=>?_,λgn q l=>?_⟩,o,by show look d.owns i=some s;rw [B.owns,zT rfl],zT rfl,rfl,rfl,rfl,rfl⟩
 .obtain ⟨m,r,F⟩:=R.cl id h;exact ⟨zL m B.next,r,F⟩
 .rw [B.cells] at l;obtain ⟨m,r,V⟩:=R.cells t q l;exact ⟨m,r,V.mono ok.len o (by rw [R.n];exact (R.cl t m).1)⟩
 .rw [B.owns] at h;by_cases c:j=i
  .subst c;exact B.lt
  .rw [zF c] at h;exact zL (R.ownn j a h) B.next
 .obtain ⟨z,D,E⟩:=p j a nm h A;exact R.eta j z nm D E
 .obtain ⟨W,g1,g2⟩:=p J Q nm D T;obtain ⟨Y,Z,g4⟩:=p L S nm E U;exact R.einj J L W Y nm g1 Z g2 g4
 .rw [B.known] at h;obtain ⟨G,m,r⟩:=R.known id b h;exact ⟨G,zL m B.next,r⟩
 .obtain ⟨G,I,e',fl,fz,ex',m,r,F⟩:=R.globs gn q l;exact ⟨G,I,e',fl,fz,ex',m,r,F.mono ok.len o⟩
theorem q79 (ok:CfgOk X sz C) (R:RelH X sz C base st H w) {f:StV K} {i s g nm:Nat} (B:Bump st f i s) (G:look st.owns i=some g) (he:w.eta i=some nm) {cs cs2:List V} {e:TypeId} {gen floor r:Nat} {ex ex':Bool}
  (Y:H.get nm=some (.row cs e gen floor r ex)) :
  ∃ w',RelH X sz C base f (H.put nm (.row (cs++cs2) e (gen+1) floor r ex')) w'/\Le w w'/\w'.owns i=some s/\w'.eta i=some nm/\w'.n=f.next/\¬ w'.M nm/\w'.ce=w.ce:=by
 obtain ⟨x,O,I⟩:=R.eta i g nm G he;let H':=H.put nm (.row (cs++cs2) e (gen+1) floor r ex');let w':Wd:={w with g:=H'.get,n:=f.next,owns:=look f.owns};have l:∀ m,m≠nm->H'.get m=H.get m:=λm o=>zd o;have y:H'.get nm=some (.row (cs++cs2) e (gen+1) floor r ex'):=zo;have z:Le w w':=by
  refine ⟨⟨by rw [R.n];exact B.next,λm a0 Z J N L p h hM=>⟨hM,?_⟩,λ_ _=>rfl,λ_ _=>rfl,λj hj h=>?_,λj a b hj h t=>?_,λj a hj h t=>?_,rfl,λ_ _=>.rfl,zN _,rfl,λ_ _ h=>h,λ_ _=>rfl⟩,λm o=>?_,rfl⟩
  .by_cases o:m=nm
   .subst o;rw [R.g,Y] at h;cases h;exact ⟨cs2,_,_,_,y⟩
   .refine ⟨[],J,L,p,?_⟩;rw [zJ];show H'.get m=_;rw [l m o,<-R.g];exact h
  .rw [R.owns] at h;show look f.owns j=none;rw [B.owns];by_cases d:j=i
   .subst d;rw [h] at G;cases G
   .rw [zF d];exact h
  .rw [R.owns] at h;have k:look f.owns j=some b:=t;rw [B.owns] at k;by_cases d:j=i
   .subst d;rw [zT rfl] at k;cases k;exact Nat.le_of_lt (B.up a h)
   .rw [zF d,h] at k;cases k;exact zN _
  .rw [R.owns] at h;have k:look f.owns j=some a:=t;rw [B.owns] at k;by_cases d:j=i
   .subst d;rw [zT rfl] at k;cases k;have:=B.up _ h;omega
   .refine ⟨rfl,λm o _=>?_⟩;show H'.get m=w.g m;rw [l m (by intro A;subst A;exact d (R.einj j i a g m h G o he)),R.g]
  .show H'.get m=_;rw [R.g] at o;rw [l m (by intro A;subst A;rw [Y] at o;cases o)];exact o
 have P:∀ id ps,look st.cells id=some ps->w.c id≠nm:=by
  intro id ps h hc;have:=(R.cells id ps h).2.1;rw [hc] at this;exact I this
 have D:∀ j a,look f.owns j=some a->∃ Q,look st.owns j=some Q:=by
  intro j a h;rw [B.owns] at h;by_cases d:j=i
  .subst d;exact ⟨g,G⟩
  .rw [zF d] at h;exact ⟨a,h⟩
 refine ⟨w',⟨λn hn=>?_,R.rob,rfl,R.nx,R.b,R.Mlt,rfl,zR R.one B.next,R.keeps.put x _,λid h=>?_,R.cinj,λq u t=>?_,λ_=>rfl,λj a h=>?_,λj a m h E=>?_,λj1 j2 a1 a2 m S h2 e1 e2=>?_,R.ce,λid b h=>?_,λgn u t=>?_⟩,z,by show look f.owns i=some s;rw [B.owns,zT rfl],he,rfl,I,rfl⟩
 .have E:H.next<=n:=hn
  rw [l n (by omega)];exact R.wf n E
 .obtain ⟨v,F,T⟩:=R.cl id h;exact ⟨zL v B.next,F,T⟩
 .rw [B.cells] at t;obtain ⟨v,F,q5⟩:=R.cells q u t;refine ⟨v,F,?_⟩;show qbq X sz w' q _ (H'.get (w.c q));rw [l _ (P q u t)];exact q5.mono ok.len z (by rw [R.n];exact (R.cl q v).1)
 .rw [B.owns] at h;by_cases d:j=i
  .subst d;exact B.lt
  .rw [zF d] at h;exact zL (R.ownn j a h) B.next
 .obtain ⟨Q,S⟩:=D j a h;exact R.eta j Q m S E
 .obtain ⟨b1,g1⟩:=D j1 a1 S;obtain ⟨b2,g2⟩:=D j2 a2 h2;exact R.einj j1 j2 b1 b2 m g1 g2 e1 e2
 .rw [B.known] at h;obtain ⟨U,v,F⟩:=R.known id b h;exact ⟨U,zL v B.next,F⟩
 .obtain ⟨U,W,Z,fl,fz,p,v,F,T⟩:=R.globs gn u t;exact ⟨U,W,Z,fl,fz,p,v,F,T.mono ok.len z⟩
theorem zqh (ok:CfgOk X sz C) (R:RelH X sz C base st H w) {i g nm:Nat} (K:look st.owns i=some g) (he:w.eta i=some nm) {cs:List V} {e:TypeId} {gen floor B:Nat} {ex:Bool} (f:Nat)
  (L:H.get nm=some (.row cs e gen floor B ex)) :
  ∃ w',RelH X sz C base {st with owns:=qa1 st.owns i} (H.put nm (.row cs e gen floor f ex)) w'/\Le w w':=by
 obtain ⟨s,D,E⟩:=R.eta i g nm K he;let H':=H.put nm (.row cs e gen floor f ex);let w':Wd:={w with g:=H'.get,owns:=look (qa1 st.owns i)};have k:∀ m,m≠nm->H'.get m=H.get m:=λm l=>zd l;have t:H'.get nm=some (.row cs e gen floor f ex):=zo;have d:∀ j a,look (qa1 st.owns i) j=some a->j≠i/\look st.owns j=some a:=by
  intro j a h;rw [qfh] at h;split at h
  .cases h
  .exact ⟨by assumption,h⟩
 have u:Le w w':=by
  refine ⟨⟨zN _,λm T M y z f o h U=>⟨U,?_⟩,λ_ _=>rfl,λ_ _=>rfl,λj N h=>?_,λj a b N h r=>?_,λj a N h r=>?_,rfl,λ_ _=>.rfl,zN _,rfl,λ_ _ h=>h,λ_ _=>rfl⟩,λm l=>?_,rfl⟩
  .by_cases l:m=nm
   .subst l;rw [R.g,L] at h;cases h;exact ⟨[],_,_,_,by rw [zJ];exact t⟩
   .refine ⟨[],y,f,o,?_⟩;rw [zJ];show H'.get m=_;rw [k m l,<-R.g];exact h
  .rw [R.owns] at h;show look (qa1 st.owns i) j=none;cases W:look (qa1 st.owns i) j with
   | none=>rfl
   | some a=>rw [(d j a W).2] at h;cases h
  .rw [R.owns] at h;have:=(d j b r).2;rw [h] at this;cases this;exact zN _
  .rw [R.owns] at h;obtain ⟨F,_⟩:=d j a r;refine ⟨rfl,λm l _=>?_⟩;show H'.get m=w.g m;rw [k m (by intro v;subst v;exact F (R.einj j i a g m h K l he)),R.g]
  .show H'.get m=_;rw [R.g] at l;rw [k m (by intro v;subst v;rw [L] at l;cases l)];exact l
 have G:∀ id ps,look st.cells id=some ps->w.c id≠nm:=by
  intro id ps h Y;have:=(R.cells id ps h).2.1;rw [Y] at this;exact E this
 refine ⟨w',⟨λn Z=>?_,R.rob,rfl,R.nx,R.b,R.Mlt,R.n,R.one,R.keeps.put s _,R.cl,R.cinj,λp q r=>?_,λ_=>rfl,λj a h=>R.ownn j a (d j a h).2,λj a m h x=>R.eta j a m (d j a h).2 x,
  λO P Q S m h1 h2 e1 e2=>R.einj O P Q S m (d O Q h1).2 (d P S h2).2 e1 e2,R.ce,R.known,λgn q r=>?_⟩,u⟩
 .have x:H.next<=n:=Z
  rw [k n (by omega)];exact R.wf n x
 .obtain ⟨A,I,q5⟩:=R.cells p q r;refine ⟨A,I,?_⟩;show qbq X sz w' p _ (H'.get (w.c p));rw [k _ (G p q r)];exact q5.mono ok.len u (by rw [R.n];exact (R.cl p A).1)
 .obtain ⟨q0,J,M,fl,fz,o,A,I,q3⟩:=R.globs gn q r;exact ⟨q0,J,M,fl,fz,o,A,I,q3.mono ok.len u⟩
theorem znp (ok:CfgOk X sz C) (R:RelH X sz C base st H w) (i:Nat):∃ w',RelH X sz C base {st with owns:=qa1 st.owns i} H w'/\Le w w':=by
 have c:∀ j a,look (qa1 st.owns i) j=some a->look st.owns j=some a:=by
  intro j a h;rw [qfh] at h;split at h
  .cases h
  .exact h
 have e:Le w {w with owns:=look (qa1 st.owns i)}:=by
  refine ⟨⟨zN _,λm D v l q o d h E=>⟨E,[],l,o,d,by rw [zJ];exact h⟩,λ_ _=>rfl,λ_ _=>rfl,λj x h=>?_,λj a b x h k=>?_,λj a x h k=>⟨rfl,λ_ _ _=>rfl⟩,rfl,λ_ _=>.rfl,zN _,rfl,λ_ _ h=>h,λ_ _=>rfl⟩,λ_ h=>h,rfl⟩
  .rw [R.owns] at h;show look (qa1 st.owns i) j=none;cases F:look (qa1 st.owns i) j with
   | none=>rfl
   | some a=>rw [c j a F] at h;cases h
  .rw [R.owns] at h;have:=c j b k;rw [h] at this;cases this;exact zN _
 refine ⟨{w with owns:=look (qa1 st.owns i)},⟨R.wf,R.rob,R.g,R.nx,R.b,R.Mlt,R.n,R.one,R.keeps,R.cl,R.cinj,λp f k=>?_,λ_=>rfl,λj a h=>R.ownn j a (c j a h),λj a m h s=>R.eta j a m (c j a h) s,
  λy z A B m G I J K=>R.einj y z A B m (c y A G) (c z B I) J K,R.ce,R.known,λgn f k=>?_⟩,e⟩
 .obtain ⟨r,t,L⟩:=R.cells p f k;exact ⟨r,t,L.mono ok.len e (by rw [R.n];exact (R.cl p r).1)⟩
 .obtain ⟨M,u,v,fl,N,d,r,t,O⟩:=R.globs gn f k;exact ⟨M,u,v,fl,N,d,r,t,O.mono ok.len e⟩
theorem qmz {c:Nat} {s:PV K} {x:List (K c)} {k:PV K->StV K->Prop} (R:RelH X sz C base st H w) (p:qqt (qu X tbl inv meas) c s x st k=none) (h:qlk (qu X tbl inv meas) c s x st k) :
  ∃ l i g f,asL (qu X tbl inv meas) c s=some l/\l.length+x.length<=1000000000/\k (.list c (l++x) (some (i,g))) f/\Bump st f i g/\
   ((s=.nils/\look st.owns i=none)∨∃ m n g0,s=.list m n (some (i,g0))/\look st.owns i=some g0/\g=g0+2):=by
 unfold qlk at h;rw [p] at h;simp only at h;cases a:qd6 st s with
 | false=>rw [a] at h;exact absurd h id
 | true=>
  rw [a] at h;simp only [Bool.not_true,zQ,Bool.false_eq_true,↓reduceIte] at h;split at h
  .exact absurd h id
  .rename_i l o;split at h
   .rename_i m n i g0;have d:look st.owns i=some g0:=by
     simp only [qd6] at a;split at a
     .rename_i r d;rw [d,zE a]
     .cases a
    refine ⟨l,i,g0+2,_,o,h.1,h.2,⟨rfl,rfl,rfl,rfl,λj=>qdh,zN _,R.ownn i g0 d,λg e=>?_,λe=>?_⟩,.inr ⟨m,n,g0,rfl,d,rfl⟩⟩
    .rw [d] at e;cases e;omega
    .rw [d] at e;cases e
   .rename_i q;have d:s=.nils:=by
     cases s with
     | nils=>rfl
     | list m n own=>
      cases own with
      | none=>simp [qd6] at a
      | some x=>exact absurd rfl (q _ _ _ _)
     | _=>simp [qd6] at a
    have b:look st.owns st.next=none:=by
     cases o:look st.owns st.next with
     | none=>rfl
     | some g=>have:=R.ownn _ _ o;omega
    exact ⟨l,st.next,1,_,o,h.1,h.2,⟨rfl,rfl,rfl,rfl,λj=>qaw,Nat.le_succ _,Nat.lt_succ_self _,λg e=>(by rw [b] at e;cases e),λ_=>zN _⟩,.inl ⟨d,b⟩⟩
theorem qj0 (ok:CfgOk X sz C) (R:RelH X sz C base st H w) {c:Nat} {e:TypeId} {F:TI} (hc:C.codec e=some c) (ax:C.E.types e=some F) (ay:F.bytes<=1024) {s:PV K} {vs vx:V} {x:List (K c)} {items:List V}
  {k:PV K->StV K->Prop} (rs:Rep X sz w s vs) (u:km H F.size vx=some (x.length,items)) (I:ql X sz w (x.flatMap (X.cells c)) items) (az:qqt (qu X tbl inv meas) c s x st k=none) (h:qlk (qu X tbl inv meas) c s x st k) :
  ∃ p d v H' w',k p d/\d.tmps=st.tmps/\d.n=st.n/\kv H e F.size F.bytes vs vx=some (v,H')/\RelH X sz C base d H' w'/\Le w w'/\Rep X sz w' p v:=by
 obtain ⟨l,i,g,d,hl,S,U,B,hi⟩:=qmz R az h;have r:=ok.size e c F hc ax;have hz:=ok.pos e c hc;have rl:=qfp rs hl;have a0:items.length=x.length * sz c:=by rw [<-I.1];exact qi2 ok.len
 have a9:Nat.beq x.length 0=true->x=[]:=λh=>List.eq_nil_of_length_eq_zero (zE h);have J:∀ m,m<=1000000000->(Nat.ble (m * F.bytes) room&&Nat.ble m room)=true:=by
  intro m hm;simp only [zA,Nat.ble_eq,room];have:m * F.bytes<=1000000000 * 1024:=Nat.mul_le_mul hm ay;exact ⟨by omega,by omega⟩
 have fresh:∀ (fl:List V),Nat.beq x.length 0=false->ql X sz w ((l++x).flatMap (X.cells c)) fl->∃ p d v H' w',k p d/\d.tmps=st.tmps/\d.n=st.n/\(v,H')=(V.slice H.next 0 0 (l.length+x.length) (sz c) none,H.new (.row fl e 0 0 0 false))/\RelH X sz C base d H' w'/\Le w w'/\Rep X sz w' p v:=by
  intro fl W aa;have aN:0<x.length:=by
   cases hq:x.length with
   | zero=>rw [hq] at W;cases W
   | succ n=>omega
  obtain ⟨w',P,f,ow,et,hM,hn⟩:=qkn (named:=true) ok R B (row:=.row fl e 0 0 0 false);refine ⟨_,_,_,_,w',U,B.tmps,B.n,rfl,P,f,?_⟩;have Q:w'.g H.next=some (.row fl e 0 0 0 false):=by rw [P.g];exact zl
  have t:(l++x).length=l.length+x.length:=List.length_append;rw [<-t];refine qh9 ok.len Q (zN _) hM hz (λk U=>(by cases U)) (aa.mono ok.len f) (by omega) (λm _=>by rw [Nat.zero_add]) ⟨by rw [hn];exact B.lt,λa1 b=>(by rw [ow] at b;cases b;exact zN _),λ_=>.inr ⟨rfl,et,fl,e,0,0,false,Q,?_,Nat.zero_le _,?_⟩,λ_=>⟨rfl,rfl,by rw [t];omega⟩⟩
  .rw [Nat.zero_add,<-aa.1];exact (qi2 ok.len).symm
  .exact ⟨by rw [P.ce];exact hc,.inr rfl⟩
 rcases jv rl with ⟨rfl,rfl⟩ | ⟨nm,gn,off,z,cap,cs,e',aO,o,a2,ex,rfl,Q,hf,hM,t,aA,ab,a3,_⟩
 .
  cases G:Nat.beq x.length 0 with
  | true=>
   have a4:=a9 G;subst a4;obtain ⟨w',P,f,ow,et,hn,_,_,_⟩:=qrc (named:=false) ok R B (λh=>by cases h);refine ⟨_,_,.nils,H,w',U,B.tmps,B.n,?_,P,f,?_⟩
   .simp only [kv,V.qb2,jt,u,zB,G,zO,↓reduceIte]
   .rw [zJ];exact .nlist ⟨by rw [hn];exact B.lt,λa1 b=>(by rw [ow] at b;cases b;exact zN _),λ_=>trivial,λ_=>trivial⟩
  | false=>
   obtain ⟨p,L,v,H',w',h1,h2,h3,h4,h5,h6,h7⟩:=fresh items G (by rw [List.nil_append];exact I);cases h4;refine ⟨p,L,_,_,w',h1,h2,h3,?_,h5,h6,h7⟩;have hr:=J x.length (by omega);rw [r] at u;simp only [kv,V.qb2,jt,r,u,zB,G,zQ,Bool.false_eq_true,↓reduceIte,hr,zO,↓reduceIte,List.length_nil,Nat.zero_add]
 .have ad:Nat.beq F.size (sz c)=true:=by rw [r];exact Nat.beq_refl _
  have M:V.qb2 (sz c) (.slice nm gn off l.length z cap)=.slice nm gn off l.length (sz c) cap:=qut aA;have ae:V.qb2 F.size (.slice nm gn off l.length z cap)=.slice nm gn off l.length (sz c) cap:=by rw [r];exact M
  have af:∃ A l' g0,s=.list A l' (some (i,g0))/\look st.owns i=some g0/\g=g0+2:=by
   rcases hi with ⟨rfl,_⟩ | hi
   .cases rs
   .exact hi
  obtain ⟨A,l',g0,rfl,T,aK⟩:=af;have aB:A=c:=by
   unfold asL at hl;simp only at hl;split at hl
   .assumption
   .cases hl
  subst aB;have a5:g % 2=1->NB (.slice nm gn off l.length z cap):=by
   intro aL;rcases jv rs with ⟨_,hh⟩ | ⟨nm',aC,ag,z',ah,ai,e2,aj,D,Y,ex',hh,_,_,_,_,_,_,_,ho⟩
   .cases hh
   .rw [hh];exact ho.2.2.2 (by omega)
  have q:q2a w sz i A (.slice nm gn off l.length z cap):=by
   rcases jv rs with ⟨_,hh⟩ | ⟨nm',aC,ag,z',ah,ai,e2,aj,D,Y,ex',hh,_,_,_,_,_,_,_,ho⟩
   .cases hh
   .rw [hh];exact ho.2.2.1 (by rw [R.owns];exact T)
  cases G:Nat.beq x.length 0 with
  | true=>
   have a4:=a9 G;subst a4;obtain ⟨w',P,f,ow,et,hn,ak,aD,a6⟩:=qrc (named:=true) ok R B (λ_=>⟨g0,T⟩);refine ⟨_,_,.slice nm gn off l.length (sz A) cap,H,w',U,B.tmps,B.n,?_,P,f,?_⟩
   .simp only [kv,ae,jt,u,zB,ad,Bool.not_true,zQ,Bool.false_eq_true,↓reduceIte,G,zO,↓reduceIte]
   .rw [zJ];refine .list (by rw [ak];exact Q) hf (by rw [aD];exact hM) rfl t ⟨hz,.inl rfl⟩ ab (λi' aE j p hp=>(a3 i' aE j p hp).mono ok.len f) ⟨by rw [hn];exact B.lt,λa1 b=>(by rw [ow] at b;cases b;exact zN _),λ_=>?_,a5⟩;simp only [q2a] at q ⊢;rw [et,ak,a6];exact q
  | false=>
   have hr:=J (l.length+x.length) S;have Z:items.all V.jg=true:=I.qsu (q5m ok);rw [R.g] at Q;obtain ⟨old,a,N⟩:=qhg ok.len R.g rl hz;rw [<-q48,M] at a;rcases q with y | ⟨y,al,ai,e2,D,Y,ex',an,ao,aq,a6,aF⟩
   .subst y;have ar:Nat.ble (l.length+x.length) l.length=false:=by
     rw [<-Bool.not_eq_true,Nat.ble_eq];have:x.length≠0:=by intro h0;rw [h0] at G;simp at G
     omega
    obtain ⟨p,L,v,H',w',h1,h2,h3,h4,h5,h6,h7⟩:=fresh (old++items) G (by rw [List.flatMap_append];exact N.append I);cases h4;refine ⟨p,L,_,_,w',h1,h2,h3,?_,h5,h6,h7⟩;have aG:Nat.beq (sz A) (sz A)=true:=Nat.beq_refl _;rw [r] at u;simp only [kv,r,M,jt,u,zB,aG,Bool.not_true,zQ,Bool.false_eq_true,↓reduceIte,G,hr,Z,Q,ar,a,zH]
   .subst y;rw [R.g,Q] at an;cases an;have aH:e'=e:=ok.inj e' e A (by rw [<-R.ce];exact a6) hc;subst aH;obtain ⟨a7,aI,aP⟩:=R.eta i g0 nm T al;have a8:H.ro<=nm:=by rw [R.keeps.ro];exact zR R.rob.1 a7
    have au:(Nat.beq gn gn&&Nat.beq (off+l.length * F.size) cs.length&&Nat.ble a2 cs.length&&Nat.ble o gn&&!Nat.beq F.size 0&&Nat.beq e' e')=true:=by
     simp only [zA,Nat.ble_eq,Nat.beq_refl,r];refine ⟨⟨⟨⟨⟨trivial,?_⟩,aq⟩,hf⟩,?_⟩,trivial⟩
     .rw [ao];exact Nat.beq_refl _
     .have:Nat.beq (sz A) 0=false:=by rw [<-Bool.not_eq_true,Nat.beq_eq];omega
      rw [this];rfl
    obtain ⟨w',P,f,ow,et,hn,aJ,av⟩:=q79 (cs2:=items) (ex':=false) ok R B T al Q;refine ⟨_,_,.slice nm (gn+1) off (l.length+x.length) (sz A) none,_,w',U,B.tmps,B.n,?_,P,f,?_⟩
    .simp only [kv,ae,jt,u,zB,ad,Bool.not_true,zQ,Bool.false_eq_true,↓reduceIte,G,hr,Z,Q,au,zO,↓reduceIte,kq a8,zH];rw [r]
    .have aw:w'.g nm=some (.row (cs++items) e' (gn+1) o a2 false):=by rw [P.g];exact zo
     have O:(l++x).length=l.length+x.length:=List.length_append;rw [<-O];have a8:ql X sz w' ((l++x).flatMap (X.cells A)) (old++items):=by
      rw [List.flatMap_append];exact (N.append I).mono ok.len f
     have hold:old=cs.drop off:=by
      have b1:Nat.ble o gn=true:=by rw [Nat.ble_eq];exact hf
      have b2:Nat.ble (off+l.length * sz A) (off+l.length * sz A)=true:=by rw [Nat.ble_eq];exact zN _
      have b3:Nat.ble (off+l.length * sz A) cs.length=true:=by rw [Nat.ble_eq];exact t
      simp only [km,V.qg4,qcj,Nat.beq_refl,zO,↓reduceIte,zq,Q,b1,b2,b3,Bool.and_self,zM,zP] at a;obtain ⟨_,a,_,rfl⟩:=a;obtain ⟨rfl,_⟩:=qss a;rw [List.take_of_length_le];rw [List.length_drop];omega
     refine qh9 ok.len aw (Nat.le_succ_of_le hf) aJ hz (λk U=>(by cases U)) a8 ?_ (λm hm=>?_) ⟨by rw [hn];exact B.lt,λa1 b=>(by rw [ow] at b;cases b;exact zN _),λ_=>.inr ⟨rfl,et,cs++items,e',o,a2,false,aw,?_,?_,?_⟩,λh=>⟨rfl,(a5 h).2.1,by rw [O];have:=(a5 h).2.2;omega⟩⟩
     .rw [hold,List.length_append,List.length_append,List.length_drop];omega
     .have aM:off<=cs.length:=by omega
      have:cs++items=cs.take off++(cs.drop off++items):=by rw [<-List.append_assoc,List.take_append_drop]
      rw [this,hold,List.getD_eq_getElem?_getD,List.getD_eq_getElem?_getD,List.getElem?_append_right (by rw [List.length_take];omega)];congr 2;rw [List.length_take];omega
     .rw [List.length_append,List.length_append,Nat.add_mul,a0];omega
     .rw [List.length_append];omega
     .exact ⟨by rw [av,R.ce];exact hc,aF⟩
theorem q4u (ok:CfgOk X sz C) (R:RelH X sz C base st H w) {c:Nat} {e:TypeId} {D:TI} (hc:C.codec e=some c) (a0:C.E.types e=some D) (a1:D.bytes<=1024) {s:PV K} {vs vx:V} {x:List (K c)} {items:List V}
  {k:PV K->StV K->Prop} {r:Prop} (rs:Rep X sz w s vs) (j:km H D.size vx=some (x.length,items)) (J:ql X sz w (x.flatMap (X.cells c)) items) (S:qqt (qu X tbl inv meas) c s x st k=some r) (h:r) :
  ∃ p z v H' w',k p z/\z.tmps=st.tmps/\z.n=st.n/\kv H e D.size D.bytes vs vx=some (v,H')/\RelH X sz C base z H' w'/\Le w w'/\Rep X sz w' p v:=by
 have o:=ok.size e c D hc a0;have Q:=ok.pos e c hc;have q:∀ m,m<=1000000000->(Nat.ble (m * D.bytes) room&&Nat.ble m room)=true:=by
  intro m hm;simp only [zA,Nat.ble_eq,room];have:m * D.bytes<=1000000000 * 1024:=Nat.mul_le_mul hm a1;exact ⟨by omega,by omega⟩
 have F:items.all V.jg=true:=J.qsu (q5m ok);have A:Nat.beq (sz c) (sz c)=true:=Nat.beq_refl _;rw [o] at j;unfold qqt at S;split at S
 .rename_i es a4;cases S;obtain ⟨a,t,L⟩:=h;have a:([]:List (K c)).length+x.length<=1000000000:=a;simp only [List.length_nil,Nat.zero_add] at a;cases rs with
  | @plist _ _ _ _ nm gn d cs e' a5 a2 a6 ex hg hf hM h0 h1 h2 B=>
   have Z:Rep X sz w (.list c ([]:List (K c)) none) (.slice nm gn d 0 (sz c) (some 0)):=
    .list hg hf hM rfl (by omega) ⟨Q,.inl rfl⟩ (λk hk=>by cases hk;exact zN _) (λi hi=>by cases hi) trivial
   have u:V.qb2 (sz c) (.slice nm gn d 0 es (some 0))=.slice nm gn d 0 (sz c) (some 0):=rfl;by_cases T:x.length=0
   .refine ⟨_,_,.slice nm gn d 0 (sz c) (some 0),H,w,L (by show (x.length:Int)<=0;omega),rfl,rfl,?_,R,.refl w,Z⟩;have b:Nat.beq x.length 0=true:=by rw [T];rfl
    simp only [kv,o,u,jt,j,zB,A,Bool.not_true,zQ,Bool.false_eq_true,↓reduceIte,b,zO,↓reduceIte]
   .have b:Nat.beq x.length 0=false:=by rw [<-Bool.not_eq_true,Nat.beq_eq];exact T
    obtain ⟨old,M,N⟩:=qhg ok.len R.g Z Q;have U:old=[]:=by
     have:=N.1;simp only [List.flatMap_nil,List.length_nil] at this;exact List.eq_nil_of_length_eq_zero this.symm
    subst U;obtain ⟨w',R',O,y,P⟩:=qoe ok R (ct:=.ml c x) rfl (e:=e) trivial (vs:=items) J;refine ⟨_,_,.slice H.next 0 0 x.length (sz c) none,_,w',t (by show (1:Int)<=(x.length:Int);omega),rfl,rfl,?_,R',O,?_⟩
    .have hr:=q x.length a;have f:Nat.ble (0+x.length) 0=false:=by rw [<-Bool.not_eq_true,Nat.ble_eq];omega
     rw [R.g] at hg;rw [Nat.zero_add] at f;simp only [kv,o,zO,↓reduceIte,u,jt,j,zB,A,Bool.not_true,zQ,Bool.false_eq_true,↓reduceIte,b,Nat.zero_add,hr,F,hg,f,M,zH,List.nil_append,List.length_nil]
    .have:=Rep.mlist (X:=X) (sz:=sz) (w:=w') (id:=st.next) (c:=c) (fx:=false) (n:=((x.length:Nat):Int)) P (Int.natCast_nonneg _) Q;rw [y,Int.toNat_natCast] at this;exact this
 .rename_i id G n;cases S;split at h
  .rename_i l hl;have hl:=qfv hl;cases B:Nat.beq G c with
   | false=>rw [B] at h;exact h.elim
   | true=>
    rw [B] at h;have:=zE B;subst this;obtain ⟨hn,a,t,L⟩:=h;have hn:n=(l.length:Int):=hn;have a:l.length+x.length<=1000000000:=a;subst hn;have W:=rs;cases rs with
    | mlist hi h0 a7=>
     have u:V.qb2 (sz G) (.slice (w.c id) 0 0 l.length (sz G) (some l.length))=.slice (w.c id) 0 0 l.length (sz G) (some l.length):=V.qg4;by_cases T:x.length=0
     .refine ⟨_,_,.slice (w.c id) 0 0 l.length (sz G) (some l.length),H,w,L (by show (x.length:Int)<=0;omega),rfl,rfl,?_,R,.refl w,?_⟩
      .have b:Nat.beq x.length 0=true:=by rw [T];rfl
       simp only [kv,o,Int.toNat_natCast,zO,↓reduceIte,u,jt,j,zB,A,Bool.not_true,zQ,Bool.false_eq_true,↓reduceIte,b]
      .rw [Int.toNat_natCast] at W;exact W
     .have b:Nat.beq x.length 0=false:=by rw [<-Bool.not_eq_true,Nat.beq_eq];exact T
      obtain ⟨a8,a9,aa,e0,ab,a3,_,_⟩:=R.cells id _ hl;obtain ⟨w1,R1,I,ad,ae,Y⟩:=qr5 ok R hl Q;have Z:=Y none (some l.length) (λk hk=>by cases hk;exact zN _) trivial;obtain ⟨old,M,N⟩:=qhg ok.len R1.g Z Q;obtain ⟨w',R',O,y,P⟩:=qoe ok R1 (ct:=.ml G (l++x)) rfl (e:=e) trivial (vs:=old++items) (by show ql X sz w1 ((l++x).flatMap _) _;rw [List.flatMap_append];exact N.append (J.mono ok.len I));refine ⟨_,_,.slice H.next 0 0 (l.length+x.length) (sz G) none,_,w',t (by show (1:Int)<=(x.length:Int);omega),rfl,rfl,?_,R',I.trans O,?_⟩
      .have hr:=q (l.length+x.length) a;have f:Nat.ble (l.length+x.length) l.length=false:=by rw [<-Bool.not_eq_true,Nat.ble_eq];omega
       simp only [kv,o,Int.toNat_natCast,zO,↓reduceIte,u,jt,j,zB,A,Bool.not_true,zQ,Bool.false_eq_true,↓reduceIte,b,hr,F,a3,f,M,zH]
      .have:=Rep.mlist (X:=X) (sz:=sz) (w:=w') (id:=st.next) (c:=G) (fx:=false) (n:=(((l++x).length:Nat):Int)) P (Int.natCast_nonneg _) Q;have y:w'.c st.next=H.next:=y
       rw [y,Int.toNat_natCast] at this;rw [<-List.length_append];exact this
  .exact h.elim
 .cases S
theorem qu3 {C:ZC K} {o d:Operand} {c:Nat} {s:PV K} {x:List (K c)} {k:PV K->StV K->Prop} (a:qqs (qu X tbl inv meas) C st o d=false) (e:jj (qu X tbl inv meas) C st o=some s):qqt (qu X tbl inv meas) c s x st k=none∨∃ b cs,s=.plist b 0 true cs:=by
 unfold qqs at a;rw [e] at a;cases s with
 | plist b n fx cs=>
  cases n with
  | zero=>cases fx with
   | true=>exact .inr ⟨_,_,rfl⟩
   | false=>cases a
  | succ n=>cases a
 | _=>first | exact .inl rfl | cases a
theorem qd8 (ok:CfgOk X sz C) (R:RelH X sz C base st H w) {c:Nat} {e:TypeId} {d:TI} (l:C.codec e=some c) (f:C.E.types e=some d) (g:d.bytes<=1024) {s:PV K} {vs m:V} {x:List (K c)} {items:List V}
  {k:PV K->StV K->Prop} (rs:Rep X sz w s vs) (i:km H d.size m=some (x.length,items)) (j:ql X sz w (x.flatMap (X.cells c)) items) (h:qlk (qu X tbl inv meas) c s x st k) :
  ∃ p a v H' w',k p a/\a.tmps=st.tmps/\a.n=st.n/\kv H e d.size d.bytes vs m=some (v,H')/\RelH X sz C base a H' w'/\Le w w'/\Rep X sz w' p v:=by
 cases b:qqt (qu X tbl inv meas) c s x st k with
 | none=>exact qj0 ok R l f g rs i j b h
 | some r=>
  unfold qlk at h;rw [b] at h;exact q4u ok R l f g rs i j b h
theorem qrz (c:w.g=H.get) {es n:Nat} {fx:Bool} {ps:List (PV K)} {v:V} (r:Rep X sz w (.plist es n fx ps) v):∃ cs,km H es v=some (n,cs)/\ql X sz w ps cs:=by
 cases r with
 | @plist _ _ _ _ nm gn d cs e i b k ex f l t u x y m=>
  rw [c] at f;have o:Nat.ble b gn=true:=by rw [Nat.ble_eq];exact l
  have q:Nat.ble (d+n * es) (d+n * es)=true:=by rw [Nat.ble_eq];exact zN _
  have s:Nat.ble (d+n * es) cs.length=true:=by rw [Nat.ble_eq];omega
  have a:ql X sz w ps ((cs.drop d).take (n * es)):=by
   refine ⟨by rw [List.length_take,List.length_drop];omega,λj p h=>?_⟩;have z:=(List.getElem?_eq_some_iff.1 h).1;have:=m j p h;rw [List.getD_eq_getElem?_getD,List.getElem?_take,zT (by omega),List.getElem?_drop,<-List.getD_eq_getElem?_getD];exact this
  exact ⟨_,by simp only [km,V.qg4,qcj,Nat.beq_refl,zO,zq,f,o,q,s,Bool.and_self,qhl a.qyi,zH],a⟩
theorem qyp (ok:CfgOk X sz C) (R:RelH X sz C base st H w) {e:TypeId} {a:TI} (s:a.bytes<=1024) {n m:Nat} {fx:Bool} {cs c:List (PV K)} {vs F:V} (rs:Rep X sz w (.plist a.size n true cs) vs) (rx:Rep X sz w (.plist a.size m fx c) F)
  (hm:0<m) (t:n+m<=100000) (i:c.all qae=true) :
  ∃ v H' w',kv H e a.size a.bytes vs F=some (v,H')/\RelH X sz C base {st with owns:=(st.next,0)::st.owns,next:=st.next+1} H' w'/\Le w w'/\Rep X sz w' (.plist a.size (n+m) false (cs++c)) v:=by
 obtain ⟨old,k,u⟩:=qrz R.g rs;obtain ⟨b,x,l⟩:=qrz R.g rx;have I:Bump st {st with owns:=(st.next,0)::st.owns,next:=st.next+1} st.next 0:=by
  have h:look st.owns st.next=none:=by
   cases J:look st.owns st.next with
   | none=>rfl
   | some g=>have:=R.ownn _ _ J;omega
  exact ⟨rfl,rfl,rfl,rfl,λj=>qaw,Nat.le_succ _,Nat.lt_succ_self _,λg o=>(by rw [h] at o;cases o),λ_=>zN _⟩
 obtain ⟨w',G,q,U,W,y,Y⟩:=qkn (named:=false) ok R I (row:=.row (old++b) e 0 0 0 false);have z:w'.g H.next=some (.row (old++b) e 0 0 0 false):=by rw [G.g];exact zl
 have f:=(u.append l).mono ok.len q;cases rs with
 | @plist _ _ _ _ nm gn d L Z M A N ex o hf hM O P h2 hc=>
  have B:c.length=m * a.size:=by
   cases rx with
   | plist _ _ _ _ Q _ _=>exact Q
  refine ⟨.slice H.next 0 0 (n+m) a.size none,_,w',?_,G,q,.plist z (zN _) y O (by rw [List.length_append,P,B,Nat.add_mul]) (by rw [<-f.1];omega) (λj p S=>by rw [Nat.zero_add];exact f.2 j p S)⟩;rw [R.g] at o;have D:Nat.beq m 0=false:=by rw [<-Bool.not_eq_true,Nat.beq_eq];omega
  have T:(Nat.ble ((n+m) * a.bytes) room&&Nat.ble (n+m) room)=true:=by
   simp only [zA,Nat.ble_eq,room];have:(n+m) * a.bytes<=100000 * 1024:=Nat.mul_le_mul t s;exact ⟨by omega,by omega⟩
  have r:Nat.ble (n+m) n=false:=by rw [<-Bool.not_eq_true,Nat.ble_eq];omega
  have E:Nat.beq a.size a.size=true:=Nat.beq_refl _;simp only [zO,↓reduceIte] at k ⊢;simp only [kv,V.qg4,jt,x,zB,E,Bool.not_true,zQ,Bool.false_eq_true,↓reduceIte,D,T,l.qsu i,o,r,k,zH]
end
end Go.E3
/- E3: NEW VARIABLES AND LISTS as operations; CONTRACTS of functions. -/
namespace Go.E3
open Go Go.E2
variable {K:Nat->Type}
section
variable {X:Codecs K} {sz:Nat->Nat} {C:ZC K} {base H:Heap} {st:StV K} {fr:Fr} {w:Wd}
variable {tbl:Tbl K} {inv:Nat->List (NV K)->Prop} {meas:Nat->List (NV K)->Nat}
theorem qrm {l:List Prop} {p:Prop} (h:zbv (qu X tbl inv meas) l p):(∀ q ∈ l,q)/\p:=by
 induction l with
 | nil=>exact ⟨λq b=>(by cases b),h⟩
 | cons a l c=>
  obtain ⟨d,e⟩:=h;obtain ⟨f,g⟩:=c e;refine ⟨λq b=>?_,g⟩;rcases zD.1 b with rfl | b
  .exact d
  .exact f q b
theorem qrs (ok:CfgOk X sz C) {c:Nat}:∀ {n:Nat} {ps:List (PV K)} {us:List V} {r:List Prop×List (K c)},ql X sz w ps us->q53 (qu X tbl inv meas) c (chunks (sz c) n ps)=some r->(∀ q ∈ r.1,q)->
  ql X sz w (r.2.flatMap (X.cells c)) (us.take (n * sz c))/\r.2.length=n
 | 0,ps,us,r,_,h,_=>by
  simp only [chunks,q53,zS] at h;subst h;simp only [List.flatMap_nil,Nat.zero_mul,List.take_zero];exact ⟨.nil,rfl⟩
 | n+1,ps,us,r,f,h,g=>by
  simp only [chunks,q53] at h;obtain ⟨a,i,j⟩:=zI.1 h;obtain ⟨rs,k,l⟩:=zM.1 j;subst l;have m:=ok.pack c _ a.1 a.2 i (g a.1 zC) w _ (f.take (sz c));obtain ⟨b,d⟩:=qrs ok (f.drop (sz c)) k (λq e=>g q (zG _ e));refine ⟨?_,by simp only [List.length_cons,d]⟩;simp only [List.flatMap_cons];have o:us.take ((n+1) * sz c)=us.take (sz c)++(us.drop (sz c)).take (n * sz c):=by
   rw [Nat.add_mul,Nat.one_mul,Nat.add_comm,List.take_add]
  rw [o];exact m.append b
theorem qko {ps:List (PV K)} {vs:List V} (h:ql X sz w ps vs):∀ n,ql X sz w (List.replicate n ps).flatten (List.replicate n vs).flatten
 | 0=>by simpa using ql.nil
 | n+1=>by
  rw [List.replicate_succ,List.replicate_succ,List.flatten_cons,List.flatten_cons];exact h.append (qko h n)
def zuz (X:Codecs K) (sz:Nat->Nat) (C:ZC K) (base H:Heap) (st:StV K) (w:Wd) (o:Oper) (fr:Fr) (k:PV K->StV K->Prop):Prop:=
 ∃ p a v row w',k p a/\a.tmps=st.tmps/\a.n=st.n/\RelH X sz C base a (H.new row) w'/\Le w w'/\Rep X sz w' p v/\
  ∀ fr' H',H'.next=H.next->(∀ x ∈ o.op.operands.toList,opd fr' H' x=opd fr H x)->zb C.E o fr' H'=some (.val v,H'.new row)
def qof (op:Op):Bool:=
 match op with
 | .alloc _ | .box .. | .buildSlice .. | .makeSlice .. | .makeMap .. | .range ..=>true
 | _=>false
theorem q5g (ok:CfgOk X sz C) (R:Rel X sz C base st fr H w) {inl:ZI K} {o:Oper} {k:PV K->StV K->Prop} (hp:qof o.op=true)
  (h:qba (qu X tbl inv meas) C inl o st k):zuz X sz C base H st w o fr k:=by
 cases f:o.op with
 | alloc e=>
  simp only [qba,f] at h;obtain ⟨ti,l,u⟩:=qf h;obtain ⟨cs,ae,B⟩:=qf u;obtain ⟨w',D,a,r⟩:=qqg ok R.h (e:=e) (qe5 (X:=X) (sz:=sz) (w:=w) ae);refine ⟨_,_,_,_,w',B,rfl,rfl,D,a,r,λfr' H' M b=>?_⟩;simp only [zb,f,l,zH,M];rfl
 | box e x=>
  simp only [qba,f] at h;obtain ⟨p,V,u⟩:=qf h;obtain ⟨v,ev,rv⟩:=qo R V;cases J:p.cellsOf.all qae with
  | false=>rw [J] at u;exact absurd u id
  | true=>
   rw [J] at u;simp only [zO,↓reduceIte] at u;obtain ⟨w',D,a,r⟩:=qqg ok R.h (e:=e) rv.cells;refine ⟨_,_,_,_,w',u,rfl,rfl,D,a,r,λfr' H' M b=>?_⟩;have N:=(b x (by simp [f,Op.operands])).trans ev;simp only [zb,f,N,zB,M];rfl
 | buildSlice t len parts=>
  simp only [qba,f] at h;obtain ⟨ti,l,u⟩:=qf h;obtain ⟨ps,af,B⟩:=qf u;obtain ⟨vs,ev,rv⟩:=qcc R af;split at B
  .rename_i e W;obtain ⟨d,F,T⟩:=qf B;obtain ⟨z,hz,O⟩:=qf T;cases J:Nat.ble (len * d.size) 16777216 with
   | false=>rw [J] at O;exact absurd O id
   | true=>
    rw [J] at O;simp only [zO,↓reduceIte] at O;obtain ⟨cells,hf,A⟩:=qf O;have rz:=qko (qe5 (X:=X) (sz:=sz) (w:=w) hz) len;obtain ⟨us,ag,P⟩:=qjr (parts:=(parts.toList.map (·.1)).zip ps) (vparts:=(parts.toList.map (·.1)).zip vs) (zip_fst rv.1) (q4h rv) rz hf;have hB:Bump st {st with owns:=(st.next,0)::st.owns,next:=st.next+1} st.next 0:=by
     have Y:look st.owns st.next=none:=by
      cases hl:look st.owns st.next with
      | none=>rfl
      | some g=>have:=R.h.ownn _ _ hl;omega
     exact ⟨rfl,rfl,rfl,rfl,λj=>qaw,Nat.le_succ _,Nat.lt_succ_self _,λg hg=>(by rw [Y] at hg;cases hg),λ_=>zN _⟩
    obtain ⟨w',D,a,ow,et,hM,M⟩:=qkn (named:=false) ok R.h hB (row:=.row us e 0 0 0 true);have hg:w'.g H.next=some (.row us e 0 0 0 true):=by rw [D.g];exact zl
    have Z:∀ (fr':Fr) (H':Heap),H'.next=H.next->(∀ x ∈ o.op.operands.toList,opd fr' H' x=opd fr H x)->zb C.E o fr' H'=some (.val (.slice H.next 0 0 len d.size (some len)),H'.new (.row us e 0 0 0 true)):=by
     intro fr' H' a0 b;have N:qay fr' H' (parts.toList.map (·.2))=some vs:=by
      rw [qfw λx hx=>b x ?_]
      .exact ev
      .simpa [f,Op.operands] using hx
     simp only [zb,f,l,N,zB,W,F,J,zO,↓reduceIte,ag,zH,a0];rfl
    split at A
    .rename_i c Q;have hc:C.codec e=some c:=by
      cases a6:(C.born t&&Nat.beq len 0) with
      | true=>rw [a6] at Q;cases Q
      | false=>rw [a6] at Q;exact Q
     obtain ⟨r,hm,h7⟩:=qf A;obtain ⟨hq,L⟩:=qrm h7;have G:=ok.size e c d hc F;have U:=ok.pos e c hc;rw [G] at hm;obtain ⟨S,I⟩:=qrs ok P hm hq;have al:len * sz c<=us.length:=by
      have:=S.1;rw [qi2 ok.len,I,List.length_take] at this;omega
     cases a7:C.born t with
     | true=>
      rw [a7] at L;simp only [zO,↓reduceIte] at L;cases a1:Nat.beq cells.length (len * d.size) with
      | false=>rw [a1] at L;exact absurd L id
      | true=>
      rw [a1] at L;simp only [zO,↓reduceIte] at L;have a2:=zE a1;have a3:us.take (len * sz c)=us:=List.take_of_length_le (by rw [<-P.1,a2,G];exact zN _);rw [a3] at S;obtain ⟨w2,R2,a8,a4,ah⟩:=qkm ok R.h (ct:=.ml c r.2) (hlp:=rfl) (hty:=trivial) (vs:=us) (e:=e) S;refine ⟨_,_,.slice H.next 0 0 len d.size (some len),.row us e 0 0 0 true,w2,L,rfl,rfl,R2,a8,?_,Z⟩;have:=Rep.mlist (X:=X) (sz:=sz) (w:=w2) (id:=st.next) (c:=c) (fx:=true) (n:=(len:Int)) ah (Int.natCast_nonneg _) U;rw [a4,Int.toNat_natCast,<-G] at this;exact this
     | false=>
     rw [a7] at L;simp only [zQ,Bool.false_eq_true,↓reduceIte] at L;refine ⟨_,_,.slice H.next 0 0 len d.size (some len),.row us e 0 0 0 true,w',L,rfl,rfl,D,a,?_,Z⟩;rw [G];have:=qh9 (own:=some (st.next,0)) (cap:=some len) (off:=0) (gn:=0) ok.len hg (zN _) hM U (λk hk=>by cases hk;omega) (S.mono ok.len a) (by rw [List.length_take];omega)
      (λm hm=>by
        rw [List.length_take] at hm;rw [Nat.zero_add,List.getD_eq_getElem?_getD,List.getD_eq_getElem?_getD,List.getElem?_take,zT (by omega)])
      ⟨by rw [M];exact Nat.lt_succ_self _,λan a9=>(by rw [ow] at a9;cases a9;exact zN _),λ_=>.inl (by rw [I]),λh=>by cases h⟩
     rw [I] at this;exact this
    .cases hq:(Nat.blt 0 d.size&&Nat.beq cells.length (len * d.size)) with
     | false=>rw [hq] at A;exact absurd A id
     | true=>
      rw [hq] at A;simp only [zO,↓reduceIte] at A;simp only [zA] at hq;have q1:0<d.size:=Nat.le_of_ble_eq_true hq.1;have q2:=zE hq.2;refine ⟨_,_,.slice H.next 0 0 len d.size (some len),.row us e 0 0 0 true,w',A,rfl,rfl,D,a,.plist hg (zN _) hM q1 q2 (by rw [P.1];omega) (λj p hp=>?_),Z⟩;rw [Nat.zero_add];exact (P.2 j p hp).mono ok.len a
  .exact absurd B id
 | makeSlice t x y=>
  simp only [qba,f] at h;obtain ⟨ti,l,u⟩:=qf h;obtain ⟨p,ai,B⟩:=qf u;obtain ⟨q,aj,T⟩:=qf B;obtain ⟨vl,el,rl⟩:=qo R ai;obtain ⟨vm,em,rm⟩:=qo R aj;unfold zlp at T;split at T
  .rename_i e _ n _ n' W;obtain ⟨c,hc,O⟩:=qf T;obtain ⟨d,F,A⟩:=qf O;have N:=qsg rl _ _ _ rfl;have e2:=qsg rm _ _ _ rfl;subst N;subst e2;cases J:(Nat.ble d.bytes 1024&&!Nat.beq d.size 0) with
   | false=>rw [J] at A;exact absurd A id
   | true=>
    rw [J] at A;simp only [zO,↓reduceIte] at A;simp only [zA,Nat.ble_eq] at J;obtain ⟨z,hz,h6⟩:=qf A;obtain ⟨r,hr,a5,hw,aa,hk⟩:=qf h6;have a5:n=n':=a5;subst a5;have hw:0<=n/\n<(1000000000:Int):=hw;have G:=ok.size e c d hc F;have rz:=ok.pack c _ r.1 r.2 hr aa w _ (qe5 (X:=X) (sz:=sz) (w:=w) hz);have ab:=qko rz n.toNat
    obtain ⟨w',D,a,a4,a0⟩:=qkm ok R.h (ct:=.ml c (List.replicate n.toNat r.2)) (hlp:=rfl) (hty:=trivial) (vs:=(List.replicate n.toNat d.zero.cells).flatten) (e:=e) (by show ql X sz w (List.flatMap _ _) _;rw [List.flatMap_replicate];exact ab);refine ⟨_,_,.slice H.next 0 0 n.toNat d.size (some n.toNat),_,w',hk,rfl,rfl,D,a,?_,λfr' H' ak b=>?_⟩
    .have:=Rep.mlist (X:=X) (sz:=sz) (w:=w') (id:=st.next) (c:=c) (fx:=true) (n:=n) a0 hw.1 (ok.pos e c hc);rw [a4,<-G] at this;exact this
    .have N:=(b x (by simp [f,Op.operands])).trans el;have e2:=(b y (by simp [f,Op.operands])).trans em;have ad:0<=n/\n<=n/\n * (d.bytes:Int)<=281474976710656/\n<=281474976710656:=by
      refine ⟨hw.1,zK _,?_,by omega⟩;have:n * (d.bytes:Int)<=1000000000 * 1024:=by
       apply Int.mul_le_mul (by omega) (by omega) (by omega) (by omega)
      omega
     simp only [zb,f,l,N,e2,zB,W,F,zT ad,ak];rfl
  .exact absurd T id
 | makeMap t x=>
  cases x with
  | some x=>simp only [qba,f] at h;exact h.elim
  | none=>
   simp only [qba,f] at h;obtain ⟨ti,l,u⟩:=qf h;split at u
   .rename_i kt et W;obtain ⟨ki,ao,B⟩:=qf u;obtain ⟨d,F,T⟩:=qf B;obtain ⟨c,hc,O⟩:=qf T;obtain ⟨lf,aq,A⟩:=qf O;obtain ⟨w',D,a,h6,h7⟩:=qee ok R.h (ct:=.mp c lf d.isAgg []) (row:=.map [] 0) (lp':=w.lp) (λ_ _=>rfl) (λw' _ _=>⟨[],0,rfl,rfl,λi x e hx=>by simp at hx⟩);refine ⟨_,_,.map H.next,_,w',A,rfl,rfl,D,a,?_,λfr' H' M b=>?_⟩
    .have:=Rep.map (X:=X) (sz:=sz) (w:=w') h7;rw [h6] at this;exact this
    .simp only [zb,f,l,zB,W,M]
   .exact u.elim
 | range t x=>
  simp only [qba,f] at h;obtain ⟨ti,l,u⟩:=qf h;obtain ⟨p,V,B⟩:=qf u;obtain ⟨v,ev,rv⟩:=qo R V;split at B
  .rename_i s W;cases rv;obtain ⟨w',D,a,h6,h7⟩:=qee ok R.h (ct:=.si s 0) (row:=.siter s 0) (lp':=w.lp) (λ_ _=>rfl) (λw' _ _=>⟨0,rfl,rfl⟩);refine ⟨_,_,.ptr H.next 0 0 0,_,w',B,rfl,rfl,D,a,?_,λfr' H' M b=>?_⟩
   .have:=Rep.cell (X:=X) (sz:=sz) (w:=w') (off:=0) (lim:=0) h7;rw [h6] at this;exact this
   .have N:=(b x (by simp [f,Op.operands])).trans ev;simp only [zb,f,l,N,zB,W,M]
  .exact absurd B id
 | _=>simp [qof,f] at hp
inductive Plain:PV K->Prop
 | int {k:IntKind} {l:Option Int} {n:Int}:Plain (.int k l n)
 | lit {b:Bool}:Plain (.lit b)
 | sb {neg b:Bool} {pt pf:Prop}:Plain (.sb 0 neg b pt pf)
 | str {s:List UInt8}:Plain (.str s)
 | nils:Plain .nils
 | list {c:Nat} {l:List (K c)}:Plain (.list c l none)
 | nilp:Plain .nilp
 | nilf:Plain .nilf
 | nili:Plain .nili
 | func {f:Nat}:Plain (.func f [] [])
 | agg {ps:List (PV K)} (h:∀ p ∈ ps,Plain p):Plain (.agg ps)
 | eptr {ps:List (PV K)} {off:Nat} (h:∀ p ∈ ps,Plain p):Plain (.eptr ps off)
 | plist {es n:Nat} {fx:Bool} {ps:List (PV K)} (h:∀ p ∈ ps,Plain p):Plain (.plist es n fx ps)
theorem Rep.plain {w w':Wd} (t:∀ c x p,p ∈ X.cells c x->Plain p) (u:w'.g=w.g) (y:∀ nm x,w.g nm=some x->¬ w.M nm->¬ w'.M nm) {p:PV K} {v:V} (r:Rep X sz w p v) (b:Plain p):Rep X sz w' p v:=by
 induction r with
 | int h=>exact .int h
 | lit=>exact .lit
 | sb l m F=>cases b;exact .sb l m λz=>absurd rfl z
 | str=>exact .str
 | nils=>exact .nils
 | nlist A=>cases b;exact .nlist trivial
 | list a n d o B C q s A k=>
  cases b;exact .list (by rw [u];exact a) n (y _ _ a d) o B C q (λi hi j p e=>k i hi j p e (t _ _ p (List.mem_of_getElem? e))) trivial
 | cell=>cases b
 | mlist=>cases b
 | mptr=>cases b
 | eptr a n d l m s k=>
  cases b with
  | eptr f=>exact .eptr (by rw [u];exact a) n (y _ _ a d) l m (λj p e=>k j p e (f p (List.mem_of_getElem? e)))
 | nilp=>exact .nilp
 | map=>cases b
 | func D s l m=>cases b;exact .func D s (λj p h=>by simp at h) (λj p h=>by simp at h)
 | nilf=>exact .nilf
 | yield=>cases b
 | iface=>cases b
 | nili=>exact .nili
 | agg E _ k=>
  cases b with
  | agg f=>exact .agg E λj p e=>k j p e (f p (List.mem_of_getElem? e))
 | tuple=>cases b
 | plist a n d z l m s k=>
  cases b with
  | plist f=>exact .plist (by rw [u];exact a) n (y _ _ a d) z l m (λj p e=>k j p e (f p (List.mem_of_getElem? e)))
theorem Rep.qyo {w w':Wd} (L:∀ c x,(X.cells c x).length=sz c) (I:∀ c x p,p ∈ X.cells c x->Plain p)
  (hm:∀ nm cs e u a y ex,w.g nm=some (.row cs e u a y ex)->¬ w.M nm->¬ w'.M nm/\∃ cs2 b f ex',w'.g nm=some (.row (cs++cs2) e b a f ex')) {p:PV K} {v:V} (r:Rep X sz w p v) (k:Plain p):Rep X sz w' p v:=by
 induction r with
 | int h=>exact .int h
 | lit=>exact .lit
 | sb s G R=>cases k;exact .sb s G λJ=>absurd rfl J
 | str=>exact .str
 | nils=>exact .nils
 | nlist N=>cases k;exact .nlist trivial
 | @list c l own nm gn off len z cap cs e u a y ex n B o t S O C H N A=>
  cases k;obtain ⟨D,cs2,b,f,ex',E⟩:=hm _ _ _ _ _ _ _ n o;refine .list E B D t (by rw [List.length_append];omega) O C (λi hi j p m=>?_) trivial;have F:j<sz c:=by
   have:=(List.getElem?_eq_some_iff.1 m).1;rw [L] at this;exact this
  have:off+i * sz c+j<cs.length:=by
   have s:i * sz c+sz c<=l.length * sz c:=by
    have:(i+1) * sz c<=l.length * sz c:=zU _ hi;rw [Nat.succ_mul] at this;exact this
   rw [<-t] at s;omega
  rw [qb0 this];exact A i hi j p m (I _ _ p (List.mem_of_getElem? m))
 | cell=>cases k
 | mlist=>cases k
 | mptr=>cases k
 | @eptr ps off nm gn d lim cs e u a y ex n B o s G H A=>
  cases k with
  | eptr q=>
   obtain ⟨D,cs2,b,f,ex',E⟩:=hm _ _ _ _ _ _ _ n o;refine .eptr E B D s (by rw [List.length_append];omega) (λj p m=>?_);have F:=(List.getElem?_eq_some_iff.1 m).1;rw [qb0 (by omega)];exact A j p m (q p (List.mem_of_getElem? m))
 | nilp=>exact .nilp
 | map=>cases k
 | func P H s G=>cases k;exact .func P H (λj p h=>by simp at h) (λj p h=>by simp at h)
 | nilf=>exact .nilf
 | yield=>cases k
 | iface=>cases k
 | nili=>exact .nili
 | agg Q _ A=>
  cases k with
  | agg q=>exact .agg Q λj p m=>A j p m (q p (List.mem_of_getElem? m))
 | tuple=>cases k
 | plist n B o J s G H A=>
  cases k with
  | plist q=>
   obtain ⟨D,cs2,b,f,ex',E⟩:=hm _ _ _ _ _ _ _ n o;refine .plist E B D J s (by rw [List.length_append];omega) (λj p m=>?_);have F:=(List.getElem?_eq_some_iff.1 m).1;rw [qb0 (by omega)];exact A j p m (q p (List.mem_of_getElem? m))
def wd0 (H:Heap) (M:Nat->Prop) (ce:TypeId->Option Nat):Wd:=
 {g:=H.get,M:=M,c:=λ_=>0,nu:=λ_=>false,n:=0,owns:=λ_=>none,eta:=λ_=>none,ce:=ce,cl:=λ_=>False,nx:=H.next,b:=H.next,lp:=λ_=>none,fl:=0}
structure Start (X:Codecs K) (sz:Nat->Nat) (C:ZC K) (H:Heap) (M:Nat->Prop):Prop where
 wf:∀ n,H.next<=n->H.get n=none
 ro:H.ro<=H.next/\H.qp=C.ng/\∀ gn o,C.gobj gn=some o->H.get gn=some o/\gn<H.next
 Mlt:∀ n,M n->n<H.next
 globs:∀ gn ps,C.qp gn=some ps->gn<H.qp/\∃ vs e fl fz ex,H.get gn=some (.row vs e 0 fl fz ex)/\gn<H.next/\Rep X sz (wd0 H M C.codec) (.eptr ps 0) (.ptr gn 0 0 vs.length)
structure Answer (X:Codecs K) (sz:Nat->Nat) (C:ZC K) (H:Heap) (M:Nat->Prop) (r:PV K) (m:Nat) (v:V) (H':Heap) (w':Wd):Prop where
 keeps:Keeps H H'
 wf:∀ n,H'.next<=n->H'.get n=none
 g:w'.g=H'.get
 M:∀ n,n<H.next->(w'.M n↔M n)
 Mlt:∀ n,w'.M n->n<H'.next
 ce:w'.ce=C.codec
 n:w'.n=m
 owns:∀ i,w'.owns i=some 0
 eta:∀ i nm,w'.eta i=some nm->H.next<=nm/\nm<H'.next/\¬ w'.M nm
 einj:∀ i j nm,w'.eta i=some nm->w'.eta j=some nm->i=j
 rep:Rep X sz w' r v
def qni (l:List Nat):Nat:=l.foldl (λa i=>max a (i+1)) 0
def qhp (X:Codecs K) (sz:Nat->Nat) (C:ZC K) (f:Nat) (args:List (PV K)) (r:PV K):Prop:=
 ∀ (H:Heap) (M:Nat->Prop) (vs:List V),Start X sz C H M->ql X sz (wd0 H M C.codec) args vs->qaa C.E (.func f) vs H λv H'=>∃ w',Answer X sz C H M r (qni (qbs r.flat)) v H' w'
end
end Go.E3
/- E3: CALLS OF FUNCTIONS WITH CONTRACTS. -/
namespace Go.E3
open Go Go.E2
variable {K:Nat->Type}
inductive Simple:PV K->Prop
 | int {k:IntKind} {l:Option Int} {n:Int}:Simple (.int k l n)
 | lit {b:Bool}:Simple (.lit b)
 | sb {neg b:Bool} {pt pf:Prop}:Simple (.sb 0 neg b pt pf)
 | str {s:List UInt8}:Simple (.str s)
 | list {c:Nat} {l:List (K c)}:Simple (.list c l none)
 | own {c:Nat} {l:List (K c)} {i:Nat}:Simple (.list c l (some (i,0)))
 | func {f:Nat}:Simple (.func f [] [])
 | nilf:Simple .nilf
 | nils:Simple .nils
 | plist {es n:Nat} {fx:Bool} {ps:List (PV K)} (h:∀ p ∈ ps,p=.nilf∨∃ f,p=.func f [] []):Simple (.plist es n fx ps)
inductive Form1:PV K->Prop
 | one {p:PV K} (h:Simple p):Form1 p
 | agg {ps:List (PV K)} (h:∀ p ∈ ps,Simple p):Form1 (.agg ps)
inductive Form:PV K->Prop
 | one {p:PV K} (h:Form1 p):Form p
 | tuple {l:List (PV K)} (h:∀ p ∈ l,Form1 p):Form (.tuple l)
def qcd:List SK->List (NV K)->Option (List (PV K)×List (NV K))
 | [],a=>some ([],a)
 | .int k::ks,.i n::a=>(qcd ks a).map λr=>(.int k none n::r.1,r.2)
 | .bool::ks,.b b::a=>(qcd ks a).map λr=>(.sb 0 false b (b=true) (b=false)::r.1,r.2)
 | .str::ks,.s s::a=>(qcd ks a).map λr=>(.str s::r.1,r.2)
 | .list _ _ _::ks,.l c l::a=>(qcd ks a).map λr=>(.list c l none::r.1,r.2)
 | _,_=>none
def qcy:List Sh->List (NV K)->Option (List (PV K))
 | [],[]=>some []
 | .one k::a,b=>(qcd [k] b).bind λr=>(qcy a r.2).map λl=>r.1++l
 | .agg ks::a,b=>(qcd ks b).bind λr=>(qcy a r.2).map λl=>.agg r.1::l
 | _,_=>none
section
variable {X:Codecs K} {sz:Nat->Nat} {C:ZC K} {base H:Heap} {st:StV K} {fr:Fr} {w:Wd}
variable {tbl:Tbl K} {inv:Nat->List (NV K)->Prop} {meas:Nat->List (NV K)->Nat}
def qcu (X:Codecs K) (sz:Nat->Nat) (C:ZC K) (tbl:Tbl K):Prop:=
 ∀ f a b d c r,tbl f=some (a,b)->b d=some (c,r)->c->∃ args,qcy a d=some args/\qhp X sz C f args r/\Form r
theorem qcx (f:∀ c x p,p ∈ X.cells c x->Plain p) {w':Wd} (t:w'.g=w.g) (u:∀ nm x,w.g nm=some x->¬ w.M nm->¬ w'.M nm):∀ {ks:List SK} {ps:List (PV K)} {vs:List V} {ns rest:List (NV K)} {r:List (PV K)×List (NV K)},
  qmx (qu X tbl inv meas) st ks ps=some ns->ql X sz w ps vs->qcd ks (ns++rest)=some r->r.2=rest/\ql X sz w' r.1 vs
 | [],[],vs,ns,rest,r,h,y,d=>by
  simp only [qmx,zS] at h;subst h;simp only [List.nil_append,qcd,zS] at d;subst d;rw [y.z6];exact ⟨rfl,.nil⟩
 | [],_::_,vs,ns,rest,r,h,y,d=>by simp [qmx] at h
 | _::_,[],vs,ns,rest,r,h,y,d=>by simp [qmx] at h
 | k::ks,p::ps,vs,ns,rest,r,h,y,d=>by
  obtain ⟨v,F,rfl,z,A⟩:=y.zk;simp only [qmx] at h;obtain ⟨a,e,G⟩:=zI.1 h;obtain ⟨H,B,I⟩:=zM.1 G;subst I;rw [List.append_assoc] at d;unfold quw at e;split at e
  .rename_i R J l n;split at e
   .rename_i L;subst L;cases e;cases z;simp only [List.singleton_append,qcd] at d;obtain ⟨q,i,rfl⟩:=zM.1 d;obtain ⟨j,o⟩:=qcx f t u B A i;exact ⟨j,.cons (.int λm N=>by cases N) o⟩
   .cases e
  .rename_i b;cases e;cases z;simp only [List.singleton_append,qcd] at d;obtain ⟨q,i,rfl⟩:=zM.1 d;obtain ⟨j,o⟩:=qcx f t u B A i;exact ⟨j,.cons (.sb .rfl .rfl λC=>absurd rfl C) o⟩
  .rename_i id neg b S T;cases e;cases z;simp only [List.singleton_append,qcd] at d;obtain ⟨q,i,rfl⟩:=zM.1 d;obtain ⟨j,o⟩:=qcx f t u B A i;exact ⟨j,.cons (.sb .rfl .rfl λC=>absurd rfl C) o⟩
  .rename_i s;cases e;cases z;simp only [List.singleton_append,qcd] at d;obtain ⟨q,i,rfl⟩:=zM.1 d;obtain ⟨j,o⟩:=qcx f t u B A i;exact ⟨j,.cons .str o⟩
  .rename_i U O P;cases E:((O&&!qd6 st p) || (P&&!zfj p)) with
   | true=>rw [E] at e;cases e
   | false=>
    rw [E] at e;simp only [zQ,Bool.false_eq_true,↓reduceIte] at e;obtain ⟨l,Q,D⟩:=zM.1 e;subst D;simp only [List.singleton_append,qcd] at d;obtain ⟨q,i,rfl⟩:=zM.1 d;obtain ⟨j,o⟩:=qcx f t u B A i;exact ⟨j,.cons ((qfp z Q).plain f t u .list) o⟩
  .simp only [qcd] at d;cases d
  .cases e
theorem qln (e:∀ c x p,p ∈ X.cells c x->Plain p) {w':Wd} (m:w'.g=w.g) (n:∀ nm x,w.g nm=some x->¬ w.M nm->¬ w'.M nm):∀ {b:List Sh} {ps:List (PV K)} {vs:List V} {ns:List (NV K)} {args:List (PV K)},
  qpv (qu X tbl inv meas) st b ps=some ns->ql X sz w ps vs->qcy b ns=some args->ql X sz w' args vs
 | [],[],vs,ns,args,h,f,d=>by
  simp only [qpv,zS] at h;subst h;simp only [qcy,zS] at d;subst d;rw [f.z6];exact .nil
 | [],_::_,vs,ns,args,h,f,d=>by simp [qpv] at h
 | .one k::b,[],vs,ns,args,h,f,d=>by simp [qpv] at h
 | .agg k::b,[],vs,ns,args,h,f,d=>by simp [qpv] at h
 | .one k::b,p::ps,vs,ns,args,h,f,d=>by
  obtain ⟨v,o,rfl,r,s⟩:=f.zk;simp only [qpv] at h;obtain ⟨a,t,u⟩:=zI.1 h;obtain ⟨y,z,A⟩:=zM.1 u;subst A;simp only [qcy] at d;obtain ⟨q,B,i⟩:=zI.1 d;obtain ⟨l,j,rfl⟩:=zM.1 i;have C:qmx (qu X tbl inv meas) st [k] [p]=some a:=by
   simp only [qmx,t,zB,zH,zJ]
  obtain ⟨D,E⟩:=qcx e m n C (.cons r .nil) B;rw [D] at j;exact E.append (qln e m n z s j)
 | .agg ks::b,p::ps,vs,ns,args,h,f,d=>by
  obtain ⟨v,o,rfl,r,s⟩:=f.zk;cases p with
  | agg cs=>
   obtain ⟨a,t,u⟩:=zI.1 h;obtain ⟨y,z,A⟩:=zM.1 u;subst A;obtain ⟨q,B,i⟩:=zI.1 d;obtain ⟨l,j,rfl⟩:=zM.1 i;obtain ⟨us,rfl,F⟩:=r.qcw;obtain ⟨D,E⟩:=qcx e m n t F B;rw [D] at j;exact .cons (.qqq E) (qln e m n z s j)
  | _=>simp [qpv] at h
theorem qua:∀ (l:List Nat) (a:Nat),a<=l.foldl (λa i=>max a (i+1)) a/\∀ i ∈ l,i<l.foldl (λa i=>max a (i+1)) a
 | [],a=>⟨zN _,λi hi=>(by cases hi)⟩
 | j::l,a=>by
  obtain ⟨c,b⟩:=qua l (max a (j+1));simp only [List.foldl_cons];refine ⟨by omega,λi hi=>?_⟩;rcases zD.1 hi with rfl | hi
  .omega
  .exact b i hi
theorem ze3 {l:List (Nat×Nat)} {a:List Nat} {nx j:Nat}:look (a.map (λi=>(nx+i,0))++l) j=if nx<=j/\j-nx ∈ a then some 0 else look l j:=by
 induction a with
 | nil=>simp
 | cons i a b=>
  simp only [List.map_cons,List.cons_append,look,cond_eq_ite,Nat.beq_eq,b];by_cases h:nx+i=j
  .grind
  .grind
theorem qvw (a:∀ c x p,p ∈ X.cells c x->Plain p) {w1 w2:Wd} {nx:Nat} (d:w2.g=w1.g) (G:w2.M=w1.M) (D:w2.ce=w1.ce) (I:∀ i,i<w1.n->nx+i<w2.n) (s:∀ i,w2.eta (nx+i)=w1.eta i) (J:∀ i,w1.owns i=some 0)
  {p:PV K} {v:V} (r:Rep X sz w1 p v) (H:Simple p):Rep X sz w2 (qh0 nx p) v:=by
 have b:∀ nm x,w1.g nm=some x->¬ w1.M nm->¬ w2.M nm:=λnm x _ h=>by rw [G];exact h
 cases H with
 | int=>exact r.plain a d b .int
 | lit=>exact r.plain a d b .lit
 | sb=>exact r.plain a d b .sb
 | str=>exact r.plain a d b .str
 | list=>exact r.plain a d b .list
 | func=>exact r.plain a d b .func
 | nils=>cases r;exact .nils
 | nilf=>exact r.plain a d b .nilf
 | plist h=>exact r.plain a d b (.plist λp B=>by rcases h p B with rfl | ⟨f,rfl⟩<;>constructor)
 | @own c l i=>
  have t:∀ u,qli w1 sz c (some (i,0)) u->qli w2 sz c (some (nx+i,0)) u:=by
   rintro u ⟨L,T,N,_⟩;refine ⟨I i L,λO _=>Nat.zero_le _,λH=>?_,λh=>by cases h⟩;have w:=N (J i);cases u with
   | nils=>trivial
   | slice nm gn off len z cap=>
    simp only [q2a] at w ⊢;rcases w with w | ⟨k,P,cs,e,m,y,ex,o,C⟩
    .exact .inl w
    .exact .inr ⟨k,by rw [s];exact P,cs,e,m,y,ex,by rw [d];exact o,C.1,C.2.1,by rw [D];exact C.2.2.1,C.2.2.2⟩
   | _=>exact w
  simp only [qh0];rcases jv r with ⟨rfl,rfl⟩ | ⟨nm,gn,off,z,cap,cs,e,Q,m,y,ex,rfl,o,R,E,A,S,k,q,F⟩
  .cases r with
   | nlist h=>exact .nlist (t _ h)
  .exact .list (by rw [d];exact o) R (by rw [G];exact E) rfl A S k (λi' hi j p B=>(q i' hi j p B).plain a d b (a _ _ p (List.mem_of_getElem? B))) (t _ F)
theorem qs8 (b:∀ c x p,p ∈ X.cells c x->Plain p) {w1 w2:Wd} {nx:Nat} (e:w2.g=w1.g) (f:w2.M=w1.M) (d:w2.ce=w1.ce) (j:∀ i,i<w1.n->nx+i<w2.n) (a:∀ i,w2.eta (nx+i)=w1.eta i) (k:∀ i,w1.owns i=some 0) :
  ∀ {ps:List (PV K)} {vs:List V},ql X sz w1 ps vs->(∀ p ∈ ps,Simple p)->ql X sz w2 (ps.map (qh0 nx)) vs
 | [],vs,r,_=>by rw [r.z6];exact .nil
 | p::ps,vs,r,h=>by
  obtain ⟨v,l,rfl,m,o⟩:=r.zk;exact .cons (qvw b e f d j a k m (h p zC)) (qs8 b e f d j a k o λq s=>h q (zG _ s))
def q31 (nx:Nat) (p:PV K):PV K:=match p with
 | .agg cs=>.agg (cs.map (qh0 nx))
 | p=>qh0 nx p
theorem qxx (b:∀ c x p,p ∈ X.cells c x->Plain p) {w1 w2:Wd} {nx:Nat} (f:w2.g=w1.g) (j:w2.M=w1.M) (d:w2.ce=w1.ce) (k:∀ i,i<w1.n->nx+i<w2.n) (a:∀ i,w2.eta (nx+i)=w1.eta i) (l:∀ i,w1.owns i=some 0)
  {p:PV K} {v:V} (r:Rep X sz w1 p v) (m:Form1 p):Rep X sz w2 (q31 nx p) v:=by
 cases m with
 | one h=>
  have e:q31 nx p=qh0 nx p:=by cases h<;>rfl
  rw [e];exact qvw b f j d k a l r h
 | agg h=>
  obtain ⟨vs,rfl,o⟩:=r.qcw;exact .qqq (qs8 b f j d k a l o h)
theorem zb8 (b:∀ c x p,p ∈ X.cells c x->Plain p) {w1 w2:Wd} {nx:Nat} (f:w2.g=w1.g) (j:w2.M=w1.M) (d:w2.ce=w1.ce) (k:∀ i,i<w1.n->nx+i<w2.n) (a:∀ i,w2.eta (nx+i)=w1.eta i) (m:∀ i,w1.owns i=some 0)
  {p:PV K} {v:V} (r:Rep X sz w1 p v) (s:Form p):Rep X sz w2 (qia (qh0 nx) p) v:=by
 cases s with
 | one h=>
  have e:qia (qh0 nx) p=q31 nx p:=by
   cases h with
   | one h=>cases h<;>rfl
   | agg h=>rfl
  rw [e];exact qxx b f j d k a m r h
 | @tuple l h=>
  obtain ⟨vs,rfl,o⟩:=r.qei;have e:qia (qh0 nx) (.tuple l)=(.tuple (l.map (q31 nx)):PV K):=by
   simp only [qia];congr 1;exact List.map_congr_left λp _=>by cases p<;>rfl
  rw [e];refine .tuple' ?_;clear r e
  induction l generalizing vs with
  | nil=>rw [o.z6];exact .nil
  | cons q l t=>
   obtain ⟨v,u,rfl,w,y⟩:=o.zk;exact .cons (qxx b f j d k a m w (h q zC)) (t (λp z=>h p (zG _ z)) _ y)
theorem qec (a:∀ c x,(X.cells c x).length=sz c):∀ {ps:List (PV K)} {vs:List V} {w:Wd},ql X sz w ps vs->1<=w.n->
  ∃ nu',(∀ id,id<w.n->nu' id=w.nu id)/\w.n<=(jy ps w.n).2/\ql X sz {w with n:=(jy ps w.n).2,nu:=nu'} (jy ps w.n).1 vs
 | [],vs,w,r,k=>⟨w.nu,λ_ _=>rfl,zN _,by simp only [jy];exact r⟩
 | p::ps,vs,w,r,k=>by
  obtain ⟨v,u,rfl,l,o⟩:=r.zk;by_cases y:∃ neg b g h,p=.sb 0 neg b g h
  .obtain ⟨neg,b,g,h,rfl⟩:=y;cases l with | sb z A E=>
   have q:Le w {w with n:=w.n+1,nu:=λid=>if id=w.n then (b != neg) else w.nu id}:=Le.ext (Nat.le_succ _) (λid hi=>by rw [zF (by omega)]);obtain ⟨nu',g1,g2,d⟩:=qec a (o.mono a q) (by show 1<=w.n+1;omega);simp only at g1 g2 d;have e:jy (.sb 0 neg b g h::ps) w.n=(.sb w.n neg b g h::(jy ps (w.n+1)).1,(jy ps (w.n+1)).2):=by simp only [jy]
   rw [e];refine ⟨nu',λid hi=>?_,zR (Nat.le_succ _) g2,.cons (.sb z A λF=>⟨g2,?_⟩) d⟩
   .rw [g1 id (by omega),zF (by omega)]
   .show b=(nu' w.n != neg);rw [g1 w.n (by omega),zT rfl];cases b<;>cases neg<;>rfl
  .by_cases B:∃ cs,p=.agg cs
   .obtain ⟨cs,rfl⟩:=B;obtain ⟨us,rfl,C⟩:=l.qcw;obtain ⟨f,s,t,D⟩:=qf8 a C k;have i:Le w {w with n:=(qbw cs w.n).2,nu:=f}:=Le.ext t s;obtain ⟨nu',g1,g2,d⟩:=qec a (o.mono a i) (by show 1<=(qbw cs w.n).2;omega);simp only at g1 g2 d;have e:jy (.agg cs::ps) w.n=(.agg (qbw cs w.n).1::(jy ps (qbw cs w.n).2).1,(jy ps (qbw cs w.n).2).2):=by simp only [jy]
    rw [e];have j:Le {w with n:=(qbw cs w.n).2,nu:=f} {w with n:=(jy ps (qbw cs w.n).2).2,nu:=nu'}:=Le.ext (w:={w with n:=(qbw cs w.n).2,nu:=f}) g2 g1;exact ⟨nu',λid hi=>(g1 id (by omega)).trans (s id hi),zR t g2,.cons (.qqq (D.mono a j)) d⟩
   .obtain ⟨nu',g1,g2,d⟩:=qec a o k;have e:jy (p::ps) w.n=(p::(jy ps w.n).1,(jy ps w.n).2):=by
     cases p with
     | sb id neg b g h=>
      cases id with
      | zero=>grind
      | succ m=>rfl
     | agg cs=>simp_all
     | _=>rfl
    rw [e];exact ⟨nu',g1,g2,.cons (l.mono a (Le.ext g2 g1)) d⟩
end
section
variable {X:Codecs K} {sz:Nat->Nat} {C:ZC K} {base H:Heap} {st:StV K} {fr:Fr} {w:Wd}
variable {tbl:Tbl K} {inv:Nat->List (NV K)->Prop} {meas:Nat->List (NV K)->Nat}
theorem qk1 {α:Type} {c:Bool} {x y:Option α} {r:α} (h:(bif c then x else y)=some r):(c=false/\y=some r)∨(c=true/\x=some r):=by
 cases c
 .exact .inl ⟨rfl,h⟩
 .exact .inr ⟨rfl,h⟩
theorem zz {α:Type} {c:Bool} {x y:Option α} {r:α} (h:(if c then x else y)=some r):(c=false/\y=some r)∨(c=true/\x=some r):=by
 cases c with
 | false=>exact .inl ⟨rfl,h⟩
 | true=>exact .inr ⟨rfl,h⟩
theorem ziz (ok:CfgOk X sz C) (R:RelH X sz C base st H w) {c:Bool×Prop×Prop} (b:qhy c):∃ w',RelH X sz C base (q55 st c).2 H w'/\Le w w'/\Rep X sz w' (q55 st c).1 (.bool c.1):=by
 obtain ⟨a,d⟩:=R.ext ok (m:=st.next+1) (nu':=λid=>if id=st.next then c.1 else w.nu id) (Nat.le_succ _) (λid hi=>by rw [zF (by omega)]);refine ⟨_,d,a,.sb b.1 b.2 λe=>⟨Nat.lt_succ_self _,?_⟩⟩;simp
theorem qou {a b:Leaf} (h:qot a b=true):a=b:=by
 cases a<;>cases b<;>first | rfl | (simp only [qot,decide_eq_true_eq] at h;rw [h]) | (cases h)
theorem qvq {p:PV K} {k:IntKind} {n:Int} (r:Rep X sz w p (.int k n)):∃ l,p=.int k l n:=by cases r;exact ⟨_,rfl⟩
theorem qvr {p:PV K} {s:List UInt8} (r:Rep X sz w p (.str s)):p=.str s:=by cases r;rfl
theorem zet {j:TI} {g:Leaf} {a b:V} {p q:PV K} (m:qo7 j=some g) (d:jc [g] [a]) (e:jc [g] [b]) (h:Rep X sz w p a) (i:Rep X sz w q b):qjk j.under a b=some (qk7 [p] [q]):=by
 rcases (zz m).symm with ⟨_,c⟩ | ⟨_,c⟩
 .cases c
 .split at c
  .rename_i k f;cases c;cases a<;>(try (simp only [jc] at d;done))<;>cases b<;>(try (simp only [jc] at e;done));simp only [jc,and_true] at d e;subst d;subst e;obtain ⟨l,rfl⟩:=qvq h;obtain ⟨n,rfl⟩:=qvq i;simp [qjk,f,qk7]
  .rename_i f;cases c;cases a<;>(try (simp only [jc] at d;done))<;>cases b<;>(try (simp only [jc] at e;done));have:=qvr h;subst this;have:=qvr i;subst this;simp [qjk,f,qk7]
  .rename_i f;cases c;cases a<;>(try (simp only [jc] at d;done))<;>cases b<;>(try (simp only [jc] at e;done));rcases h.bool with rfl | ⟨_,_,_,_,rfl,_⟩<;>rcases i.bool with rfl | ⟨_,_,_,_,rfl,_⟩<;>simp [qjk,f,qk7]
  .cases c
theorem q6q {ps:List (PV K)} {v:V} (r:ql X sz w ps [v]):∃ p,ps=[p]/\Rep X sz w p v:=by
 cases ps with
 | nil=>have:=r.1;simp at this
 | cons p ps=>
  obtain ⟨d,a,b,e,c⟩:=r.zk;cases b;cases ps with
  | nil=>simp_all
  | cons _ _=>have:=c.1;simp at this
def zg7 (X:Codecs K) (sz:Nat->Nat) (w:Wd) (c:Nat) (a:Leaf) (b:Bool) (l:List (K c)) (es:List (V×V×Nat)):Prop:=
 es.length=l.length/\∀ (i:Nat) (x:K c) (e:V×V×Nat),l[i]? = some x->es[i]? = some e->q9h X sz w c a b x e
theorem qfs {m:TI} {c:Nat} {k:Leaf} {z:Bool} (A:qo7 m=some k) {a:V} {y:K c} (B:ql X sz w ((X.cells c y).take 1) [a]) (C:jc [k] [a]):∀ (l:List (K c)) (b:List (V×V×Nat)) (g:Nat),zg7 X sz w c k z l b->
  (qne m.under a b g=some none/\qq2 X c 1 l y=false/\qjn X c 1 l y=y/\qld X c 1 l y=l++[y])∨
  ∃ (j:Nat) (x:K c) (e:V×V×Nat),qne m.under a b g=some (some (g+j,e.2.1))/\l[j]? = some x/\b[j]? = some e/\qq2 X c 1 l y=true/\qjn X c 1 l y=x/\qld X c 1 l y=l.set j y
 | [],b,g,h=>by
  have:b=[]:=List.eq_nil_of_length_eq_zero h.1;subst this;exact .inl ⟨rfl,rfl,rfl,rfl⟩
 | x::l,[],g,h=>by have:=h.1;simp at this
 | x::l,(D,v,s)::b,g,h=>by
  obtain ⟨E,F,R,S⟩:=h.2 0 x (D,v,s) rfl rfl;obtain ⟨p,G,H⟩:=q6q B;obtain ⟨q,I,J⟩:=q6q E;have L:=zet A C F H J;have d:qub X c 1 y x=qk7 [p] [q]:=by rw [qub,G,I]
  simp only [qne];rw [L];cases f:qk7 [p] [q] with
  | true=>
   refine .inr ⟨0,x,(D,v,s),rfl,rfl,rfl,?_,?_,?_⟩
   .simp [qq2,d,f]
   .simp [qjn,d,f]
   .simp [qld,d,f]
  | false=>
   have M:zg7 X sz w c k z l b:=⟨by simpa using h.1,λi n e N O=>h.2 (i+1) n e (by simpa using N) (by simpa using O)⟩;rcases qfs A B C l b (g+1) M with ⟨o,r,t,u⟩ | ⟨j,n,e,o,r,t,u,P,Q⟩
   .refine .inl ⟨o,?_,?_,?_⟩
    .simp only [qq2,List.any_cons,d,f,Bool.false_or];exact r
    .simp only [qjn,d,f,zQ,Bool.false_eq_true,↓reduceIte];exact t
    .simp only [qld,d,f,zQ,Bool.false_eq_true,↓reduceIte,u,List.cons_append]
   .refine .inr ⟨j+1,n,e,by rw [o];simp only [zS,zP,and_true];omega,by simpa using r,by simpa using t,?_,?_,?_⟩
    .simp only [qq2,List.any_cons,d,f,Bool.false_or];exact u
    .simp only [qjn,d,f,zQ,Bool.false_eq_true,↓reduceIte];exact P
    .simp only [qld,d,f,zQ,Bool.false_eq_true,↓reduceIte,Q,List.set_cons_succ]
theorem zdf {p:PV K} {v:V} (r:Rep X sz w p v):q7n v=zl8 p:=by cases r<;>rfl
theorem q00 {t:TypeId} {id:Nat} {key:PV K} {a:MapC (λc=>List (K c))} {b:TI} (h:ze5 C st t id key=some (a,b)) :
  ∃ ti d e f,C.E.types t=some ti/\ti.under=.map d e/\C.E.types d=some f/\C.E.types e=some b/\qo7 f=some a.lf/\look st.cells id=some (.mp a.c a.lf a.va a.l)/\a.va=b.isAgg/\q7n b.zero=b.isAgg/\tiled [a.lf] [key]=true:=by
 obtain ⟨ti,g,i⟩:=zI.1 h;split at i
 .rename_i d e r;obtain ⟨f,j,s⟩:=zI.1 i;obtain ⟨u,k,v⟩:=zI.1 s;obtain ⟨D,n,w⟩:=zI.1 v;obtain ⟨m,o,x⟩:=zI.1 w;rcases zz x with ⟨_,p⟩ | ⟨q,p⟩
  .cases p
  .cases p;simp only [zA,beq_iff_eq] at q;obtain ⟨⟨⟨y,z⟩,A⟩,B⟩:=q;have:=qou y;subst this;refine ⟨ti,d,e,f,g,r,j,k,n,?_,z,A,B⟩;unfold qye at o;split at o
   .grind
   .cases o
 .cases i
theorem qlt {E:Env} {c:TypeId} {b:TI} {d:Leaf} (h:qo7 b=some d) {k:V} {es:List (V×V×Nat)}:qi1 E c b.under k es=qne b.under k es 0:=by
 rcases (zz h).symm with ⟨_,a⟩ | ⟨_,a⟩
 .cases a
 .unfold qi1;split at a<;>first | (rename_i e;rw [e];rfl) | (cases a)
theorem q01 (R:RelH X sz C base st H w) {id c:Nat} {e:Leaf} {f:Bool} {l:List (K c)} (h:look st.cells id=some (.mp c e f l)):w.cl id/\id<st.next/\w.c id<H.next/\base.next<=w.c id/\∃ d a,H.get (w.c id)=some (.map d a)/\zg7 X sz w c e f l d:=by
 obtain ⟨b,_,d,a,g,i,j⟩:=R.cells id _ h;obtain ⟨k,m,n⟩:=R.cl id b;exact ⟨b,k,m,n,d,a,g,i,j⟩
theorem qp4 (ok:CfgOk X sz C) (R:RelH X sz C base st H w) {t:TypeId} {d:Bool} {m key:PV K} {T f:V} {k:PV K->StV K->Prop} (rm:Rep X sz w m T) (rk:Rep X sz w key f) (h:qwi (qu X tbl inv meas) C t d m key st k) :
  ∃ id p g v w',m=.map id/\T=.map (w.c id)/\w.c id<H.next/\w.cl id/\(look st.cells id).isSome=true/\f.nm=[]/\k p g/\Near st g/\RelH X sz C base g H w'/\Le w w'/\Rep X sz w' p v/\
   ∀ (o:Oper) (y A:Operand) (b:Fr) (H1:Heap),o.op=.lookup t y A d->opd b H1 y=some T->opd b H1 A=some f->H1.get (w.c id)=H.get (w.c id)->zb C.E o b H1=some (.val v,H1):=by
 unfold qwi at h;split at h
 .rename_i id;obtain ⟨⟨a,U⟩,hm,h1⟩:=qf h;obtain ⟨z,hz,h2⟩:=qf h1;obtain ⟨r,hr,B,h3⟩:=qf h2;obtain ⟨ti,kt,et,ki,Z,hu,a0,a6,D,n,a7,a8,a9⟩:=q00 hm;obtain ⟨F,an,G,aa,es,ab,hg,I⟩:=q01 R n;have ad:T=.map (w.c id):=by cases rm;rfl
  subst ad;have ae:=qe5 (X:=X) (sz:=sz) (w:=w) hz;have ry:=ok.pack a.c _ r.1 r.2 hr B w (f::U.zero.cells) (.cons rk ae);have af:ql X sz w ((X.cells a.c r.2).take 1) [f]:=ry.take 1;have ag:ql X sz w ((X.cells a.c r.2).drop 1) U.zero.cells:=ry.drop 1;have J:=qf0 (.cons rk .nil) a9;obtain ⟨v,cs,W,L,M⟩:∃ v cs,(ql X sz w cs v.cells/\q7n v=a.va)/\cs=(X.cells a.c (qjn X a.c 1 a.l r.2)).drop 1/\∃ q,qq2 X a.c 1 a.l r.2=q/\
    ∃ Y,qne ki.under f es 0=some Y/\((Y=none/\q=false/\v=U.zero)∨∃ i,Y=some (i,v)/\q=true):=by
   rcases qfs D af J a.l es 0 I with ⟨a1,a2,a3,_⟩ | ⟨j,x,e,a1,a2,a3,a4,a5,_⟩
   .exact ⟨U.zero,_,⟨by rw [a3];exact ag,by rw [a8,a7]⟩,rfl,false,a2,none,a1,.inl ⟨rfl,rfl,rfl⟩⟩
   .obtain ⟨_,_,b3,b4⟩:=I.2 j x e a2 a3;exact ⟨e.2.1,_,⟨by rw [a5];exact b3,b4⟩,rfl,true,a4,_,a1,.inr ⟨_,rfl,rfl⟩⟩
  subst L;obtain ⟨q,ah,Y,ai,s⟩:=M;obtain ⟨pv,aj,h4⟩:=qf h3;have ak:Rep X sz w pv v:=by
   rcases (zz aj).symm with ⟨ha,h5⟩ | ⟨ha,h5⟩
   .cases v<;>first | (simp [q7n,ha] at W;done) | skip
    cases h5;exact .qqq W.1
   .rcases (zz h5).symm with ⟨hb,h6⟩ | ⟨_,h6⟩
    .have:v.cells=[v]:=by cases v<;>first | rfl | (simp [q7n,ha] at W;done)
     obtain ⟨u,N,al⟩:=W.1.get h6;rw [this] at N;cases N;exact al
    .cases h6
  obtain ⟨w1,n1,R1,O,r1⟩:=qh6 ok R ak;have P:∀ (o:Oper) (y A:Operand) (b:Fr) (H1:Heap),o.op=.lookup t y A d->opd b H1 y=some (.map (w.c id))->opd b H1 A=some f->H1.get (w.c id)=H.get (w.c id)->zb C.E o b H1=some (.val (if d then .tuple [v,.bool q] else v),H1):=by
   intro o y A b H1 ho e1 e2 e3;simp only [zb,ho,Z,e1,e2,zB,hu,a0,a6,e3,hg,qlt D,ai,zH];rcases s with ⟨rfl,rfl,rfl⟩ | ⟨i,rfl,rfl⟩<;>rfl
  have Q:f.nm=[]:=by
   cases f<;>first | rfl | (exfalso;revert J;cases a.lf<;>simp [jc])
  cases d with
  | false=>exact ⟨id,_,_,v,w1,rfl,rfl,G,F,by rw [n];rfl,Q,h4,n1,R1,O,r1,P⟩
  | true=>
   obtain ⟨w2,R2,S,r2⟩:=ziz ok R1 (c:=(qq2 X a.c 1 a.l r.2,qq2 X a.c 1 a.l r.2=true,qq2 X a.c 1 a.l r.2=false)) ⟨.rfl,.rfl⟩;have r2:Rep X sz w2 (q55 (qdm pv st).2 (qq2 X a.c 1 a.l r.2,qq2 X a.c 1 a.l r.2=true,qq2 X a.c 1 a.l r.2=false)).1 (.bool q):=by
    rw [<-ah];exact r2
   exact ⟨id,_,_,.tuple [v,.bool q],w2,rfl,rfl,G,F,by rw [n];rfl,Q,h4,n1.trans ⟨rfl,rfl,rfl,rfl⟩,R2,O.trans S,.tuple' (.cons (r1.mono ok.len S) (.cons r2 .nil)),P⟩
 .exact absurd h id
theorem qj3 (ok:CfgOk X sz C) (R:RelH X sz C base st H w) {t:TypeId} {m key x:PV K} {W B D:V} {k:PV K->StV K->Prop} (rm:Rep X sz w m W) (rk:Rep X sz w key B) (rx:Rep X sz w x D) (h:qsc (qu X tbl inv meas) C t m key x st k) :
  ∃ id q row w',m=.map id/\W=.map (w.c id)/\w.c id<H.next/\base.next<=w.c id/\w.cl id/\(look st.cells id).isSome=true/\k qmm q/\q.tmps=st.tmps/\q.n=st.n/\RelH X sz C base q (H.put (w.c id) row) w'/\Le w w'/\(∀ j,(look q.cells j).isSome=(look st.cells j).isSome)/\
   ∀ (o:Oper) (Y Z xo:Operand) (u:Fr) (H1:Heap),(o.op=.mapUpdate t Y Z xo∨o.op=.insert t Y Z xo)->opd u H1 Y=some W->opd u H1 Z=some B->opd u H1 xo=some D->H1.get (w.c id)=H.get (w.c id)->H1.ro<=w.c id->
    zb C.E o u H1=some (.skip,H1.put (w.c id) row):=by
 unfold qsc at h;split at h
 .rename_i id;obtain ⟨⟨d,ei⟩,hm,h1⟩:=qf h;obtain ⟨ti,kt,et,ki,N,hu,O,ad,I,F,ae,af,a0⟩:=q00 hm;obtain ⟨a5,ag,a7,v,J,a,hg,p⟩:=q01 R F;have a8:W=.map (w.c id):=by cases rm;rfl
  subst a8;cases hb:((zl8 x == d.va)&&Nat.beq x.cellsOf.length ei.size&&x.cellsOf.all qae) with
  | false=>simp only [hb,zQ,Bool.false_eq_true,↓reduceIte] at h1;exact h1.elim
  | true=>
   simp only [hb,zO,↓reduceIte] at h1;obtain ⟨r,hr,P,h3⟩:=qf h1;simp only [zA,beq_iff_eq] at hb;have ry:=ok.pack d.c _ r.1 r.2 hr P w (B::D.cells) (.cons rk rx.cells);have Q:ql X sz w ((X.cells d.c r.2).take 1) [B]:=ry.take 1;have a9:ql X sz w ((X.cells d.c r.2).drop 1) D.cells:=ry.drop 1;have S:=qf0 (.cons rk .nil) a0;have G:∀ s,q9h X sz w d.c d.lf d.va r.2 (B,D,s):=λs=>⟨Q,S,a9,by rw [zdf rx];exact hb.1.1⟩;have ah:H.ro<=w.c id:=by rw [R.keeps.ro];exact zR R.rob.1 v
   obtain ⟨y,b,z,A⟩:∃ y b,zg7 X sz w d.c d.lf d.va (qld X d.c 1 d.l r.2) y/\
     ∀ H1:Heap,H1.ro<=w.c id->(qne ki.under B J 0).bind (λr=>match r with
      | some (i,_)=>(H1.upd (w.c id) (.map (J.modify i λe=>(B,D,e.2.2)) a)).map λH'=>(Out.skip,H')
      | none=>(H1.upd (w.c id) (.map (J++[(B,D,a)]) (a+1))).map λH'=>(Out.skip,H'))=some (.skip,H1.put (w.c id) (.map y b)):=by
    rcases qfs I Q S d.l J 0 p with ⟨a1,_,_,a4⟩ | ⟨j,x',e,a1,a2,a3,_,_,a6⟩
    .refine ⟨J++[(B,D,a)],a+1,?_,λH1 L=>by rw [a1];simp only [zB,kq L,zH]⟩;rw [a4];refine ⟨by simp [p.1],λi x e f g=>?_⟩;rw [List.getElem?_append] at f g;rw [p.1] at g;split at f
     .rename_i hi;rw [zT hi] at g;exact p.2 i x e f g
     .rename_i hi;rw [zF hi] at g;rw [List.getElem?_singleton] at f g;split at f
      .rename_i h0;rw [zT h0] at g;cases f;cases g;exact G a
      .cases f
    .refine ⟨J.modify j (λe=>(B,D,e.2.2)),a,?_,λH1 L=>by rw [a1];simp only [zB,Nat.zero_add,kq L,zH]⟩;rw [a6];refine ⟨by simp [p.1],λi x T f g=>?_⟩;rw [List.getElem?_set] at f;rw [List.getElem?_modify] at g;by_cases M:j=i
     .subst M;rw [zT rfl] at f;rw [a3] at g;split at f
      .cases f;simp at g;subst g;exact G _
      .cases f
     .rw [zF M] at f;simp only [zF M] at g;have aa:J[i]? = some T:=by simpa using g
      exact p.2 i x T f aa
   obtain ⟨w',R',ab⟩:=qjh ok R (ct':=.mp d.c d.lf d.va (qld X d.c 1 d.l r.2)) (o:=.map y b) F ⟨y,b,rfl,z.1,z.2⟩;refine ⟨id,_,_,w',rfl,rfl,a7,v,a5,by rw [F];rfl,h3,rfl,rfl,R',ab,λj=>qur F j,λo Y Z xo u H1 U T e2 e3 e4 e5=>?_⟩;rcases U with U | U
   .simp only [zb,U,N,T,e2,e3,zB,hu,O,e4,hg,qlt I];exact A H1 e5
   .simp only [zb,U,N,T,e2,e3,zB,hu,O,e4,hg,qlt I];exact A H1 e5
 .exact absurd h id
theorem qyf {l:List (Nat×ZT K)} {id:Nat} {x:List UInt8×Int} (h:q3d l id=some x):look l id=some (.si x.1 x.2):=by
 unfold q3d at h;split at h
 .rename_i e;cases h;exact e
 .cases h
theorem qvi {l:List (Nat×ZT K)} {id c:Nat} {d:Leaf} {f:Bool} {x:List (K c)} (h:qwh l id c d f=some x):look l id=some (.mp c d f x):=by
 unfold qwh at h;split at h
 .rename_i k g i y e;split at h
  .rename_i j;subst j;rcases zz h with ⟨_,a⟩ | ⟨b,a⟩
   .cases a
   .simp only [zA,beq_iff_eq] at b;cases a;rw [e,qou b.1,b.2]
  .cases h
 .cases h
theorem q56 (ok:CfgOk X sz C) (R:RelH X sz C base st H w) {p:PV K} {f:V} {k:PV K->StV K->Prop} (F:Rep X sz w p f) (h:zfc (qu X tbl inv meas) p st k) :
  ∃ q a v H' w',k q a/\a.tmps=st.tmps/\a.n=st.n/\RelH X sz C base a H' w'/\Le w w'/\Rep X sz w' q v/\
   ∀ (o:Oper) (x:Operand) (b:Fr),o.op=.next x true->opd b H x=some f->zb C.E o b H=some (.val v,H'):=by
 unfold zfc at h;split at h
 .rename_i id lim;obtain ⟨⟨s,n⟩,G,I⟩:=qf h;obtain ⟨c,J,B⟩:=qf I;have d:=qyf G;obtain ⟨g,N,pos,D,i⟩:=R.cells id _ d;obtain ⟨O,P,L⟩:=R.cl id g;simp only at D i;subst D;cases J;have j:f=.ptr (w.c id) 0 0 lim:=by cases F;rfl
  subst j;have l:H.ro<=w.c id:=by rw [R.keeps.ro];exact zR R.rob.1 L
  by_cases e:pos<s.length
  .have r:=B.1 (show ((pos:Nat):Int)<ln s by unfold ln;omega);obtain ⟨w',M,t⟩:=qjh ok R (ct':=.si s (zbb s (pos:Int))) (o:=.siter s (pos+(Utf8.decode ⟨s.toArray⟩ pos).2)) d ⟨_,rfl,rfl⟩;refine ⟨_,_,.tuple [.bool true,qcn pos,.int .i32 ((Utf8.decode ⟨s.toArray⟩ pos).1:Nat)],_,w',r,rfl,rfl,M,t,.tuple' (.cons .lit (.cons (.int λm u=>by cases u) (.cons (.int λm u=>by cases u) .nil))),λo x b y z=>?_⟩;have A:Nat.blt pos s.length=true:=by rw [Nat.blt_eq];exact e
   simp only [zb,y,z,zB,i,q57,A,zO,↓reduceIte,kq l,zH]
  .have r:=B.2 (show ln s<=((pos:Nat):Int) by unfold ln;omega);refine ⟨_,_,.tuple [.bool false],H,w,r,rfl,rfl,R,.refl w,.tuple' (.cons .lit .nil),λo x b y z=>?_⟩;have A:Nat.blt pos s.length=false:=by rw [<-Bool.not_eq_true,Nat.blt_eq];exact e
   simp only [zb,y,z,zB,i,q57,A,zQ,Bool.false_eq_true,↓reduceIte]
 .exact absurd h id
end
end Go.E3
/- E3: CALLS as operations. -/
namespace Go.E3
open Go Go.E2
variable {K:Nat->Type}
structure CfgOk2 (X:Codecs K) (C:ZC K):Prop where
 plain:∀ c x p,p ∈ X.cells c x->Plain p
 qp:∀ gn ps,C.qp gn=some ps->∀ p ∈ ps,Plain p
section
variable {X:Codecs K} {sz:Nat->Nat} {C:ZC K} {base H:Heap} {st:StV K} {fr:Fr} {w:Wd}
variable {tbl:Tbl K} {inv:Nat->List (NV K)->Prop} {meas:Nat->List (NV K)->Nat}
theorem Near.qdm (p:PV K) (st:StV K):Near st (qdm p st).2/\(qdm p st).2.known=st.known:=by
 unfold Go.E3.qdm
 split<;>exact ⟨⟨rfl,rfl,rfl,rfl⟩,rfl⟩
theorem qix (ok:CfgOk X sz C) (ok2:CfgOk2 X C) (R:RelH X sz C base st H w) {r:PV K} (form:Form r) {H1 H' J:Heap} (a2:H1.next=H.next) {v:V} {w':Wd} (a:Answer X sz C H1 w.M r (qni (qbs r.flat)) v H' w')
  (hold:∀ n,n<H.next->J.get n=H.get n) (z:∀ n x,H'.get n=some x->J.get n=some x) (A:∀ n,H.next<=n->J.get n=H'.get n) (B:J.next=H'.next) (a3:J.ro=H.ro) (a4:J.qp=H.qp) :
  ∃ I,(qb5 st r).2.tmps=st.tmps/\(qb5 st r).2.n=st.n/\RelH X sz C base (qb5 st r).2 J I/\Le w I/\Rep X sz I (qb5 st r).1 v/\(∀ l,r=.tuple l->I.M=w'.M):=by
 let D:=qbs r.flat
 let m:=qni D;have U:∀ i ∈ D,i<m:=(qua D 0).2;let k:StV K:={st with next:=st.next+m,owns:=D.map (λi=>(st.next+i,0))++st.owns};let w1:Wd:={g:=J.get,M:=w'.M,c:=w.c,nu:=w.nu,n:=st.next+m,owns:=look k.owns,eta:=λj=>if j<st.next then w.eta j else w'.eta (j-st.next),ce:=w.ce,cl:=w.cl,nx:=J.next,b:=w.b,lp:=w.lp,fl:=w.fl};have W:Le w' {w' with g:=J.get}:=by
  refine ⟨⟨zN _,λnm cs e Q S T ex h hM=>⟨hM,[],Q,T,ex,?_⟩,λ_ _=>rfl,λ_ _=>rfl,λ_ _ h=>h,λi s Y _ h Z=>?_,λi s _ _ _=>⟨rfl,λnm o _=>?_⟩,rfl,λ_ _=>.rfl,zN _,rfl,λ_ _ h=>h,λ_ _=>rfl⟩,λm y=>?_,rfl⟩
  .rw [zJ];rw [a.g] at h;exact z _ _ h
  .rw [h] at Z;cases Z;exact zN _
  .have:=(a.eta i nm o).1;rw [a.g];exact A nm (by omega)
  .rw [a.g] at y;exact z _ _ y
 have a0:∀ nm x,H.get nm=some x->nm<H.next:=by
  intro nm x h;by_cases L:nm<H.next
  .exact L
  .rw [R.wf nm (by omega)] at h;cases h
 have N:∀ nm,nm<H.next->(w'.M nm↔w.M nm):=λnm h=>a.M nm (by rw [a2];exact h)
 have E:∀ j,look k.owns j=if st.next<=j/\j-st.next ∈ D then some 0 else look st.owns j:=λj=>ze3
 have d:∀ j,j<st.next->look k.owns j=look st.owns j:=by
  intro j hj;rw [E,zF];omega
 have O:Le w w1:=by
  refine ⟨⟨by rw [R.n];exact Nat.le_add_right _ _,λnm cs e Q S T ex h hM=>?_,λ_ _=>rfl,λ_ _=>rfl,λi hi h=>?_,λi s Y hi h Z=>?_,λi s hi h Z=>?_,rfl,λ_ _=>.rfl,?_,rfl,λn o y=>(N n (by rw [R.b] at o;have:=R.keeps.next;omega)).2 y,λ_ _=>rfl⟩,λm y=>by rw [R.g] at y;show J.get m=_;rw [hold m (a0 m _ y)];exact y,rfl⟩
  .rw [R.g] at h;have L:=a0 nm _ h;exact ⟨λy=>hM ((N nm L).1 y),[],Q,T,ex,by rw [zJ];show J.get nm=_;rw [hold nm L];exact h⟩
  .rw [R.owns] at h;show look k.owns i=none;rw [d i (by rw [<-R.n];exact hi)];exact h
  .rw [R.owns] at h;have a1:look k.owns i=some Y:=Z;rw [d i (by rw [<-R.n];exact hi),h] at a1;cases a1;exact zN _
  .have a5:i<st.next:=by rw [<-R.n];exact hi
   rw [R.owns] at h;refine ⟨zT a5,λnm o _=>?_⟩;show J.get nm=w.g nm;rw [hold nm (R.eta i s nm h o).2.1,R.g]
  .rw [R.nx];show H.next<=J.next
   rw [B];have:=a.keeps.next
   omega
 have f:H.next<=J.next:=by rw [B];have:=a.keeps.next;omega
 have hk:Keeps H J:=⟨f,a3,a4,hold⟩;have q:∀ j s nm,look k.owns j=some s->w1.eta j=some nm->(j<st.next/\look st.owns j=some s/\w.eta j=some nm/\nm<H.next)∨(st.next<=j/\w'.eta (j-st.next)=some nm/\H.next<=nm):=by
  intro j s nm h o;by_cases hj:j<st.next
  .left;have F:w.eta j=some nm:=by
    have:w1.eta j=w.eta j:=zT hj;rw [<-this];exact o
   rw [d j hj] at h;exact ⟨hj,h,F,(R.eta j s nm h F).2.1⟩
  .right;have F:w'.eta (j-st.next)=some nm:=by
    have:w1.eta j=w'.eta (j-st.next):=zF hj;rw [<-this];exact o
   have:=(a.eta _ nm F).1;exact ⟨by omega,F,by omega⟩
 have R1:RelH X sz C base k J w1:=by
  refine ⟨λn o=>?_,R.rob,rfl,rfl,R.b,λn o=>?_,rfl,zR R.one (Nat.le_add_right _ _),R.keeps.trans hk,λid h=>?_,R.cinj,λid ps h=>?_,λ_=>rfl,λi s h=>?_,λi s nm h o=>?_,λi j s Y nm h1 h2 e1 e2=>?_,R.ce,λid b h=>?_,λgn ps h=>?_⟩
  .rw [A n (zR f o)];exact a.wf n (by rw [<-B];exact o)
  .rw [B];exact a.Mlt n o
  .obtain ⟨u,t,P⟩:=R.cl id h;exact ⟨zL u (Nat.le_add_right _ _),zL t f,P⟩
  .obtain ⟨u,t,q5⟩:=R.cells id ps h;refine ⟨u,(N _ (R.cl id u).2.1).2 t,?_⟩;show qbq X sz w1 id _ (J.get (w.c id));rw [hold _ (R.cl id u).2.1];exact q5.mono ok.len O (by rw [R.n];exact (R.cl id u).1)
  .rw [E] at h;split at h
   .rename_i hc;have:=U _ hc.2;show i<st.next+m
    omega
   .exact zL (R.ownn i s h) (Nat.le_add_right _ _)
  .rcases q i s nm h o with ⟨u,t,P,q4⟩ | ⟨u,t,P⟩
   .obtain ⟨b1,b2,b3⟩:=R.eta i s nm t P;exact ⟨b1,zL b2 f,λy=>b3 ((N nm b2).1 y)⟩
   .obtain ⟨b1,b2,b3⟩:=a.eta _ nm t;have:=R.keeps.next
    exact ⟨by omega,by rw [B];exact b2,b3⟩
  .rcases q i s nm h1 e1 with ⟨u,t,P,q4⟩ | ⟨u,t,P⟩<;>rcases q j Y nm h2 e2 with ⟨p1,p2,p3,p4⟩ | ⟨p1,p2,p3⟩
   .exact R.einj i j s Y nm t p2 P p3
   .omega
   .omega
   .have:=a.einj _ _ nm t p2;omega
  .obtain ⟨q0,u,t⟩:=R.known id b h;exact ⟨q0,zL u (Nat.le_add_right _ _),t⟩
  .obtain ⟨q0,a6,e',fl,fz,ex',u,t,P⟩:=R.globs gn ps h;exact ⟨q0,a6,e',fl,fz,ex',u,t,P.mono ok.len O⟩
 have r1:Rep X sz w1 (qia (qh0 st.next) r) v:=by
  refine zb8 (w1:={w' with g:=J.get}) (w2:=w1) (nx:=st.next) ok2.plain rfl rfl ?_ ?_ ?_ a.owns (a.rep.mono ok.len W) form
  .show w.ce=w'.ce;rw [R.ce,a.ce]
  .intro i hi;have hi:i<w'.n:=hi;rw [a.n] at hi;show st.next+i<st.next+m
   have:i<m:=hi;omega
  .intro i;show (if st.next+i<st.next then w.eta (st.next+i) else w'.eta (st.next+i-st.next))=w'.eta i;rw [zF (by omega),Nat.add_sub_cancel_left]
 have a7:qb5 st r=(match qia (qh0 st.next) r with
   | .tuple l=>(.tuple (jy l k.next).1,{k with next:=(jy l k.next).2})
   | p=>qdm p k):=by
  unfold qb5;simp only;cases qia (qh0 st.next) r<;>rfl
 rw [a7];cases hq:qia (qh0 st.next) r with
 | tuple l=>
  rw [hq] at r1;obtain ⟨vs,rfl,rl⟩:=r1.qei;obtain ⟨nu',g1,g2,g3⟩:=qec ok.len rl R1.one;obtain ⟨G,R2⟩:=R1.ext ok g2 g1;exact ⟨_,rfl,rfl,R2,O.trans G,.tuple' g3,λ_ _=>rfl⟩
 | _=>
  rw [hq] at r1;obtain ⟨w2,o,R2,G,r2⟩:=qh6 ok R1 r1;exact ⟨w2,o.tmps,o.n,R2,O.trans G,r2,λl hl=>by rw [hl] at hq;cases hq⟩
def zul (w:Wd):Tgt->Tgt
 | .func f=>.func f
 | .round id=>.round (w.c id)
def qhd (X:Codecs K) (sz:Nat->Nat) (C:ZC K) (inl:ZI K):Prop:=
 ∀ t args (st:StV K) k,inl t args st k->∀ base H w vs,RelH X sz C base st H w->ql X sz w args vs->
  qaa C.E (zul w t) vs H λv H'=>∃ p a w',k p a/\a.tmps=st.tmps/\a.n=st.n/\RelH X sz C base a H' w'/\Le w w'/\Rep X sz w' p v
structure Cut (X:Codecs K) (sz:Nat->Nat) (C:ZC K) (base H H1:Heap) (w:Wd):Prop where
 sub:∀ n x,H1.get n=some x->H.get n=some x
 old:∀ n,n<base.next->H1.get n=H.get n
 nx:H1.next=H.next
 gl:H1.qp=H.qp
 ro:H1.ro<=H1.next
 gs:∀ gn ps vs e fl fz ex,C.qp gn=some ps->base.get gn=some (.row vs e 0 fl fz ex)->gn<base.next->Rep X sz {w with g:=H1.get} (.eptr ps 0) (.ptr gn 0 0 vs.length)
theorem Cut.same (R:RelH X sz C base st H w) {H1:Heap} (a:∀ n,H1.get n=H.get n) (b:H1.next=H.next) (c:H1.qp=H.qp) (d:H1.ro<=H1.next):Cut X sz C base H H1 w:=by
 have i:({w with g:=H1.get}:Wd)=w:=by
  have:H1.get=w.g:=by rw [R.g];exact funext a
  rw [this]
 refine ⟨λn x h=>by rw [<-a];exact h,λn _=>a n,b,c,d,λgn ps vs e fl p ex h j _=>?_⟩;obtain ⟨_,k,q,l,m,ex',f,r,o⟩:=R.globs gn ps h;rw [j] at f;cases f;rw [i];exact o
theorem Cut.start (ok2:CfgOk2 X C) (R:RelH X sz C base st H w) {H1:Heap} (cut:Cut X sz C base H H1 w):Start X sz C H1 w.M:=by
 refine ⟨λn e=>?_,⟨cut.ro,by rw [cut.gl,R.keeps.qp];exact R.rob.2.1,λgn o c=>⟨by rw [cut.old gn (R.rob.2.2 gn o c).2,R.keeps.old gn (R.rob.2.2 gn o c).2];exact (R.rob.2.2 gn o c).1,by rw [cut.nx];exact zL (R.rob.2.2 gn o c).2 R.keeps.next⟩⟩,λn e=>?_,λgn ps a=>?_⟩
 .cases h:H1.get n with
  | none=>rfl
  | some x=>have:=cut.sub n x h;rw [R.wf n (by rw [<-cut.nx];exact e)] at this;cases this
 .rw [cut.nx];exact R.Mlt n e
 .obtain ⟨k,b,f,fl,i,ex',j,d,l⟩:=R.globs gn ps a;refine ⟨by rw [cut.gl,R.keeps.qp];exact k,b,f,fl,i,ex',by rw [cut.old gn d,R.keeps.old gn d];exact j,by rw [cut.nx];exact zL d R.keeps.next,?_⟩;exact Rep.plain (w:={w with g:=H1.get}) (w':=wd0 H1 w.M C.codec) ok2.plain rfl (λ_ _ _ h=>h) (cut.gs gn ps b f fl i ex' a j d) (.eptr (ok2.qp gn ps a))
theorem qt5 (ok2:CfgOk2 X C) (tok:qcu X sz C tbl) (R:RelH X sz C base st H w) {g:Nat} {args:List (PV K)} {vs:List V} {pre:Prop} {r:PV K} {H1:Heap} (cut:Cut X sz C base H H1 w) (e:ql X sz {w with g:=H1.get} args vs)
  (h:fnP (qu X tbl inv meas) st g args=some (pre,r)) (f:pre):Form r/\qaa C.E (.func g) vs H1 λv H'=>∃ w',Answer X sz C H1 w.M r (qni (qbs r.flat)) v H' w':=by
 obtain ⟨⟨b,c⟩,i,j⟩:=zI.1 h;obtain ⟨k,l,m⟩:=zI.1 j;obtain ⟨d,n,o,a⟩:=tok g b c k pre r i m f;exact ⟨a,o H1 w.M vs (cut.start ok2 R) (qln ok2.plain (w:={w with g:=H1.get}) (w':=wd0 H1 w.M C.codec) rfl (λ_ _ _ h=>h) l e n)⟩
theorem qu0 (ok2:CfgOk2 X C) {w w':Wd} (d:w'.g=w.g) (e:∀ nm x,w.g nm=some x->¬ w.M nm->¬ w'.M nm) {p q:PV K} {v:V} (r:Rep X sz w p v) (h:q4p (qu X tbl inv meas) p=some q) :
  Rep X sz w' q v/\Plain q/\Simple q/\∀ c x i,q≠.list c x (some i):=by
 cases p with
 | int k l n=>cases h;cases r with | int A=>exact ⟨.int A,.int,.int,by simp⟩
 | lit b=>cases h;cases r;exact ⟨.lit,.lit,.lit,by simp⟩
 | sb id neg b J L=>cases h;cases r;exact ⟨.sb .rfl (by show _=false↔_;exact .rfl) λB=>absurd rfl B,.sb,.sb,by simp⟩
 | str s=>cases h;cases r;exact ⟨.str,.str,.str,by simp⟩
 | list c l o=>
  cases h;refine ⟨?_,.list,.list,by simp⟩;have D:Rep X sz w (.list c l none) v:=by
   cases r with
   | nlist E=>exact .nlist trivial
   | list d F e j m G t H E=>exact .list d F e j m G t H trivial
  exact D.plain ok2.plain d e .list
 | func f a c=>
  cases a with
  | nil=>
   cases c with
   | nil=>cases h;exact ⟨r.plain ok2.plain d e .func,.func,.func,by simp⟩
   | cons _ _=>cases h
  | cons _ _=>cases h
 | nilf=>cases h;exact ⟨r.plain ok2.plain d e .nilf,.nilf,.nilf,by simp⟩
 | nils=>cases h;exact ⟨r.plain ok2.plain d e .nils,.nils,.nils,by simp⟩
 | plist I n fx cs=>
  simp only [q4p] at h;cases m:cs.all zdj with
  | false=>rw [m] at h;cases h
  | true=>
   rw [m] at h;cases h;have u:∀ p ∈ cs,p=.nilf∨∃ f,p=.func f [] []:=λp y=>by
    have:=List.all_eq_true.1 m p y;unfold zdj at this;split at this
    .exact .inr ⟨_,rfl⟩
    .exact .inl rfl
    .cases this
   have z:Plain (.plist I n fx cs:PV K):=.plist λp y=>by rcases u p y with rfl | ⟨f,rfl⟩<;>constructor
   exact ⟨r.plain ok2.plain d e z,z,.plist u,by simp⟩
 | _=>cases h
theorem qu1 (ok2:CfgOk2 X C) {w w':Wd} (d:w'.g=w.g) (e:∀ nm x,w.g nm=some x->¬ w.M nm->¬ w'.M nm):∀ {ps a:List (PV K)} {vs:List V},ql X sz w ps vs->q4r (qu X tbl inv meas) ps=some a->
  ql X sz w' a vs/\∀ q ∈ a,Plain q/\Simple q/\∀ c x i,q≠.list c x (some i)
 | [],a,vs,r,h=>by
  simp only [q4r,zS] at h;subst h;rw [r.z6];exact ⟨.nil,λq b=>by cases b⟩
 | p::ps,a,vs,r,h=>by
  obtain ⟨v,f,rfl,j,k⟩:=r.zk;simp only [q4r] at h;obtain ⟨q,l,m⟩:=zI.1 h;obtain ⟨n,o,rfl⟩:=zM.1 m;obtain ⟨s,t⟩:=qu0 ok2 d e j l;obtain ⟨u,y⟩:=qu1 ok2 d e k o;refine ⟨.cons s u,λz b=>?_⟩;rcases zD.1 b with rfl | b
  .exact t
  .exact y z b
theorem qw3 (ok2:CfgOk2 X C) {w w':Wd} (f:w'.g=w.g) (j:∀ nm x,w.g nm=some x->¬ w.M nm->¬ w'.M nm) {p q:PV K} {v:V} (r:Rep X sz w p v) (h:bare (qu X tbl inv meas) p=some q) :
  Rep X sz w' q v/\Plain q/\Form1 q/\∀ y ∈ q.cellsOf,∀ c x i,y≠.list c x (some i):=by
 by_cases l:∃ cs,p=.agg cs
 .obtain ⟨cs,rfl⟩:=l;obtain ⟨s,m,rfl⟩:=zM.1 h;obtain ⟨vs,rfl,n⟩:=r.qcw;obtain ⟨d,b⟩:=qu1 ok2 f j n m;exact ⟨.qqq d,.agg λy a=>(b y a).1,.agg λy a=>(b y a).2.1,λy a=>(b y a).2.2⟩
 .have e:bare (qu X tbl inv meas) p=q4p (qu X tbl inv meas) p:=by
   cases p with
   | agg cs=>simp_all
   | _=>rfl
  rw [e] at h;obtain ⟨d,b,k,o⟩:=qu0 ok2 f j r h;refine ⟨d,b,.one k,λy a=>?_⟩;have:q.cellsOf=[q]:=by
   cases k<;>rfl
  rw [this] at a;rw [List.mem_singleton.1 a];exact o
theorem qm1 (ok2:CfgOk2 X C) {w w':Wd} (d:w'.g=w.g) (e:∀ nm x,w.g nm=some x->¬ w.M nm->¬ w'.M nm):∀ {ps a:List (PV K)} {vs:List V},ql X sz w ps vs->qw2 (qu X tbl inv meas) ps=some a->
  ql X sz w' a vs/\∀ q ∈ a,Plain q/\Form1 q/\∀ y ∈ q.cellsOf,∀ c x i,y≠.list c x (some i)
 | [],a,vs,r,h=>by
  simp only [qw2,zS] at h;subst h;rw [r.z6];exact ⟨.nil,λq b=>by cases b⟩
 | p::ps,a,vs,r,h=>by
  obtain ⟨v,f,rfl,j,k⟩:=r.zk;simp only [qw2] at h;obtain ⟨q,l,m⟩:=zI.1 h;obtain ⟨n,o,rfl⟩:=zM.1 m;obtain ⟨s,t⟩:=qw3 ok2 d e j l;obtain ⟨u,z⟩:=qm1 ok2 d e k o;refine ⟨.cons s u,λA b=>?_⟩;rcases zD.1 b with rfl | b
  .exact t
  .exact z A b
theorem qoj:∀ {l:List (PV K)},(∀ y ∈ l,∀ c x i,y≠.list c x (some i))->qbs l=[]
 | [],_=>rfl
 | p::l,h=>by
  have a:=qoj (l:=l) λy b=>h y (zG _ b);cases p with
  | list c x o=>
   cases o with
   | none=>exact a
   | some i=>exact absurd rfl (h _ zC c x i)
  | _=>exact a
theorem q4q (ok2:CfgOk2 X C) {w w':Wd} (f:w'.g=w.g) (i:∀ nm x,w.g nm=some x->¬ w.M nm->¬ w'.M nm) {p q:PV K} {v:V} (r:Rep X sz w p v) (h:zdk (qu X tbl inv meas) p=some q) :
  Rep X sz w' q v/\Form q/\qbs q.flat=[]:=by
 by_cases k:∃ l,p=.tuple l
 .obtain ⟨l,rfl⟩:=k;obtain ⟨u,m,rfl⟩:=zM.1 h;obtain ⟨vs,rfl,n⟩:=r.qei;obtain ⟨a,b⟩:=qm1 ok2 f i n m;refine ⟨.tuple' a,.tuple λy c=>(b y c).2.1,qoj λy c=>?_⟩;obtain ⟨z,o,d⟩:=List.mem_flatMap.1 c;exact (b z o).2.2 y d
 .have e:zdk (qu X tbl inv meas) p=bare (qu X tbl inv meas) p:=by
   cases p with
   | tuple l=>simp_all
   | _=>rfl
  rw [e] at h;obtain ⟨a,b,j,s⟩:=qw3 ok2 f i r h;refine ⟨a,.one j,?_⟩;have:q.flat=q.cellsOf:=by
   cases j with
   | one t=>cases t<;>rfl
   | agg _=>rfl
  rw [this];exact qoj s
def zkd (X:Codecs K) (sz:Nat->Nat) (C:ZC K) (H:Heap) (M:Nat->Prop) (st:StV K) (k:PV K->StV K->Prop) (v:V) (H':Heap):Prop:=
 ∃ r u w',Form r/\Answer X sz C H M r (qni (qbs r.flat)) u H' w'/\((u=v/\k (qb5 st r).1 (qb5 st r).2)∨
  (r=.tuple []/\∃ (c:Nat) (fx:Bool) (n:Int) (l:List (K c)) (nm:Nat) (vs:List V) (e:TypeId) (ex:Bool),w'.M nm/\H.next<=nm/\nm<H'.next/\H'.get nm=some (.row vs e 0 0 0 ex)/\ql X sz w' (qj1 X (.ml c l)) vs/\0<=n/\0<sz c/\
    v=.slice nm 0 0 n.toNat (sz c) (if fx then some n.toNat else none)/\k (.mlist st.next c fx n) {st with cells:=(st.next,.ml c l)::st.cells,next:=st.next+1}))
theorem q4m (ok:CfgOk X sz C) (R:RelH X sz C base st H w) {nm:Nat} (x:w.M nm) (L:base.next<=nm) (y:nm<H.next) (r:∀ id,w.cl id->w.c id≠nm) {ct:ZT K}
  (z:∀ w',Le w w'->w'.g=w.g->w'.M=w.M->qbq X sz w' st.next ct (H.get nm)) :
  ∃ w',RelH X sz C base {st with cells:=(st.next,ct)::st.cells,next:=st.next+1} H w'/\Le w w'/\w'.c st.next=nm/\st.next<w'.n:=by
 let w':Wd:={w with n:=st.next+1,c:=λid=>if id=st.next then nm else w.c id,cl:=λid=>w.cl id∨id=st.next};have k:Le w w':=⟨⟨by rw [R.n];exact Nat.le_succ _,λnm cs e A B D ex h x=>⟨x,[],A,D,ex,by rw [zJ];exact h⟩,λid hi=>zF (by rw [R.n] at hi;omega),λ_ _=>rfl,λ_ _ h=>h,
  λ_ _ _ _ h j=>(by rw [h] at j;cases j;exact zN _),λ_ _ _ _ _=>⟨rfl,λ_ _ _=>rfl⟩,rfl,λid hi=>⟨λh=>h.elim (λh=>h) (λh=>by rw [R.n] at hi;omega),.inl⟩,zN _,rfl,λ_ _ h=>h,λ_ _=>rfl⟩,λ_ h=>h,rfl⟩
 have m:w'.c st.next=nm:=zT rfl
 refine ⟨w',⟨R.wf,R.rob,R.g,R.nx,R.b,R.Mlt,rfl,Nat.le_succ_of_le R.one,R.keeps,λid h=>?_,λa d I J q=>?_,λf o j=>?_,R.owns,λi s h=>Nat.lt_succ_of_lt (R.ownn i s h),R.eta,R.einj,R.ce,λid b h=>?_,λgn o j=>?_⟩,k,m,Nat.lt_succ_self _⟩
 .by_cases hi:id=st.next
  .subst hi;exact ⟨Nat.lt_succ_self _,by rw [m];exact y,by rw [m];exact L⟩
  .obtain ⟨l,p,E⟩:=R.cl id (h.elim (λh=>h) (λh=>absurd h hi));have t:w'.c id=w.c id:=zF hi;exact ⟨Nat.lt_succ_of_lt l,by rw [t];exact p,by rw [t];exact E⟩
 .by_cases u:a=st.next<;>by_cases v:d=st.next
  .omega
  .rw [u,m,show w'.c d=w.c d from zF v] at q;exact absurd q.symm (r d (J.elim (λh=>h) (λh=>absurd h v)))
  .rw [v,m,show w'.c a=w.c a from zF u] at q;exact absurd q (r a (I.elim (λh=>h) (λh=>absurd h u)))
  .rw [show w'.c a=w.c a from zF u,show w'.c d=w.c d from zF v] at q;exact R.cinj a d (I.elim (λh=>h) (λh=>absurd h u)) (J.elim (λh=>h) (λh=>absurd h v)) q
 .simp only [qaw] at j;by_cases hi:f=st.next
  .subst hi;rw [zT rfl] at j;cases j;exact ⟨.inr rfl,by rw [m];exact x,by rw [m];exact z w' k rfl rfl⟩
  .rw [zF hi] at j;obtain ⟨l,p,N⟩:=R.cells f o j;have t:w'.c f=w.c f:=zF hi;exact ⟨.inl l,by rw [t];exact p,by rw [t];exact N.mono ok.len k (by rw [R.n];exact (R.cl f l).1)⟩
 .obtain ⟨F,l,p⟩:=R.known id b h;exact ⟨F,Nat.lt_succ_of_lt l,p⟩
 .obtain ⟨F,G,O,fl,P,ex',l,p,E⟩:=R.globs gn o j;exact ⟨F,G,O,fl,P,ex',l,p,E.mono ok.len k⟩
theorem q4o (ok:CfgOk X sz C) (ok2:CfgOk2 X C) (R:RelH X sz C base st H w) {H1 H' J:Heap} {k:PV K->StV K->Prop} (D:H1.next=H.next) {v:V} {r:PV K} {u:V} {w':Wd} (form:Form r) (a:Answer X sz C H1 w.M r (qni (qbs r.flat)) u H' w')
  (s:(u=v/\k (qb5 st r).1 (qb5 st r).2)∨
    (r=.tuple []/\∃ (c:Nat) (fx:Bool) (n:Int) (l:List (K c)) (nm:Nat) (vs:List V) (e:TypeId) (ex:Bool),w'.M nm/\H1.next<=nm/\nm<H'.next/\H'.get nm=some (.row vs e 0 0 0 ex)/\ql X sz w' (qj1 X (.ml c l)) vs/\0<=n/\0<sz c/\
      v=.slice nm 0 0 n.toNat (sz c) (if fx then some n.toNat else none)/\k (.mlist st.next c fx n) {st with cells:=(st.next,.ml c l)::st.cells,next:=st.next+1}))
  (hold:∀ n,n<H.next->J.get n=H.get n) (b:∀ n x,H'.get n=some x->J.get n=some x) (o:∀ n,H.next<=n->J.get n=H'.get n) (t:J.next=H'.next) (E:J.ro=H.ro) (F:J.qp=H.qp) :
  ∃ p f d,k p f/\f.tmps=st.tmps/\f.n=st.n/\RelH X sz C base f J d/\Le w d/\Rep X sz d p v:=by
 obtain ⟨d,e1,e2,y,h,r',i⟩:=qix ok ok2 R form D a hold b o t E F;rcases s with ⟨rfl,s⟩ | ⟨rfl,c,fx,n,l,nm,vs,e,ex,hM,h1,h2,h3,U,h5,h6,rfl,s⟩
 .exact ⟨_,_,d,s,e1,e2,y,h,r'⟩
 .have G:(qb5 st (.tuple []:PV K)).2=st:=by cases st;rfl
  rw [G] at y;have i:=i _ rfl;have q:J.get nm=some (.row vs e 0 0 0 ex):=b _ _ h3;have a0:=R.keeps.next
  obtain ⟨W,R3,z,I,L⟩:=q4m ok y (nm:=nm) (ct:=.ml c l) (by rw [i];exact hM) (by omega) (by rw [t];exact h2) (λid A=>by
   have B:id<w.n:=by have:=(y.cl id A).1;rw [R.n];exact this
   have N:=(h.cl id B).1 A;have:=(R.cl id N).2.1;rw [h.c id B]
   omega) (λw0 Y O P=>by
   rw [q];refine ⟨vs,e,ex,rfl,trivial,U.1,λj p Z=>?_⟩;obtain ⟨x,_,hx⟩:=List.mem_flatMap.1 (List.mem_of_getElem? Z);refine (U.2 j p Z).qyo ok.len ok2.plain (λnm cs e Q S T ex hr hm=>⟨by rw [P,i];exact hm,[],Q,T,ex,?_⟩) (ok2.plain c x p hx);rw [zJ,O,y.g];rw [a.g] at hr;exact b _ _ hr)
  have m:=Rep.mlist (X:=X) (sz:=sz) (w:=W) (id:=st.next) (c:=c) (fx:=fx) L h5 h6;rw [I] at m;exact ⟨_,_,W,s,rfl,rfl,R3,h.trans z,m⟩
theorem q8y (ok:CfgOk X sz C) (ok2:CfgOk2 X C) {inl:ZI K} (D:qhd X sz C inl) (R:RelH X sz C base st H w) {g:Nat} {args:List (PV K)} {vs:List V} {k:PV K->StV K->Prop} {H1:Heap} (cut:Cut X sz C base H H1 w)
  (ra:ql X sz {w with g:=H1.get} args vs) (h:q3v (qu X tbl inv meas) inl (.func g) args st k) :
  qaa C.E (.func g) vs H1 λv H'=>zkd X sz C H1 w.M st k v H':=by
 unfold q3v at h;simp only at h;split at h
 .rename_i as F;obtain ⟨G,_⟩:=qm1 (w:={w with g:=H1.get}) (w':=wd0 H1 w.M C.codec) ok2 rfl (λ_ _ _ h=>h) ra F;have o:Le (wd0 H1 w.M C.codec) {wd0 H1 w.M C.codec with n:=1}:=Le.ext (w:=wd0 H1 w.M C.codec) (m:=1) (nu':=λ_=>false) (Nat.zero_le _) (λ_ _=>rfl);obtain ⟨nu',g1,g2,g3⟩:=qec ok.len (G.mono ok.len o) (zN 1);let I:Wd:={wd0 H1 w.M C.codec with n:=(jy as 1).2,nu:=nu'};have q:Le (wd0 H1 w.M C.codec) I:=Le.ext (w:=wd0 H1 w.M C.codec) (Nat.zero_le _) (λid hi=>by have:id<0:=hi;omega);have S:=cut.start ok2 R;have R0:RelH X sz C H1 {tmps:=.nil,n:=0,cells:=[],owns:=[],next:=(jy as 1).2,known:=[]} H1 I:=by
   refine ⟨S.wf,S.ro,rfl,rfl,rfl,S.Mlt,rfl,g2,.refl H1,λ_ J=>False.elim J,λ_ _ J=>False.elim J,λid ps a=>(by cases a),λ_=>rfl,λi s a=>(by cases a),λi s nm a=>(by cases a),λi j s s' nm a=>(by cases a),rfl,λid b a=>(by cases a),λgn ps L=>?_⟩;obtain ⟨q0,N,e',fl,fz,ex',q1,q2,q3⟩:=S.globs gn ps L;exact ⟨q0,N,e',fl,fz,ex',q1,q2,q3.mono ok.len q⟩
  refine (D (.func g) _ _ _ h H1 H1 I vs R0 g3).mono λv H' hA=>?_;obtain ⟨p,a0,w',f,_,_,e,P,rp⟩:=hA;let w2:Wd:={g:=H'.get,M:=λn=>if n<H1.next then w.M n else w'.M n,c:=λ_=>0,nu:=λ_=>false,n:=0,owns:=λ_=>some 0,eta:=λ_=>none,ce:=C.codec,cl:=λ_=>False,nx:=H'.next,b:=H1.next,lp:=λ_=>none,fl:=0};have t:∀ n,n<H1.next->(w2.M n↔w.M n):=λn Q=>by
   show (if n<H1.next then w.M n else w'.M n)↔w.M n;rw [zT Q]
  have u:∀ n,w2.M n->n<H'.next:=λn Q=>by
   have z:(if n<H1.next then w.M n else w'.M n):=Q;split at z
   .rename_i d;exact zL d e.keeps.next
   .exact e.Mlt n z
  have A:∀ nm (x:O),w'.g nm=some x->¬ w'.M nm->¬ w2.M nm:=λnm x _ hm=>by
   show ¬ (if nm<H1.next then w.M nm else w'.M nm);split
   .rename_i d;exact λT=>hm (P.Mu nm d T)
   .exact hm
  split at f
  .rename_i id c fx n;obtain ⟨l,a,f⟩:=qf f;obtain ⟨U,hM,W,e0,Y,Z,_,B⟩:=e.cells id _ (qfv a);obtain ⟨_,d,hb⟩:=e.cl id U;cases rp with
   | mlist hi T hz=>
    refine ⟨.tuple [],zs,w2,.tuple λy hy=>(by cases hy),⟨e.keeps,e.wf,rfl,t,u,rfl,rfl,λ_=>rfl,λj nm he=>(by cases he),λj1 j2 nm e1=>(by cases e1),.undef⟩,
     .inr ⟨rfl,c,fx,n,l,w'.c id,W,e0,Y,?_,hb,d,Z,⟨B.1,λj p hp=>?_⟩,T,hz,rfl,f⟩⟩
    .show (if w'.c id<H1.next then w.M (w'.c id) else w'.M (w'.c id));rw [zF (by omega)];exact hM
    .obtain ⟨x,_,hx⟩:=List.mem_flatMap.1 (List.mem_of_getElem? hp);exact (B.2 j p hp).plain ok2.plain e.g.symm A (ok2.plain c x p hx)
  .split at f
   .rename_i r hr;obtain ⟨b1,b2,b3⟩:=q4q ok2 (w':=w2) e.g.symm A rp hr;exact ⟨r,v,w2,b2,⟨e.keeps,e.wf,rfl,t,u,rfl,by rw [b3];rfl,λ_=>rfl,λj nm he=>(by cases he),λj1 j2 nm e1=>(by cases e1),b1⟩,.inl ⟨rfl,f⟩⟩
   .exact absurd f id
 .exact absurd h id
theorem qu5 (ok:CfgOk X sz C) (ok2:CfgOk2 X C) (tok:qcu X sz C tbl) {inl:ZI K} (e:qhd X sz C inl) (R:RelH X sz C base st H w) {f:PV K} {u:V} {args:List (PV K)} {vs:List V} {k:PV K->StV K->Prop}
  (x:Rep X sz w f u) (y:ql X sz w args vs) (h:q4z (qu X tbl inv meas) inl f args st k) :
  ∃ t us,qdr u vs=some (.call t us)/\qaa C.E t us H λv H'=>∃ p b w',k p b/\b.tmps=st.tmps/\b.n=st.n/\RelH X sz C base b H' w'/\Le w w'/\Rep X sz w' p v:=by
 unfold q4z at h;split at h
 .rename_i g first cap
  cases x with
  | @func W a c z A D F G I=>
  have i:ql X sz w (first++args++cap) (z++vs++A):=ql.append (ql.append (ps:=first) ⟨D,G⟩ y) ⟨F,I⟩;refine ⟨.func g,z++vs++A,rfl,?_⟩;split at h
  .rename_i L r m;cases B:distinct (qbs r.flat) with
   | false=>rw [B] at h;exact absurd h id
   | true=>
    rw [B] at h;simp only [zO,↓reduceIte] at h;obtain ⟨j,M⟩:=h;have o:H.ro<=H.next:=by rw [R.keeps.ro];exact zR R.rob.1 R.keeps.next
    have N:({w with g:=H.get}:Wd)=w:=by rw [<-R.g]
    obtain ⟨l,d⟩:=qt5 ok2 tok R (H1:=H) (.same R (λ_=>rfl) rfl rfl o) (by rw [N];exact i) m j;refine d.mono λv H' O=>?_;obtain ⟨w',a⟩:=O;obtain ⟨q,P,Q,S,s,T,_⟩:=qix ok ok2 R l (H1:=H) rfl a (J:=H') a.keeps.old (λ_ _ h=>h) (λ_ _=>rfl) rfl a.keeps.ro a.keeps.qp;exact ⟨_,_,q,M,P,Q,S,s,T⟩
  .exact e (.func g) _ st k h base H w _ R i
 .rename_i id;cases x with
  | yield U=>exact ⟨.round (w.c id),vs,rfl,e (.round id) _ st k h base H w _ R y⟩
 .exact absurd h id
end
end Go.E3
/- E3: REGIONS in the order of the text. -/
namespace Go.E3
open Go Go.E2
variable {K:Nat->Type}
section
variable {X:Codecs K} {sz:Nat->Nat} {C:ZC K} {base H:Heap} {st:StV K} {fr:Fr} {w:Wd}
variable {tbl:Tbl K} {inv:Nat->List (NV K)->Prop} {meas:Nat->List (NV K)->Nat} {inl:ZI K}
variable {nd:Bool} {all:Array Oper} {Q:Ex->Fr->Heap->Prop}
theorem Rel.put (R:Rel X sz C base st fr H w) {dst:Option Tmp} {p:PV K} {v:V} (r:Rep X sz w p v):Rel X sz C base (st.put dst p) (fr.put dst v) H w:=by
 obtain ⟨h,f,n,ds⟩:=R;cases dst with
 | none=>exact ⟨h,f,n,ds⟩
 | some d=>
  obtain ⟨t,m,c,o,x,l⟩:=st;obtain ⟨s,e,j⟩:=fr;have k:e=m:=n;subst k;simp only [St.put,Fr.put];cases u:Nat.blt d e with
  | false=>simp only [zQ,Bool.false_eq_true,↓reduceIte];exact ⟨h,f,rfl,ds⟩
  | true=>
   simp only [zO,↓reduceIte];refine ⟨⟨h.wf,h.rob,h.g,h.nx,h.b,h.Mlt,h.n,h.one,h.keeps,h.cl,h.cinj,h.cells,h.owns,h.ownn,h.eta,h.einj,h.ce,h.known,h.globs⟩,λi q a=>?_,rfl,ds⟩;simp only [Tree.zn] at a;simp only [Fr.tmp,Tree.zn];by_cases hi:i=d
   .rw [zT hi] at a ⊢;cases a;exact ⟨v,rfl,r⟩
   .rw [zF hi] at a ⊢;exact f i q a
theorem Rel.step (ok:CfgOk X sz C) (R:Rel X sz C base st fr H w) {a:StV K} {H':Heap} {w':Wd} (c:a.tmps=st.tmps) (d:a.n=st.n) (e:RelH X sz C base a H' w') (hle:Le w w'):Rel X sz C base a fr H' w':=
 ⟨e,λi p b=>by
  rw [c] at b;obtain ⟨v,g,h⟩:=R.f i p b;exact ⟨v,g,h.mono ok.len hle⟩,by rw [d];exact R.n,R.ds.mono hle⟩
theorem qv1 (R:Rel X sz C base st fr H w) {o:Oper} {k:Bool->StV K->Prop} (h:zbk (qu X tbl inv meas) o all st k) :
  ∃ b a,ky o all fr=some b/\k b a/\Near st a/\a.next=st.next/\RelH X sz C base a H w:=by
 unfold zbk at h;split at h
 .rename_i e;exact ⟨true,st,qdk e,h,.refl st,rfl,R.h⟩
 .rename_i j c e;split at h
  .rename_i g;exact ⟨false,st,by simp only [ky,e,g],h,.refl st,rfl,R.h⟩
  .rename_i d g;split at h
   .rename_i b i;obtain ⟨v,l,m⟩:=R.f d _ i;cases m;exact ⟨b == c,st,qwr e g l,h,.refl st,rfl,R.h⟩
   .rename_i id neg b y z i;obtain ⟨v,l,m⟩:=R.f d _ i;cases m with
    | sb n p q=>
     obtain ⟨a,r,s,t,u⟩:=qw6 R.h (.sb n p q) h;exact ⟨b == c,a,qwr e g l,r,s,t,u⟩
   .rename_i i;obtain ⟨v,l,m⟩:=R.f d _ i;obtain ⟨vs,rfl,x⟩:=m.qei;have:=x.z6;subst this;exact ⟨false,st,q9e e g l,h,.refl st,rfl,R.h⟩
   .exact absurd h id
theorem qxj {H:Heap} {s:List UInt8}:km H 1 (.str s)=some (s.length,s.map λb=>.int .u8 b.toNat):=by
 simp only [km,V.qb2,qcj,Nat.beq_refl,zO]
theorem q1t (ok:CfgOk X sz C) (s:List UInt8):(X.u8 ▸ s:List (K 0)).length=s.length/\ql X sz w ((X.u8 ▸ s:List (K 0)).flatMap (X.cells 0)) (s.map λb=>V.int .u8 b.toNat):=by
 have a:∀ (l:List (K 0)),ql X sz w (l.flatMap (X.cells 0)) ((X.u8 ▸ l:List UInt8).map λb=>V.int .u8 b.toNat):=by
  intro l;rw [qtw]
  induction l with
  | nil=>exact .nil
  | cons x l c=>
   rw [List.flatMap_cons,ok.u8,List.singleton_append,List.map_cons,List.map_cons];exact .cons (.int λm d=>by cases d) c
 have e:(X.u8 ▸ (X.u8 ▸ s:List (K 0)):List UInt8)=s:=by
  have:∀ {α β:Type} (h:α=β) (s:List β),(h ▸ (h ▸ s:List α):List β)=s:=by intro α β h s;subst h;rfl
  exact this X.u8 s
 have f:∀ {α β:Type} (h:α=β) (s:List β),(h ▸ s:List α).length=s.length:=by intro α β h s;subst h;rfl
 refine ⟨f X.u8 s,?_⟩;have:=a (X.u8 ▸ s);rw [e] at this;exact this
theorem zd6 (ok:CfgOk X sz C) (ok2:CfgOk2 X C) (tok:qcu X sz C tbl) (ad:qhd X sz C inl) (R:Rel X sz C base st fr H w) {o:Oper} {l:List Oper} {k:PV K->StV K->Prop} (hd:qrv o.op=false) (hw:ky o all fr=some true) (h:qba (qu X tbl inv meas) C inl o st k)
  (next:∀ p i v H' w',k p i->i.tmps=st.tmps->i.n=st.n->RelH X sz C base i H' w'->Le w w'->Rep X sz w' p v->WpO C.E nd all l (fr.put o.dst v) H' Q):WpO C.E nd all (o::l) fr H Q:=by
 have j:qa7 o=false:=hd;by_cases hp:qen o.op=true
 .obtain ⟨p,i,v,w',d,D,F,S,h5,h6⟩:=qt1 ok R hp (λ_ _=>rfl) h;exact qhc j hw h6 (next p i v H w' d D.tmps D.n F S h5)
 by_cases hn:qof o.op=true
 .obtain ⟨p,i,v,row,w',d,D,F,S,h5,h6,h7⟩:=q5g ok R hn h;exact qhc j hw (h7 fr H rfl (λ_ _=>rfl)) (next p i v _ w' d D F S h5 h6)
 cases z:o.op with
 | load t x=>
  simp only [qba,z] at h;obtain ⟨ti,G,d⟩:=qf h;obtain ⟨p,ae,D⟩:=qf d;obtain ⟨v,ev,rv⟩:=qo R ae;obtain ⟨q,F,nm,gn,off,lim,rfl,_,hl,_⟩:=qns ok R.h rv D;obtain ⟨u,hu,ru⟩:=hl H rfl;obtain ⟨w',M,N,r,r'⟩:=qh6 ok R.h ru;refine qhc j hw (v:=u) (H':=H) ?_ (next _ _ u H w' F M.tmps M.n N r r');simp only [zb,z,G,zB,ev,hu,zH]
 | store t a x=>
  simp only [qba,z] at h;obtain ⟨ti,G,d⟩:=qf h;obtain ⟨pa,af,D⟩:=qf d;obtain ⟨px,I,F⟩:=qf D;obtain ⟨va,ea,ra⟩:=qo R af;obtain ⟨vx,ex,rx⟩:=qo R I;obtain ⟨i,id,off,lim,H',w',S,_,_,_,_,_,_,_,hs,e1,e2,_,N,r,_⟩:=qs9 ok R.h ra rx F;refine qto j hw (H':=H') ?_ (next _ _ zs H' w' S e1 e2 N r .undef);simp only [zb,z,G,zB,ea,ex,hs,zH]
 | lookup t m x ao=>
  simp only [qba,z] at h;obtain ⟨pm,J,d⟩:=qf h;obtain ⟨px,I,D⟩:=qf d;obtain ⟨vm,em,rm⟩:=qo R J;obtain ⟨vx,ex,rx⟩:=qo R I;obtain ⟨id,p,i,v,w',_,rfl,_,_,_,_,F,M,N,r,r',L⟩:=qp4 ok R.h rm rx D;exact qhc j hw (L o m x fr H z em ex rfl) (next p i v H w' F M.tmps M.n N r r')
 | mapUpdate t m x y=>
  simp only [qba,z] at h;obtain ⟨pm,J,d⟩:=qf h;obtain ⟨px,I,D⟩:=qf d;obtain ⟨py,a0,F⟩:=qf D;obtain ⟨vm,em,rm⟩:=qo R J;obtain ⟨vx,ex,rx⟩:=qo R I;obtain ⟨vy,ey,ry⟩:=qo R a0;obtain ⟨id,i,row,w',_,rfl,_,A,_,_,S,e1,e2,N,r,_,L⟩:=qj3 ok R.h rm rx ry F;exact qto j hw (L o m x y fr H (.inl z) em ex ey rfl (by rw [R.h.keeps.ro];exact zR R.h.rob.1 A)) (next _ _ zs _ w' S e1 e2 N r .undef)
 | insert t m x y=>
  simp only [qba,z] at h;obtain ⟨pm,J,d⟩:=qf h;obtain ⟨px,I,D⟩:=qf d;obtain ⟨py,a0,F⟩:=qf D;obtain ⟨vm,em,rm⟩:=qo R J;obtain ⟨vx,ex,rx⟩:=qo R I;obtain ⟨vy,ey,ry⟩:=qo R a0;obtain ⟨id,i,row,w',_,rfl,_,A,_,_,S,e1,e2,N,r,_,L⟩:=qj3 ok R.h rm rx ry F;exact qto j hw (L o m x y fr H (.inr z) em ex ey rfl (by rw [R.h.keeps.ro];exact zR R.h.rob.1 A)) (next _ _ zs _ w' S e1 e2 N r .undef)
 | next x b=>
  cases b with
  | false=>simp only [qba,z] at h;exact h.elim
  | true=>
   simp only [qba,z] at h;obtain ⟨pm,J,d⟩:=qf h;obtain ⟨vm,em,rm⟩:=qo R J;obtain ⟨q,i,v,H',w',F,e1,e2,N,r,r',L⟩:=q56 ok R.h rm d;exact qhc j hw (L o x fr z em) (next q i v H' w' F e1 e2 N r r')
 | call c=>
  simp only [qba,z] at h;obtain ⟨ps,ag,d⟩:=qf h;obtain ⟨vs,ev,rv⟩:=qcc R ag;split at d
  .rename_i f hf;obtain ⟨pf,hpf,D⟩:=qf d;obtain ⟨vf,ef,rf⟩:=qo R hpf;obtain ⟨g,us,Z,a8⟩:=qu5 ok ok2 tok ad R.h rf rv D;refine q7e j hw (t:=g) (args:=us) (H1:=H) ?_ (a8.mono λv H' hA=>?_)
   .simp only [zb,z,hf,ef,ev,zB,Z,zH]
   .obtain ⟨p,i,w',a1,a2,a3,a4,a5,a6⟩:=hA;exact next p i v H' w' a1 a2 a3 a4 a5 a6
  .rename_i b hf;have T:qen o.op=false:=by simpa using hp
   simp only [qen,z,hf] at T;unfold qiu at d;split at d
   .simp at T
   .rename_i s x t u O;obtain ⟨aq,ar,rfl,r1,r2⟩:=rv.zk;obtain ⟨vx,an,rfl,r3,r4⟩:=r2.zk;have:=r4.z6;subst this;split at d
    .rename_i ti ui G a9;split at d
     .rename_i e e' U W;split at d
      .rename_i c' P Z B;cases A:(Nat.ble P.bytes 1024&&!Nat.beq P.size 0) with
       | false=>rw [A] at d;exact absurd d id
       | true=>
        rw [A] at d;simp only [zO,↓reduceIte] at d;simp only [zA,Nat.ble_eq] at A;split at d
        .rename_i l' hl;have rl:=qfp r3 hl;have ah:=ok.size e c' P Z B;obtain ⟨ai,Y,aa⟩:=qhg ok.len R.h.g rl (ok.pos e c' Z);rw [<-ah] at Y;obtain ⟨p,i,v,H',w',a1,a2,a3,a4,a5,a6,a7⟩:=qd8 ok R.h Z B A.1 r1 Y aa d;refine qhc j hw (v:=v) (H':=H') ?_ (next p i v H' w' a1 a2 a3 a5 a6 a7);simp only [zb,z,hf,ev,zB,qam,O,G,a9,U,W,B,a4,zH]
        .exact absurd d id
      .rename_i P Z B;split at d
       .rename_i es n cs aj m fx ak;cases A:(Nat.beq es aj&&Nat.beq es P.size&&Nat.blt 0 m&&Nat.ble P.bytes 1024&&Nat.ble (n+m) 100000&&ak.all qae) with
        | false=>rw [A] at d;exact d.elim
        | true=>
         rw [A] at d;simp only [zA,Nat.ble_eq] at A;obtain ⟨⟨⟨⟨⟨b1,b2⟩,b3⟩,b4⟩,b5⟩,b6⟩:=A;have b1:=zE b1;have b2:=zE b2;subst b1;subst b2;obtain ⟨v,H',w',a4,a5,a6,a7⟩:=qyp (e:=e) ok R.h b4 r1 r3 (Nat.le_of_ble_eq_true b3) b5 b6;refine qhc j hw (v:=v) (H':=H') ?_ (next _ _ v H' w' d rfl rfl a5 a6 a7);simp only [zb,z,hf,ev,zB,qam,O,G,a9,U,W,B,a4,zH]
       .exact d.elim
      .exact absurd d id
     .rename_i e U W;split at d
      .rename_i P y Z B;cases A:(Nat.ble P.bytes 1024&&Nat.beq P.size 1) with
       | false=>rw [A] at d;exact absurd d id
       | true=>
        rw [A] at d;simp only [zO,↓reduceIte] at d;simp only [zA,Nat.ble_eq] at A;cases r3;have al:=zE A.2;obtain ⟨ab,aa⟩:=q1t (w:=w) ok y;have Y:km H P.size (.str y)=some ((X.u8 ▸ y:List (K 0)).length,y.map λb=>V.int .u8 b.toNat):=by rw [al,qxj,ab]
        obtain ⟨p,i,v,H',w',a1,a2,a3,a4,a5,a6,a7⟩:=qd8 ok R.h Z B A.1 r1 Y aa d;refine qhc j hw (v:=v) (H':=H') ?_ (next p i v H' w' a1 a2 a3 a5 a6 a7);simp only [zb,z,hf,ev,zB,qam,O,G,a9,U,W,B,a4,zH]
      .exact absurd d id
     .exact absurd d id
    .exact absurd d id
   .simp at T
   .simp at T
   .exact absurd d id
  .exact absurd d id
 | _=>first
  | (simp [qen,z] at hp;done)
  | (simp [qof,z] at hn;done)
  | (simp only [qba,z] at h;exact absurd h id)
theorem qjz (ok:CfgOk X sz C) (ok2:CfgOk2 X C) (tok:qcu X sz C tbl) (a:qhd X sz C inl):∀ {l:List Oper} {st:StV K} {fr:Fr} {H:Heap} {w:Wd} {k:StV K->Prop},Rel X sz C base st fr H w->wpOps (qu X tbl inv meas) C inl all l st k->
  WpO C.E nd all l fr H λex fr' H'=>ex=.normal/\∃ c w',k c/\Rel X sz C base c fr' H' w'/\Le w w'
 | [],st,fr,H,w,k,R,h=>qz ⟨rfl,st,w,h,R,.refl w⟩
 | o::l,st,fr,H,w,k,R,h=>by
  simp only [wpOps] at h;cases i:qrv o.op with
  | true=>rw [i] at h;exact h.elim
  | false=>
   rw [i] at h;simp only [zQ,Bool.false_eq_true,↓reduceIte] at h;obtain ⟨b,m,s,j,t,u,x⟩:=qv1 R h;have d:Rel X sz C base m fr H w:=R.step ok t.tmps t.n x (.refl w);cases b with
   | true=>
    simp only [zO,↓reduceIte] at j;refine zd6 ok ok2 tok a d i s j λp c v H' w' y z q A f B=>?_;have D:=((d.step ok z q A f).put (dst:=o.dst) B);exact (qjz ok ok2 tok a D y).mono λex fr' F G=>by
     obtain ⟨e,g,r,I,J,L⟩:=G;exact ⟨e,g,r,I,J,f.trans L⟩
   | false=>
    simp only [zQ,Bool.false_eq_true,↓reduceIte] at j;exact zbp i s (qjz ok ok2 tok a (d.put (dst:=o.dst) .undef) j)
end
end Go.E3
/- E3: REGIONS that draw their order: footprints. -/
namespace Go.E3
open Go Go.E2
variable {K:Nat->Type}
section
variable {X:Codecs K} {sz:Nat->Nat} {C:ZC K} {base H:Heap} {st:StV K} {fr:Fr} {w:Wd}
variable {tbl:Tbl K} {inv:Nat->List (NV K)->Prop} {meas:Nat->List (NV K)->Nat} {inl:ZI K}
variable {nd:Bool} {all:Array Oper} {Q:Ex->Fr->Heap->Prop} {b:Array Nat} {i:Nat}
theorem RelH.congr (R:RelH X sz C base st H w) {J:Heap} (d:∀ n,J.get n=H.get n) (c:J.next=H.next) (e:J.ro=H.ro) (f:J.qp=H.qp):RelH X sz C base st J w:=by
 have j:J.get=H.get:=funext d;exact ⟨λn a=>by rw [d];exact R.wf n (by omega),R.rob,R.g.trans j.symm,R.nx.trans c.symm,R.b,λn a=>by rw [c];exact R.Mlt n a,R.n,R.one,
  ⟨by rw [c];exact R.keeps.next,by rw [e];exact R.keeps.ro,by rw [f];exact R.keeps.qp,λnm a=>by rw [d];exact R.keeps.old nm a⟩,
  λid h=>by rw [c];exact R.cl id h,R.cinj,λid ps h=>by rw [d];exact R.cells id ps h,R.owns,R.ownn,λi s nm h a=>by rw [c];exact R.eta i s nm h a,R.einj,R.ce,R.known,R.globs⟩
theorem qtf {E:Env} {o:Oper} (h:js E o.op=false) (f:qen o.op=true∨qof o.op=true):∀ x ∈ o.op.operands.toList,∀ g,x≠.global g:=by
 have b:∀ l:List Operand,(l.any λx=>match x with | .global _=>true | _=>false)=false->∀ x ∈ l,∀ g,x≠.global g:=by
  intro l i x m g n;subst n;rw [<-Bool.not_eq_true,List.any_eq_true] at i;exact i ⟨_,m,rfl⟩
 cases a:o.op with
 | load=>simp [js,a] at h
 | store=>simp [js,a] at h
 | lookup=>simp [js,a] at h
 | mapUpdate=>simp [js,a] at h
 | insert=>simp [js,a] at h
 | next=>simp [js,a] at h
 | convert=>simp [js,a] at h
 | slice t x lo hi q=>
  rw [a] at h;simp only [js,Bool.or_eq_false_iff] at h;refine b _ ?_;rw [<-Array.any_toList] at h;exact h.2
 | call c=>
  rw [a] at h f;have d:(c.args.any λx=>match x with | .global _=>true | _=>false)=false/\∃ j,c.callee=.builtin j:=by
   simp only [qen,qof,Bool.false_eq_true,or_false] at f;simp only [js] at h;split at f
   .grind
   .grind
   .grind
   .cases f
  obtain ⟨k,j,p⟩:=d;have e:(Op.call c).operands.toList=c.args.toList:=by
   simp only [Op.operands,Call.operands,p];simp
  rw [e];refine b _ ?_;rw [<-Array.any_toList] at k;exact k
 | _=>
  first
   | (simp [a,qen,qof] at f;done)
   | (rw [a] at h
      refine b _ ?_;simp only [js] at h;rw [<-Array.any_toList] at h;exact h)
theorem qfj {o:Oper} {H':Heap} {x:Operand} (a:x ∈ o.op.operands.toList) (b:∀ g,x≠.global g):opd {fr with tmps:=kl fr.tmps (o.looksAt all) .nil} H' x=opd fr H x:=by
 cases x with
 | tmp t=>
  refine qdi ?_;simp only [Oper.looksAt,List.mem_append,List.mem_filterMap];exact .inl ⟨_,a,rfl⟩
 | const v=>rfl
 | global g=>simp_all
 | func f=>rfl
def qpu (B:Nat) (done:List Done) (n:Nat):Src->Prop
 | .any=>True
 | .calm=>n<B
 | .own j=>∃ d ∈ done,d.i=j/\d.lo<=n/\n<d.hi
theorem qpu.more {B n:Nat} {done done':List Done} (h:∀ d ∈ done,d ∈ done') {s:Src} (a:qpu B done n s):qpu B done' n s:=by
 cases s with
 | any=>trivial
 | calm=>exact a
 | own j=>obtain ⟨d,b,c⟩:=a;exact ⟨d,h d b,c⟩
def Still (w:Wd) (n:Nat):Prop:=¬ w.M n/\∃ cs e b a c ex,w.g n=some (.row cs e b a c ex)
def fpR (B:Nat) (done:List Done) (lo:Nat) (w:Wd):FP3->FP->Prop
 | .none,fp=>fp=.none
 | .read id,fp=>fp=.reads [w.c id]/\w.cl id
 | .write id,fp=>fp=.writes [w.c id]/\w.cl id
 | .stable a,fp=>∃ l,fp=.reads l/\∀ n ∈ l,Still w n/\∃ s ∈ a,qpu B done n s
 | .call _,fp=>fp=.call
 | .lone,fp=>fp=.lone∨∃ l,(fp=.writes l∨fp=.reads l)/\∀ n ∈ l,n<lo
 | .grow,fp=>∃ l,(fp=.writes l∨fp=.reads l)/\∀ n ∈ l,Still w n
theorem Still.mono {w w':Wd} (h:Le w w') {n:Nat} (j:Still w n):Still w' n:=by
 obtain ⟨k,cs,e,b,a,c,ex,l⟩:=j;obtain ⟨d,cs2,g,i,ex',f⟩:=h.mem n cs e b a c ex l k;exact ⟨d,_,_,_,_,_,_,f⟩
structure DR (B:Nat) (all:List Done) (w:Wd) (d3:Done3) (d:Done):Prop where
 i:d.i=d3.i
 lo:B<=d.lo
 le:d.lo<=d.hi
 no:d3.makes=false->d.hi=d.lo
 fp:fpR B all d.lo w d3.fp d.fp
theorem fpR.mono {B lo:Nat} {done done':List Done} {w w':Wd} (h:Le w w') (k:∀ d ∈ done,d ∈ done') (b:∀ id,w.cl id->id<w.n) {f:FP3} {fp:FP} (e:fpR B done lo w f fp):fpR B done' lo w' f fp:=by
 cases f with
 | none=>exact e
 | read id=>
  obtain ⟨g,a⟩:=e;exact ⟨by rw [h.c id (b id a)];exact g,(h.cl id (b id a)).2 a⟩
 | write id=>
  obtain ⟨g,a⟩:=e;exact ⟨by rw [h.c id (b id a)];exact g,(h.cl id (b id a)).2 a⟩
 | stable p=>
  obtain ⟨l,g,a⟩:=e;refine ⟨l,g,λn i=>?_⟩;obtain ⟨m,s,o,j⟩:=a n i;exact ⟨m.mono h,s,o,j.more k⟩
 | call=>exact e
 | lone=>exact e
 | grow=>
  obtain ⟨l,g,a⟩:=e;exact ⟨l,g,λn i=>(a n i).mono h⟩
inductive DRs (B:Nat) (all:List Done) (w:Wd):List Done3->List Done->Prop
 | nil:DRs B all w [] []
 | cons {d3:Done3} {d:Done} {l3:List Done3} {l:List Done} (h:DR B all w d3 d) (hs:∀ d' ∈ l,d'.hi<=d.lo/\d'.i<d.i) (h':DRs B all w l3 l):DRs B all w (d3::l3) (d::l)
theorem DRs.mono {B:Nat} {all all':List Done} {w w':Wd} (h:Le w w') (e:∀ d ∈ all,d ∈ all') (b:∀ id,w.cl id->id<w.n) {c:List Done3} {l:List Done} (f:DRs B all w c l):DRs B all' w' c l:=by
 induction f with
 | nil=>exact .nil
 | cons a g _ j=>exact .cons ⟨a.i,a.lo,a.le,a.no,a.fp.mono h e b⟩ g j
theorem DRs.free {B:Nat} {all:List Done} {e:List Done3} {l:List Done} (g:DRs B all w e l) {P:Done3->Prop} (h:∀ d ∈ e.filter (λd=>!(b.getD i 0).testBit d.i),P d):∀ d ∈ zj b i l,∃ f,DR B all w f d/\P f:=by
 unfold zj
 induction g with
 | nil=>simp_all
 | @cons j a e l k _ _ m=>
  intro d c;rw [List.filter_cons] at c h;rw [k.i] at c;by_cases n:(!(b.getD i 0).testBit j.i)=true
  .grind
  .simp_all
theorem DRs.sorted {B:Nat} {all:List Done} {b:List Done3} {l:List Done} (e:DRs B all w b l):∀ d ∈ l,∀ c ∈ l,d.i<c.i->d.hi<=c.lo:=by
 induction e with
 | nil=>simp_all
 | @cons f a b l g h _ j=>grind
theorem DRs.same {B:Nat} {all:List Done} {b:List Done3} {l:List Done} (e:DRs B all w b l):∀ d ∈ l,∀ c ∈ l,d.i=c.i->d=c:=by
 induction e with
 | nil=>simp_all
 | @cons f a b l g h _ j=>grind
theorem qx0 {l:List Done} {d:Done} (h:d ∈ zj b i l):d ∈ l:=(List.mem_filter.1 h).1
theorem grown {w:Wd} {fp:FP} {m:Nat} {q:Prop} (h:∃ l,(fp=.writes l∨fp=.reads l)/\∀ n ∈ l,Still w n) (a:w.M m) (b:∀ l,(fp=.writes l∨fp=.reads l)->m ∈ l):q:=by
 obtain ⟨l,c,d⟩:=h;exact absurd a (d m (b l c)).1
theorem qex {B old lo:Nat} (R:RelH X sz C base st H w) {I:List Done3} {l:List Done} (A:DRs B l w I l) {f:FP3} {fp:FP} (J:∀ d ∈ I,∀ id,d.fp.vid=some id->w.M (w.c id)) (t:∀ id,f.vid=some id->w.M (w.c id)) (h:fpR B l lo w f fp)
  (V:(I.filter λd=>!(b.getD i 0).testBit d.i).all (λd=>qis old d f)=true) {dels:List Nat}:((zj b i l).any λd=>qao d dels fp)=false:=by
 rw [<-Bool.not_eq_true,List.any_eq_true];rintro ⟨d,D,a⟩;obtain ⟨⟨j,g,mk⟩,u,e,K⟩:=A.free (P:=λd=>qis old d f=true/\d ∈ I) (λd A=>⟨List.all_eq_true.1 V d A,(List.mem_filter.1 A).1⟩) d D;have L:=qx0 D;have o:=u.fp;have v:=J _ K;have N:=u.le;have E:=u.i;simp only at o E;simp only [qis,zA] at e;obtain ⟨e,_⟩:=e;have F:=A.sorted d L;have k:qao d dels .none=false:=qxd;obtain ⟨di,W,O,Y,dd⟩:=d;simp only at o E N F;cases g with
 | none=>simp only [fpR] at o;subst o;simp [qao] at a
 | read Z=>
  obtain ⟨rfl,y⟩:=o;cases f with
  | none=>simp only [fpR] at h;rw [h,k] at a;cases a
  | read q=>obtain ⟨rfl,_⟩:=h;simp [qao] at a
  | stable=>obtain ⟨G,rfl,_⟩:=h;simp [qao] at a
  | call=>simp only [fpR] at h;subst h;simp [qao] at a
  | write q=>
   obtain ⟨rfl,p⟩:=h;simp only [goes,Bool.not_eq_true',<-Bool.not_eq_true,Nat.beq_eq] at e;simp only [qao,List.any_cons,List.any_nil,Bool.or_false,Nat.beq_eq] at a;exact e (R.cinj _ _ y p a.symm)
  | lone=>simp [goes] at e
  | grow=>exact grown h (v _ rfl) (λl x=>by
    rcases x with rfl | rfl
    .simpa [qao,Nat.beq_eq] using a
    .simp [qao] at a)
 | write Z=>
  obtain ⟨rfl,y⟩:=o;cases f with
  | none=>simp only [fpR] at h;rw [h,k] at a;cases a
  | read q=>
   obtain ⟨rfl,p⟩:=h;simp only [goes,Bool.not_eq_true',<-Bool.not_eq_true,Nat.beq_eq] at e;simp only [qao,List.any_cons,List.any_nil,Bool.or_false,Nat.beq_eq] at a;exact e (R.cinj _ _ y p a)
  | stable=>
   obtain ⟨G,rfl,p⟩:=h;simp only [qao,List.any_cons,List.any_nil,Bool.or_false,List.any_eq_true] at a;obtain ⟨n,r,z⟩:=a;have:=zE z;subst this;exact (p _ r).1.1 (v _ rfl)
  | call=>simp [goes] at e
  | write q=>
   obtain ⟨rfl,p⟩:=h;simp only [goes,Bool.not_eq_true',<-Bool.not_eq_true,Nat.beq_eq] at e;simp only [qao,List.any_cons,List.any_nil,Bool.or_false,Nat.beq_eq] at a;exact e (R.cinj _ _ y p a)
  | lone=>simp [goes] at e
  | grow=>exact grown h (v _ rfl) (λl x=>by
    rcases x with rfl | rfl
    .simpa [qao,Nat.beq_eq] using a
    .simpa [qao,Nat.beq_eq] using a)
 | stable=>
  obtain ⟨l1,rfl,y⟩:=o;cases f with
  | none=>simp only [fpR] at h;rw [h,k] at a;cases a
  | read q=>obtain ⟨rfl,_⟩:=h;simp [qao] at a
  | stable=>obtain ⟨G,rfl,_⟩:=h;simp [qao] at a
  | call=>simp only [fpR] at h;subst h;simp [qao] at a
  | write q=>
   obtain ⟨rfl,p⟩:=h;simp only [qao,List.any_cons,List.any_nil,Bool.or_false,List.any_eq_true] at a;obtain ⟨n,r,z⟩:=a;have:=zE z;subst this;exact (y _ r).1.1 (t _ rfl)
  | lone=>simp [goes] at e
  | grow=>simp [goes] at e
 | call=>
  simp only [fpR] at o;subst o;cases f with
  | none=>simp only [fpR] at h;rw [h,k] at a;cases a
  | read q=>obtain ⟨rfl,_⟩:=h;simp [qao] at a
  | stable=>obtain ⟨G,rfl,_⟩:=h;simp [qao] at a
  | call=>simp only [fpR] at h;subst h;simp [qao] at a
  | write q=>simp [goes] at e
  | lone=>simp [goes] at e
  | grow=>simp [goes] at e
 | grow=>
  cases f with
  | none=>simp only [fpR] at h;rw [h,k] at a;cases a
  | read q=>
   obtain ⟨rfl,_⟩:=h;exact grown o (t _ rfl) (λl x=>by
    rcases x with rfl | rfl
    .simpa [qao,Nat.beq_eq] using a
    .simp [qao] at a)
  | write q=>
   obtain ⟨rfl,_⟩:=h;exact grown o (t _ rfl) (λl x=>by
    rcases x with rfl | rfl
    .simpa [qao,Nat.beq_eq] using a
    .simpa [qao,Nat.beq_eq] using a)
  | _=>simp [goes] at e
 | lone=>
  cases f with
  | none=>simp only [fpR] at h;rw [h,k] at a;cases a
  | stable ss=>
   obtain ⟨G,rfl,p⟩:=h;simp only [goes,List.all_eq_true] at e;have late:∀ n ∈ G,O<=n:=by
    intro n r;obtain ⟨_,s,hs,Q⟩:=p n r;have S:=e s hs;cases s with
    | own j'=>
     simp only [Nat.blt_eq] at S;obtain ⟨d',T,e1,e2,e3⟩:=Q;have:=F d' T (by rw [e1];omega);omega
    | _=>simp at S
   rcases o with rfl | ⟨l1,rfl | rfl,U⟩
   .simp only [qao,List.any_eq_true,zA,Nat.blt_eq] at a;obtain ⟨n,r,z,_⟩:=a;have:=late n r;omega
   .simp only [qao,List.any_eq_true] at a;obtain ⟨n,r,m,hm,z⟩:=a;have:=zE z;subst this;have S:=late _ hm;have h2:=U _ r;omega
   .simp [qao] at a
  | _=>simp [goes] at e
theorem qib {B old nm:Nat} {q:List Done3} {l:List Done} (h:DRs B l w q l) {f:FP3} (v:(q.filter λd=>!(b.getD i 0).testBit d.i).all (λd=>qis old d f)=true)
  (x:(∃ j,(f=.read j∨f=.write j)/\(j<old->nm<B))∨(∃ n,f=.stable n/\∃ s ∈ n,qpu B l nm s)∨f=.lone∨f=.call false∨f=.grow):nm ∉ (zj b i l).flatMap Done.names:=by
 intro y;obtain ⟨d,e,z⟩:=List.mem_flatMap.1 y;obtain ⟨⟨j,g,mk⟩,c,a⟩:=h.free (λd h=>List.all_eq_true.1 v d h) d e;simp only [qis,zA] at a;obtain ⟨_,a⟩:=a;have D:=List.mem_range'_1.1 z;have o:=c.i;simp only at o;cases mk with
 | false=>
  have:=c.no rfl;omega
 | true=>
  simp only [Bool.not_true,Bool.false_or] at a;rcases x with ⟨r,A,p⟩ | ⟨n,rfl,s,C,k⟩ | rfl | rfl | rfl
  .have:r<old:=by
    rcases A with rfl | rfl<;>simpa [fits,Nat.blt_eq] using a
   have:=p this;have:=c.lo;omega
  .simp only [fits,List.all_eq_true] at a;have t:=a s C;cases s with
   | any=>simp at t
   | calm=>have:=c.lo;simp only [qpu] at k;omega
   | own r=>
    simp only [Bool.not_eq_true',<-Bool.not_eq_true,Nat.beq_eq] at t;obtain ⟨u,m,E,F,G⟩:=k;have H:=h.sorted d (qx0 e) u m;have I:=h.sorted u m d (qx0 e);omega
  .simp [fits] at a
  .simp [fits] at a
  .simp [fits] at a
theorem qog {B nm:Nat} {all:List Done} {e:List Done3} {l:List Done} (f:DRs B all w e l) (h:nm<B):nm ∉ (zj b i l).flatMap Done.names:=by
 intro k;obtain ⟨d,a,m⟩:=List.mem_flatMap.1 k;obtain ⟨⟨j,g,mk⟩,c,_⟩:=f.free (P:=λ_=>True) (λ_ _=>trivial) d a;have n:=List.mem_range'_1.1 m;have:=c.lo;omega
theorem qry {B old:Nat} {a:List Done3} {l:List Done} (c:DRs B l w a l) {f:FP3} (e:(a.filter λd=>!(b.getD i 0).testBit d.i).all (λd=>qis old d f)=true) (g:f=.lone∨f=.call false∨f=.grow):(zj b i l).flatMap Done.names=[]:=by
 rw [List.eq_nil_iff_forall_not_mem];intro nm;exact qib c e (.inr (.inr g))
end
end Go.E3
/- E3: REGIONS that draw their order. -/
namespace Go.E3
open Go Go.E2
variable {K:Nat->Type}
section
variable {E:Env} {all:Array Oper} {fr:Fr} {H:Heap} {Q:Ex->Fr->Heap->Prop} {b:Array Nat} {i:Nat} {l:List Oper} {done:List Done} {o:Oper}
theorem qzh {fp:FP} {t:Tgt} {args:List V} {K0:Heap} (hw:ky o all fr=some true) (h:qfe E o fr=.call) (c:fp=bif qjc E all b i then .lone else .call) (e:((zj b i done).any λd=>qao d ((zj b i done).flatMap Done.names) fp)=false)
  (j:zb E o {fr with tmps:=kl fr.tmps (o.looksAt all) .nil} (zw H fp ((zj b i done).flatMap Done.names))=some (.call t args,K0))
  (m:qaa E t args K0 λv a=>H.next<=a.next/\WpD E all b (i+1) l (⟨i,fp,H.next,a.next,(zj b i done).flatMap Done.names⟩::done) (fr.put o.dst v) (qb6 H a fp ((zj b i done).flatMap Done.names)) Q):WpD E all b i (o::l) done fr H Q:=by
 obtain ⟨v,a,⟨n,p⟩,q,⟨x,⟨r,s⟩,u⟩⟩:=m;refine ⟨x,⟨max r n,λk y=>?_⟩,u⟩;have w:Nat.blt a.next H.next=false:=by
  rw [<-Bool.not_eq_true,Nat.blt_eq];omega
 have f:j8 E (ja E k) all o {fr with tmps:=kl fr.tmps (o.looksAt all) .nil} (zw H fp ((zj b i done).flatMap Done.names))=some (.ret v,a):=by
  simp only [j8,qrg,hw,j,p k (by omega)]
 have g:=s k (by omega);subst c;simp only [zj] at g e f;simp only [qat,hw,zB,zO,h,e,zQ,f,w];exact g
theorem qh4 {H H1:Heap} {sz:Nat} {x:V} (b:∀ n ∈ x.nm,H1.get n=H.get n):km H1 sz x=km H sz x:=by
 cases x with
 | slice nm g off len a cap=>
  have:=b nm (by simp [V.nm]);unfold km;rcases V.qd7 (nm:=nm) (g:=g) (off:=off) (len:=len) (z:=a) (sz:=sz) (cap:=cap) with e | ⟨_,e⟩<;>rw [e]<;>simp only [qcj,zq,this]
 | _=>rfl
theorem quz {H H1 H':Heap} {vs:List V} {nm g off lim:Nat} (a:H1.ro=H.ro) (f:H1.get nm=H.get nm) (h:jk H vs (.ptr nm g off lim)=some H'):∃ row,H.get nm≠none/\jk H1 vs (.ptr nm g off lim)=some (H1.put nm row)/\H'=H.put nm row:=by
 simp only [jk,f] at h ⊢;split at h
 .rename_i cells e b c d ex i;cases j:(Nat.beq g b&&Nat.ble (off+vs.length) lim&&Nat.ble lim cells.length&&Nat.ble d off&&vs.all V.jg) with
  | false=>simp_all
  | true=>
   rw [j] at h;obtain ⟨k,rfl⟩:=qgn h;refine ⟨_,by rw [i];simp,?_,rfl⟩;exact kq (by rw [a];exact k)
 .cases h
theorem qwz {H H1 H':Heap} {e sz a:Nat} {s x v:V} (w:H1.next=H.next) (f:H1.ro=H.ro) (o:∀ n,n ∈ s.nm∨n ∈ x.nm->H1.get n=H.get n) (h:jt H e sz a s x=some (v,H')) :
  ∃ m,jt H1 e sz a s x=some (v,m)/\((m=H1/\H'=H)∨(∃ row,m=H1.new row/\H'=H.new row)∨(∃ nm row,nm ∈ s.nm/\H.get nm≠none/\m=H1.put nm row/\H'=H.put nm row)):=by
 have ex:km H1 sz x=km H sz x:=qh4 λn h=>o n (.inr h);have y:km H1 sz s=km H sz s:=qh4 λn h=>o n (.inl h);unfold jt at h ⊢;rw [ex,y,w];obtain ⟨⟨n,b⟩,z,h⟩:=zI.1 h;rw [z];simp only [zB];cases s with
 | nils=>grind
 | slice nm g off len p cap=>
  have i:=o nm (.inl (by simp [V.nm]));simp only [i] at h ⊢;cases A:(!Nat.beq sz p) with
  | true=>simp_all
  | false=>
   rw [A] at h;cases B:Nat.beq n 0 with
   | true=>simp_all
   | false=>
    rw [B] at h;cases C:(!(Nat.ble ((len+n) * a) room&&Nat.ble (len+n) room)) with
    | true=>simp_all
    | false=>
     rw [C] at h;cases D:(!b.all V.jg) with
     | true=>simp_all
     | false=>
      rw [D] at h;split at h
      .rename_i cells E j d q F G;cases cap with
       | some c=>
        simp only at h ⊢;cases k:Nat.ble (len+n) c with
        | true=>
         rw [k] at h;obtain ⟨I,r,l⟩:=zM.1 h;cases l;obtain ⟨row,t,u,rfl⟩:=quz f i r;exact ⟨_,by rw [u];rfl,.inr (.inr ⟨nm,row,by simp [V.nm],t,rfl,rfl⟩)⟩
        | false=>
         rw [k] at h;obtain ⟨⟨L,old⟩,r,l⟩:=zM.1 h;cases l;exact ⟨_,by rw [r];rfl,.inr (.inl ⟨_,rfl,rfl⟩)⟩
       | none=>
        cases k:(Nat.beq g j&&Nat.beq (off+len * sz) cells.length&&Nat.ble q cells.length&&Nat.ble d j&&!Nat.beq sz 0&&Nat.beq E e) with
        | false=>rw [k] at h;cases h
        | true=>
         rw [k] at h;simp only [zO] at h ⊢;obtain ⟨I,J,l⟩:=zM.1 h;cases l;obtain ⟨K,rfl⟩:=qgn J;rw [kq (by rw [f];exact K)];exact ⟨_,rfl,.inr (.inr ⟨nm,_,by simp [V.nm],by rw [G];simp,rfl,rfl⟩)⟩
      .cases h
 | _=>simp only at h;cases h
theorem qzm {H H1 H':Heap} {e sz a:Nat} {s x v:V} (d:H1.next=H.next) (c:H1.ro=H.ro) (f:∀ n,n ∈ s.nm∨n ∈ x.nm->H1.get n=H.get n) (h:kv H e sz a s x=some (v,H')) :
  ∃ b,kv H1 e sz a s x=some (v,b)/\((b=H1/\H'=H)∨(∃ row,b=H1.new row/\H'=H.new row)∨(∃ nm row,nm ∈ s.nm/\H.get nm≠none/\b=H1.put nm row/\H'=H.put nm row)):=by
 have:=qwz d c (s:=s.qb2 sz) (by rw [V.q34];exact f) h;rw [V.q34] at this;exact this
def q0u (m:Nat):V->Bool
 | .nils=>true
 | .slice _ _ _ len _ (some c)=>Nat.beq m 0 || !Nat.ble (len+m) c
 | _=>false
theorem qzl {H H1 H':Heap} {e sz d:Nat} {s x v:V} (w:H1.next=H.next) (k:∀ n,n ∈ s.nm∨n ∈ x.nm->H1.get n=H.get n)
  (l:s=.nils∨∃ nm g off len b c n,s=.slice nm g off len b (some c)/\x.many=some n/\(Nat.beq n 0 || !Nat.ble (len+n) c)=true) (h:jt H e sz d s x=some (v,H')) :
  ∃ o,jt H1 e sz d s x=some (v,o)/\((o=H1/\H'=H)∨(∃ row,o=H1.new row/\H'=H.new row)):=by
 have ex:km H1 sz x=km H sz x:=qh4 λn h=>k n (.inr h);have y:km H1 sz s=km H sz s:=qh4 λn h=>k n (.inl h);have f:∀ n a m,km H sz x=some (n,a)->x.many=some m->n=m:=by
  intro n a m j i;cases x with
  | nils=>
   simp only [km,V.qb2,qcj,zS,zP] at j;simp only [V.many,zS] at i;omega
  | slice nm g off len b cap=>
   simp only [V.many,zS] at i;have:=qqx j;omega
  | str s=>
   simp only [V.many,zS] at i;simp only [km,V.qb2,qcj] at j;cases t:Nat.beq sz 1 with
   | false=>simp_all
   | true=>simp_all
  | _=>cases i
 unfold jt at h ⊢;rw [ex,y,w];obtain ⟨⟨n,a⟩,u,h⟩:=zI.1 h;rw [u];simp only [zB];rcases l with rfl | ⟨nm,g,off,len,b,c,m,rfl,z,p⟩
 .grind
 .have q:=k nm (.inl (by simp [V.nm]));have:=f n a m u z;subst this;simp only [q] at h ⊢;cases j:(!Nat.beq sz b) with
  | true=>simp_all
  | false=>
   rw [j] at h;cases t:Nat.beq n 0 with
   | true=>simp_all
   | false=>
    rw [t] at h p;simp only [zQ,Bool.false_or,Bool.not_eq_true'] at h p ⊢;cases i:(!(Nat.ble ((len+n) * d) room&&Nat.ble (len+n) room)) with
    | true=>simp_all
    | false=>
     rw [i] at h;cases A:(!a.all V.jg) with
     | true=>simp_all
     | false=>
      rw [A] at h;split at h
      .rename_i cells G B r C D I;simp only [p,zQ] at h ⊢;obtain ⟨⟨J,old⟩,E,F⟩:=zM.1 h;cases F;exact ⟨_,by rw [E];rfl,.inr ⟨_,rfl,rfl⟩⟩
      .cases h
theorem q2c {H H1 H':Heap} {e sz b:Nat} {s x v:V} (i:H1.next=H.next) (j:∀ n,n ∈ s.nm∨n ∈ x.nm->H1.get n=H.get n)
  (d:s=.nils∨∃ nm g off len a c n,s=.slice nm g off len a (some c)/\x.many=some n/\(Nat.beq n 0 || !Nat.ble (len+n) c)=true) (h:kv H e sz b s x=some (v,H')) :
  ∃ f,kv H1 e sz b s x=some (v,f)/\((f=H1/\H'=H)∨(∃ row,f=H1.new row/\H'=H.new row)):=by
 refine qzl i (s:=s.qb2 sz) (by rw [V.q34];exact j) ?_ h;rcases d with rfl | ⟨nm,g,off,len,a,c,n,rfl,k,l⟩
 .exact .inl rfl
 .rcases V.qd7 (nm:=nm) (g:=g) (off:=off) (len:=len) (z:=a) (sz:=sz) (cap:=some c) with e | ⟨_,e⟩
  .grind
  .grind
theorem qv7 {a:Heap} {l dels:List Nat} {n:Nat}:(qb6 H a (.reads l) dels).get n=if n ∈ List.range' H.next (a.next-H.next) then a.get n else H.get n:=by
 simp only [qb6,Heap.get,jz]
theorem qg1 {a:Heap} {l dels:List Nat} {n:Nat}:(qb6 H a (.writes l) dels).get n=if n ∈ (l.filter λn=>Nat.blt n H.next&&!dels.any λm=>Nat.beq n m)++List.range' H.next (a.next-H.next) then a.get n else H.get n:=by
 simp only [qb6,Heap.get,jz]
theorem qx9 {a:Heap} {dels:List Nat} {n:Nat}:(qb6 H a .call dels).get n=if n ∈ List.range' H.next (a.next-H.next) then a.get n else H.get n:=by
 simp only [qb6,Heap.get,jz]
end
end Go.E3
/- E3: REGIONS that draw their order: the theorem. -/
namespace Go.E3
open Go Go.E2
variable {K:Nat->Type}
section
variable {X:Codecs K} {sz:Nat->Nat} {C:ZC K} {base:Heap}
variable {tbl:Tbl K} {inv:Nat->List (NV K)->Prop} {meas:Nat->List (NV K)->Nat} {inl:ZI K}
variable {all:Array Oper} {b:Array Nat} {B old:Nat}
structure Mid (X:Codecs K) (sz:Nat->Nat) (C:ZC K) (base:Heap) (B old i:Nat) (w0:Wd) (l3:List Done3) (done:List Done) (st:StV K) (fr:Fr) (H:Heap) (w:Wd):Prop where
 R:Rel X sz C base st fr H w
 D:DRs B done w l3 done
 hB:B<=H.next
 hold:old<=st.next
 lt:∀ id,id<old->w.cl id->w.c id<B
 live:∀ d ∈ l3,∀ id,d.fp.vid=some id->(look st.cells id).isSome=true
 top:∀ d ∈ done,d.hi<=H.next/\d.i<i
 z:Le w0 w
 z0:∃ st0 H0,RelH X sz C base st0 H0 w0/\H0.next=B
theorem RelH.live {st:StV K} {H:Heap} {w:Wd} (R:RelH X sz C base st H w) {id:Nat} (h:(look st.cells id).isSome=true):w.M (w.c id):=by
 obtain ⟨ct,a⟩:=Option.isSome_iff_exists.1 h;exact (R.cells id ct a).2.1
theorem RelH.lts {st:StV K} {H:Heap} {w:Wd} (R:RelH X sz C base st H w) {nm:Nat} {x:O} (h:w.g nm=some x):nm<H.next:=by
 rw [R.g] at h;by_cases a:nm<H.next
 .exact a
 .rw [R.wf nm (by omega)] at h;cases h
theorem Mid.wr {i:Nat} {b:Wd} {a:List Done3} {done:List Done} {st:StV K} {fr:Fr} {H:Heap} {w:Wd} (m:Mid X sz C base B old i b a done st fr H w):∀ d ∈ a,∀ id,d.fp.vid=some id->w.M (w.c id):=
 λd e id f=>m.R.h.live (m.live d e id f)
theorem Mid.lt0 {i:Nat} {a:Wd} {b:List Done3} {done:List Done} {st:StV K} {fr:Fr} {H:Heap} {w:Wd} (m:Mid X sz C base B old i a b done st fr H w) {nm:Nat} {x:O} (h:a.g nm=some x):nm<B:=by
 obtain ⟨st0,H0,c,e⟩:=m.z0;rw [<-e];exact c.lts h
theorem Mid.go (ok:CfgOk X sz C) {i:Nat} {L:Wd} {y:List Done3} {done:List Done} {st b:StV K} {fr:Fr} {H J:Heap} {w w':Wd} (m:Mid X sz C base B old i L y done st fr H w) {f:FP3} {mk:Bool} {fp:FP} {hi:Nat} {dels:List Nat} {dst:Option Tmp} {p:PV K} {v:V}
  (O:b.tmps=st.tmps) (P:b.n=st.n) (u:RelH X sz C base b J w') (hle:Le w w') (Q:Rep X sz w' p v) (M:H.next<=J.next) (g:H.next<=hi/\hi<=J.next) (A:mk=false->hi=H.next) (E:fpR B done H.next w' f fp)
  (e:∀ d ∈ y,∀ j,d.fp.vid=some j->(look b.cells j).isSome=true) (k:∀ id,f.vid=some id->(look b.cells id).isSome=true) :
  Mid X sz C base B old (i+1) L (⟨i,f,mk⟩::y) (⟨i,fp,H.next,hi,dels⟩::done) (b.put dst p) (fr.put dst v) J w':=by
 have F:∀ id,w.cl id->id<w.n:=λid h=>by rw [m.R.h.n];exact (m.R.h.cl id h).1
 have l:∀ id,w'.cl id->id<w'.n:=λid h=>by rw [u.n];exact (u.cl id h).1
 have G:∀ (s:StV K),(s.put dst p).next=s.next:=by
  intro s;unfold St.put;split
  .obtain ⟨t,n,c,o,x,S⟩:=s;simp only;cases Nat.blt _ n<;>rfl
  .rfl
 have I:∀ (s:StV K),(s.put dst p).cells=s.cells:=by
  intro s;unfold St.put;split
  .obtain ⟨t,n,c,o,x,S⟩:=s;simp only;cases Nat.blt _ n<;>rfl
  .rfl
 refine ⟨(m.R.step ok O P u hle).put Q,.cons ⟨rfl,m.hB,g.1,A,E.mono (.refl w') (λd a=>zG _ a) l⟩ (λd a=>m.top d a) (m.D.mono hle (λd a=>zG _ a) F),zR m.hB M,?_,λid q T=>?_,λd a id N=>?_,λd a=>?_,m.z.trans hle,m.z0⟩
 .rw [G];have:=hle.n;rw [m.R.h.n,u.n] at this;exact zR m.hold this
 .have r:id<w.n:=by rw [m.R.h.n];exact zL q m.hold
  rw [hle.c id r];exact m.lt id q ((hle.cl id r).1 T)
 .rw [I];rcases zD.1 a with rfl | a
  .exact k id N
  .exact e d a id N
 .rcases zD.1 a with rfl | a
  .exact ⟨g.2,Nat.lt_succ_self _⟩
  .exact ⟨zR (m.top d a).1 M,Nat.lt_succ_of_lt (m.top d a).2⟩
def Frm (p:PV K):Prop:=(∃ s,p=.str s)∨p=.nils∨(∃ a cs,p=.plist a 0 true cs)∨∃ c l own,p=.list c l own
def qxi:PV K->Bool
 | .eptr ..=>true
 | .list ..=>true
 | .plist ..=>true
 | _=>false
def Whole (v:V):Prop:=∃ nm len z,v=.slice nm 0 0 len z (some len)
structure Cm (X:Codecs K) (sz:Nat->Nat) (B:Nat) (w0:Wd) (done:List Done) (dt:Dirt) (st:StV K) (fr:Fr):Prop where
 calm:∀ t p v,dt.dirty.any (Nat.beq t)=false->st.tmps.get t=some p->qxi p=true->fr.tmp t=some v->∀ n ∈ v.nm,n<B
 rep:∀ t c l own v,dt.dirty.any (Nat.beq t)=false->st.tmps.get t=some (.list c l own)->fr.tmp t=some v->Rep X sz w0 (.list c l none) v
 fresh:∀ t j wh v,look dt.fresh t=some (j,wh)->fr.tmp t=some v->(∀ n ∈ v.nm,qpu B done n (.own j))/\(wh=true->Whole v)
structure NewV (X:Codecs K) (sz:Nat->Nat) (B:Nat) (w0:Wd) (done:List Done) (cb:Bool) (fb:Option (Nat×Bool)) (p:PV K) (v:V):Prop where
 calm:cb=true->qxi p=true->∀ n ∈ v.nm,n<B
 rep:∀ c l own,cb=true->p=.list c l own->Rep X sz w0 (.list c l none) v
 fresh:∀ j wh,fb=some (j,wh)->(∀ n ∈ v.nm,qpu B done n (.own j))/\(wh=true->Whole v)
theorem NewV.no {a:Wd} {done:List Done} {p:PV K} {v:V}:NewV X sz B a done false none p v:=⟨λh=>by (cases h),λ_ _ _ h=>by (cases h),λ_ _ h=>by (cases h)⟩
theorem qq0 {fr:Fr} {dst:Option Tmp} {v u:V} {t:Nat} (h:(fr.put dst v).tmp t=some u):(dst=some t/\u=v)∨fr.tmp t=some u:=by
 cases dst with
 | none=>exact .inr h
 | some d=>
  obtain ⟨c,n,ds⟩:=fr;simp only [Fr.put] at h;cases a:Nat.blt d n with
  | false=>simp_all
  | true=>
   rw [a] at h;simp only [zO,Fr.tmp,Tree.zn] at h;by_cases b:t=d
   .simp_all
   .rw [zF b] at h;exact .inr h
theorem qy4 {st:StV K} {dst:Option Tmp} {p q:PV K} {t:Nat} (h:(st.put dst p).tmps.get t=some q):dst=some t∨st.tmps.get t=some q:=by
 cases dst with
 | none=>exact .inr h
 | some d=>
  obtain ⟨e,n,c,f,x,g⟩:=st;simp only [St.put] at h;cases a:Nat.blt d n with
  | false=>rw [a] at h;exact .inr h
  | true=>
   rw [a] at h;simp only [zO,↓reduceIte,Tree.zn] at h;by_cases b:t=d
   .exact .inl (by rw [b])
   .rw [zF b] at h;exact .inr h
theorem qt6 {fr:Fr} {t:Nat} {v:V} (h:Nat.blt t fr.n=true):(fr.put (some t) v).tmp t=some v:=by
 obtain ⟨a,m,ds⟩:=fr;simp only [Fr.put,h,zO,Fr.tmp,Tree.zn,zT]
theorem q1s {st:StV K} {t:Nat} {p:PV K} (h:Nat.blt t st.n=true):(st.put (some t) p).tmps.get t=some p:=by
 obtain ⟨a,m,c,b,x,d⟩:=st;simp only [St.put,h,zO,Tree.zn,zT]
theorem zeh {fr:Fr} {t:Nat} {v:V} (h:Nat.blt t fr.n=false):(fr.put (some t) v)=fr:=by
 obtain ⟨a,m,ds⟩:=fr;simp only [Fr.put,h,zQ]
theorem zgn {st:StV K} {t:Nat} {p:PV K} (h:Nat.blt t st.n=false):(st.put (some t) p)=st:=by
 obtain ⟨a,m,c,b,x,d⟩:=st;simp only at h;simp only [St.put,h,zQ,Bool.false_eq_true,↓reduceIte]
theorem qhj {α:Type}:∀ {l:List (Nat×α)} {d t:Nat} {x:α},look (qa1 l d) t=some x->t≠d/\look l t=some x
 | [],d,t,x,h=>by simp [qa1,look] at h
 | (i,y)::l,d,t,x,h=>by
  simp only [qa1,cond_eq_ite,Nat.beq_eq] at h;by_cases hi:i=d
  .rw [zT hi] at h;obtain ⟨b,c⟩:=qhj h;refine ⟨b,?_⟩;simp only [look,cond_eq_ite,Nat.beq_eq];rw [zF (by omega)];exact c
  .rw [zF hi] at h;simp only [look,cond_eq_ite,Nat.beq_eq] at h ⊢;by_cases a:i=t
   .rw [zT a] at h ⊢;exact ⟨by omega,h⟩
   .rw [zF a] at h ⊢;exact qhj h
theorem Cm.put {J:Wd} {done done':List Done} {C:Dirt} {st w:StV K} {fr:Fr} {D:Bool} {y:Option (Nat×Bool)} {dst:Option Tmp} {p:PV K} {v:V} (h:Cm X sz B J done C st fr) (L:∀ d ∈ done,d ∈ done') (E:w.tmps=st.tmps) (z:fr.n=w.n) (M:∀ x d,y=some x->dst=some d->Nat.blt d fr.n=true)
  (N:NewV X sz B J done' D y p v):Cm X sz B J done' (q84 C D y dst) (w.put dst p) (fr.put dst v):=by
 cases dst with
 | none=>
  refine ⟨λt q u f b i A=>?_,λt c l own u f b i=>?_,λt j m u f b=>?_⟩
  .exact h.calm t q u f (by rw [<-E];exact b) i A
  .exact h.rep t c l own u f (by rw [<-E];exact b) i
  .obtain ⟨F,G⟩:=h.fresh t j m u f b;exact ⟨λn H=>(F n H).more L,G⟩
 | some d=>
  have a:∀ t,(q84 C D y (some d)).dirty.any (Nat.beq t)=false->C.dirty.any (Nat.beq t)=false/\(t=d->D=true):=by
   intro t e;simp only [q84] at e;cases O:D with
   | true=>rw [O] at e;exact ⟨e,λ_=>rfl⟩
   | false=>
    rw [O] at e;simp only [zQ,Bool.false_eq_true,↓reduceIte,List.any_cons,Bool.or_eq_false_iff] at e;refine ⟨e.2,λg=>?_⟩;rw [g] at e;simp at e
  have I:∀ t j m,look (q84 C D y (some d)).fresh t=some (j,m)->(t=d/\y=some (j,m))∨(t≠d/\look C.fresh t=some (j,m)):=by
   intro t j m e;simp only [q84] at e;cases o:y with
   | none=>
    rw [o] at e;exact .inr (qhj e)
   | some x=>
    rw [o] at e;simp only [look,cond_eq_ite,Nat.beq_eq] at e;by_cases g:d=t
    .rw [zT g] at e;simp only [zS,zP] at e;exact .inl ⟨g.symm,by rw [<-e.1,<-e.2]⟩
    .rw [zF g] at e;exact .inr (qhj e)
  cases r:Nat.blt d fr.n with
  | false=>
   rw [zeh r,zgn (by rw [<-z];exact r)];refine ⟨λt q u f b i A=>?_,λt c l own u f b i=>?_,λt j m u f b=>?_⟩
   .exact h.calm t q u (a t f).1 (by rw [<-E];exact b) i A
   .exact h.rep t c l own u (a t f).1 (by rw [<-E];exact b) i
   .rcases I t j m f with ⟨rfl,o⟩ | ⟨_,o⟩
    .exfalso;rw [M _ _ o rfl] at r;cases r
    .obtain ⟨F,G⟩:=h.fresh t j m u o b;exact ⟨λn H=>(F n H).more L,G⟩
  | true=>
   refine ⟨λt q u f b i A=>?_,λt c l own u f b i=>?_,λt j m u f b=>?_⟩
   .by_cases g:t=d
    .subst g;rw [qt6 r] at A;rw [q1s (by rw [<-z];exact r)] at b;cases A;cases b;exact N.calm ((a t f).2 rfl) i
    .rcases qq0 A with ⟨k,_⟩ | k
     .simp only [zS] at k;exact absurd k.symm g
     .rcases qy4 b with s | s
      .simp only [zS] at s;exact absurd s.symm g
      .exact h.calm t q u (a t f).1 (by rw [<-E];exact s) i k
   .by_cases g:t=d
    .subst g;rw [qt6 r] at i;rw [q1s (by rw [<-z];exact r)] at b;cases i;exact N.rep c l own ((a t f).2 rfl) (Option.some.inj b)
    .rcases qq0 i with ⟨k,_⟩ | k
     .simp only [zS] at k;exact absurd k.symm g
     .rcases qy4 b with s | s
      .simp only [zS] at s;exact absurd s.symm g
      .exact h.rep t c l own u (a t f).1 (by rw [<-E];exact s) k
   .rcases I t j m f with ⟨rfl,o⟩ | ⟨g,o⟩
    .rw [qt6 r] at b;cases b;exact N.fresh j m o
    .rcases qq0 b with ⟨k,_⟩ | k
     .simp only [zS] at k;exact absurd k.symm g
     .obtain ⟨F,G⟩:=h.fresh t j m u o k;exact ⟨λn H=>(F n H).more L,G⟩
theorem zax {o:Oper} {fr:Fr} {H H':Heap} (a:∀ x ∈ o.op.operands.toList,∀ g,x≠.global g):∀ x ∈ o.op.operands.toList,opd {fr with tmps:=kl fr.tmps (o.looksAt all) .nil} H' x=opd fr H x:=
 λx b=>qfj b (a x b)
theorem Rel.cm {st:StV K} {fr:Fr} {H:Heap} {w:Wd} (R:Rel X sz C base st fr H w):Cm X sz H.next w [] ⟨[],[]⟩ st fr:=by
 refine ⟨λt p v _ i m k n a=>?_,λt c l own v _ i k=>?_,λt j z v h=>by simp [look] at h⟩
 .obtain ⟨u,d,r⟩:=R.f t p i;rw [k] at d;cases d;cases r with
  | eptr b=>simp only [V.nm,List.mem_singleton] at a;subst a;exact R.h.lts b
  | list b=>simp only [V.nm,List.mem_singleton] at a;subst a;exact R.h.lts b
  | nlist=>simp [V.nm] at a
  | plist b=>simp only [V.nm,List.mem_singleton] at a;subst a;exact R.h.lts b
  | _=>simp [qxi] at m
 .obtain ⟨u,d,r⟩:=R.f t _ i;rw [k] at d;cases d;cases r with
  | nlist h=>exact .nlist trivial
  | list b o q e s x g y A=>exact .list b o q e s x g y trivial
theorem qfc {α:Type} {c:Bool} {x:Option α} {r:α} (h:(if c then x else none)=some r):c=true/\x=some r:=by
 cases c with
 | false=>cases h
 | true=>exact ⟨rfl,h⟩
theorem zjg {fr fr':Fr} {H' J:Heap} {o:Oper} {v:V} {t:Nat} (p:(∃ ty i,o.op=.indexAddr ty (.tmp t) i)∨(∃ ty i,o.op=.fieldAddr ty (.tmp t) i))
  (k:∀ x ∈ o.op.operands.toList,opd fr' H' x=opd fr J x) (e:zb C.E o fr' H'=some (.val v,H')):(∃ a b c d,v=.ptr a b c d)/\∃ u,fr.tmp t=some u/\∀ n ∈ v.nm,n ∈ u.nm:=by
 rcases p with ⟨ty,i,l⟩ | ⟨ty,i,l⟩
 .simp only [zb,l] at e;obtain ⟨ti,_,e⟩:=zI.1 e;obtain ⟨u,h,e⟩:=zI.1 e;obtain ⟨j,_,e⟩:=zI.1 e;rw [k _ (by simp [l,Op.operands])] at h;split at e
  .obtain ⟨q,_,e⟩:=zI.1 e;obtain ⟨z,g,e⟩:=zM.1 e;simp only [zP,Out.val.injEq,and_true] at e;subst e;unfold kj at g;split at g
   .split at g
    .cases g;exact ⟨⟨_,_,_,_,rfl⟩,_,h,λn m=>m⟩
    .cases g
   .cases g
  .obtain ⟨q,_,e⟩:=zI.1 e;split at e
   .split at e
    .cases e;exact ⟨⟨_,_,_,_,rfl⟩,_,h,λn m=>m⟩
    .cases e
   .cases e
  .cases e
 .simp only [zb,l] at e;obtain ⟨ti,_,e⟩:=zI.1 e;obtain ⟨f,_,e⟩:=zI.1 e;obtain ⟨fi,_,e⟩:=zI.1 e;cases g:Nat.beq fi.size 0 with
  | true=>simp_all
  | false=>
   rw [g] at e;obtain ⟨u,h,e⟩:=zI.1 e;rw [k _ (by simp [l,Op.operands])] at h;split at e
   .cases e;exact ⟨⟨_,_,_,_,rfl⟩,_,h,λn m=>m⟩
   .cases e
theorem q47 {st:StV K} {t:Nat} (h:elemAt st t=true):∃ p,st.tmps.get t=some p/\qxi p=true:=by
 unfold elemAt at h;split at h
 .rename_i a;exact ⟨_,a,rfl⟩
 .rename_i a;exact ⟨_,a,rfl⟩
 .rename_i a;exact ⟨_,a,rfl⟩
 .cases h
theorem q08 {y:Wd} {done done':List Done} {e:Dirt} {st:StV K} {fr fr':Fr} {H' J:Heap} {o:Oper} {p:PV K} {v:V} {i:Nat} {w':Wd} (h:Cm X sz B y done e st fr) (L:∀ d ∈ done,d ∈ done') (r:Rep X sz w' p v)
  (s:qen o.op=true) (z:∀ t,o.op≠.move (.tmp t)) (A:∀ x ∈ o.op.operands.toList,opd fr' H' x=opd fr J x) (he:zb C.E o fr' H'=some (.val v,H')) :
  NewV X sz B y done' (qgu e st o.op) (qap e st i o) p v:=by
 have m:∀ t,((∃ ty i,o.op=.indexAddr ty (.tmp t) i)∨(∃ ty i,o.op=.fieldAddr ty (.tmp t) i))->NewV X sz B y done' (!e.dirty.any (Nat.beq t)&&elemAt st t) (match o.dst with | some d=>if Nat.blt d st.n then (if elemAt st t then (look e.fresh t).map λx=>(x.1,false) else none) else none | none=>none) p v:=by
  intro t a;obtain ⟨⟨D,Q,R,S,rfl⟩,u,F,G⟩:=zjg a A he;refine ⟨λw _ n g=>?_,λc l own w s=>?_,λj T b=>?_⟩
  .simp only [zA,Bool.not_eq_true'] at w;obtain ⟨q,M,f⟩:=q47 w.2;exact h.calm t q u w.1 M f F n (G n g)
  .subst s;cases r
  .split at b
   .rename_i d _;cases H:Nat.blt d st.n with
    | false=>rw [H] at b;cases b
    | true=>
     rw [H] at b;cases f:elemAt st t with
     | false=>rw [f] at b;cases b
     | true=>
      rw [f] at b;simp only [zO,↓reduceIte] at b;obtain ⟨⟨U,N⟩,O,I⟩:=zM.1 b;simp only [zP] at I;obtain ⟨rfl,rfl⟩:=I;obtain ⟨D,_⟩:=h.fresh t _ _ u O F;exact ⟨λn g=>(D n (G n g)).more L,λP=>by cases P⟩
   .cases b
 cases a:o.op with
 | indexAddr ty x i'=>
  cases x with
  | tmp t=>
   have:=m t (.inl ⟨_,_,a⟩);simp only [qap,a,qh7,qgu];exact this
  | _=>
   have k:qap e st i o=none:=by
    unfold qap;split
    .simp only [a,qh7];cases Nat.blt _ st.n<;>rfl
    .rfl
   rw [k];exact .no
 | fieldAddr ty x i'=>
  cases x with
  | tmp t=>
   have:=m t (.inr ⟨_,_,a⟩);simp only [qap,a,qh7,qgu];exact this
  | _=>
   have k:qap e st i o=none:=by
    unfold qap;split
    .simp only [a,qh7];cases Nat.blt _ st.n<;>rfl
    .rfl
   rw [k];exact .no
 | move x=>
  cases x with
  | tmp t=>exact absurd a (z t)
  | _=>
   have k:qap e st i o=none:=by
    unfold qap;split
    .simp only [a,qh7];cases Nat.blt _ st.n<;>rfl
    .rfl
   rw [k];exact .no
 | buildSlice=>rw [a] at s;simp [qen] at s
 | _=>
  have k:qap e st i o=none:=by
   unfold qap;split
   .simp only [a,qh7];cases Nat.blt _ st.n<;>rfl
   .rfl
  rw [k];exact .no
theorem q8j {h:Wd} {done:List Done} {c:Dirt} {st:StV K} {o:Oper} {p:PV K} {v:V} {i:Nat} {fr':Fr} {T k:Heap} {t:TypeId} {n:Nat} {parts:Array (Nat×Operand)} (e:o.op=.buildSlice t n parts)
  (a:zb C.E o fr' T=some (.val v,k)) (l:∃ d ∈ done,d.i=i/\d.lo<=T.next/\T.next<d.hi):NewV X sz B h done (qgu c st o.op) (qap c st i o) p v:=by
 have q:∃ len z,v=.slice T.next 0 0 len z (some len):=by
  simp only [zb,e] at a;obtain ⟨ti,_,a⟩:=zI.1 a;obtain ⟨vs,_,a⟩:=zI.1 a;split at a
  .obtain ⟨r,_,a⟩:=zI.1 a;cases s:Nat.ble (n * r.size) 16777216 with
   | false=>simp_all
   | true=>
    rw [s] at a;obtain ⟨cells,_,a⟩:=zM.1 a;simp only [zP,Out.val.injEq] at a;exact ⟨_,_,a.1.symm⟩
  .cases a
 obtain ⟨len,z,rfl⟩:=q;have u:qgu c st o.op=false:=by rw [e];rfl
 rw [u];refine ⟨λf=>(by cases f),λ_ _ _ f=>(by cases f),λj x b=>?_⟩;unfold qap at b;split at b
 .rw [e] at b;rcases qfc b with ⟨_,w⟩
  obtain ⟨rfl,rfl⟩:=w;refine ⟨λm g=>?_,λ_=>⟨_,_,_,rfl⟩⟩;simp only [V.nm,List.mem_singleton] at g;subst g;exact l
 .cases b
theorem zba {d:Wd} {done:List Done} {a:Dirt} {st:StV K} {fr:Fr} (h:Cm X sz B d done a st fr) {t:Nat} {p:PV K} {v:V} (e:st.tmps.get t=some p) (he:qxi p=true) (b:fr.tmp t=some v):∀ n ∈ v.nm,qpu B done n (zjs a t):=by
 intro n c;unfold zjs;cases f:a.dirty.any (Nat.beq t) with
 | false=>exact h.calm t p v f e he b n c
 | true=>
  simp only [Bool.not_true,zQ,Bool.false_eq_true,↓reduceIte];split
  .rename_i j g i;exact (h.fresh t j g v i b).1 n c
  .trivial
theorem q1f {st:StV K}:∀ {l:List Operand} {ps:List (PV K)},qey (qu X tbl inv meas) C st l=some ps->∀ x ∈ l,∃ p,jj (qu X tbl inv meas) C st x=some p
 | [],_,_,x,a=>by cases a
 | y::l,ps,h,x,a=>by
  simp only [qey] at h;obtain ⟨q,b,c⟩:=zI.1 h;obtain ⟨e,d,_⟩:=zM.1 c;rcases zD.1 a with rfl | a
  .exact ⟨q,b⟩
  .exact q1f d x a
theorem q42 (ok:CfgOk X sz C) (ok2:CfgOk2 X C) {w u:Wd} {done:List Done} {A:Dirt} {st:StV K} {fr:Fr} {H:Heap} (i:Cm X sz B u done A st fr) {g1:Nat->Option O}
  (j:∀ nm cs e D a b ex,u.g nm=some (.row cs e D a b ex)->¬ u.M nm->¬ ({w with g:=g1}:Wd).M nm/\∃ cs2 k m ex',({w with g:=g1}:Wd).g nm=some (.row (cs++cs2) e k a m ex'))
  (d:∀ nm,nm<B->g1 nm=w.g nm) {x:Operand} {p:PV K} {v:V} (f:qrp (qu X tbl inv meas) C A st x=true) (N:jj (qu X tbl inv meas) C st x=some p) (R:opd fr H x=some v) (r:Rep X sz w p v):Rep X sz {w with g:=g1} p v:=by
 unfold qrp at f;rw [N] at f;cases p with
 | int=>cases r with | int h=>exact .int h
 | str=>cases r;exact .str
 | lit=>cases r;exact .lit
 | sb=>cases r with | sb E F G=>exact .sb E F G
 | nils=>cases r;exact .nils
 | list c l own=>
  simp only at f;split at f
  .rename_i t;have P:A.dirty.any (Nat.beq t)=false:=by simpa using f
   have n:st.tmps.get t=some (.list c l own):=N;have o:fr.tmp t=some v:=R;have S:=(i.rep t c l own v P n o).qyo ok.len ok2.plain j .list;have I:=i.calm t _ v P n rfl o;have Q:qli w sz c own v->qli {w with g:=g1} sz c own v:=by
    intro h;cases own with
    | none=>trivial
    | some y=>
     obtain ⟨E,F,G,T⟩:=h;refine ⟨E,F,λU=>?_,T⟩;have:=G U;cases v with
     | slice nm gn off len z cap=>
      simp only [q2a] at this ⊢;rcases this with J | ⟨J,W,cs,e,a,b,ex,Y,Z⟩
      .exact .inl J
      .exact .inr ⟨J,W,cs,e,a,b,ex,by rw [d nm (I nm (by simp [V.nm]))];exact Y,Z⟩
     | _=>exact this
   cases S with
   | nlist _=>
    cases r with
    | nlist h=>exact .nlist (Q h)
   | list hg hf hM q hb hz s L _=>
    cases r with
    | list _ _ _ _ _ _ _ _ h=>exact .list hg hf hM q hb hz s L (Q h)
  .cases f
 | _=>simp at f
theorem qrq (ok:CfgOk X sz C) (ok2:CfgOk2 X C) {w j:Wd} {done:List Done} {q:Dirt} {st:StV K} {fr:Fr} {H:Heap} (d:Cm X sz B j done q st fr) {g1:Nat->Option O}
  (c:∀ nm cs e k a m ex,j.g nm=some (.row cs e k a m ex)->¬ j.M nm->¬ ({w with g:=g1}:Wd).M nm/\∃ cs2 f h ex',({w with g:=g1}:Wd).g nm=some (.row (cs++cs2) e f a h ex'))
  (b:∀ nm,nm<B->g1 nm=w.g nm):∀ {l:List Operand} {ps:List (PV K)} {vs:List V},l.all (qrp (qu X tbl inv meas) C q st)=true->qey (qu X tbl inv meas) C st l=some ps->qay fr H l=some vs->ql X sz w ps vs->ql X sz {w with g:=g1} ps vs
 | [],ps,vs,_,i,n,r=>by
  simp only [qey,zS] at i;subst i;rw [r.z6];exact .nil
 | x::l,ps,vs,o,i,n,r=>by
  simp only [List.all_cons,zA] at o;simp only [qey] at i;obtain ⟨p,t,u⟩:=zI.1 i;obtain ⟨y,z,rfl⟩:=zM.1 u;simp only [qay] at n;obtain ⟨v,A,D⟩:=zI.1 n;obtain ⟨E,F,rfl⟩:=zM.1 D;obtain ⟨L,s,G,I,J⟩:=r.zk;cases G;exact .cons (q42 ok ok2 d c b o.1 t A I) (qrq ok ok2 d c b o.2 z F J)
theorem qc2 {c:Wd} {done:List Done} {a:Dirt} {st:StV K} {o:Oper} {p:PV K} {v:V} {i:Nat} (h:(match o.op with | .move _ | .indexAddr .. | .fieldAddr .. | .buildSlice ..=>false | _=>true)=true) :
  NewV X sz B c done (qgu a st o.op) (qap a st i o) p v:=by
 have d:qap a st i o=none:=by
  unfold qap;split
  .cases b:o.op<;>simp [b] at h<;>simp only [qh7]<;>cases Nat.blt _ st.n<;>rfl
  .rfl
 have e:qgu a st o.op=false:=by
  cases b:o.op<;>simp [b] at h<;>rfl
 rw [d,e];exact .no
theorem qmd {st:StV K} {fr:Fr} {H:Heap} {o:Oper} {x:Operand} {v:V} (b:x ∈ o.op.operands.toList) (a:(qh8 x).isEmpty=true) (c:opd fr H x=some v) (H0:Heap):opd {fr with tmps:=kl fr.tmps (o.looksAt all) .nil} H0 x=some v:=by
 have:opd {fr with tmps:=kl fr.tmps (o.looksAt all) .nil} H0 x=opd fr H x:=qfj b (by intro g d;subst d;simp [qh8] at a);rw [this];exact c
theorem ze6 (ok:CfgOk X sz C) {i:Nat} {W:Wd} {U:List Done3} {done:List Done} {st:StV K} {fr:Fr} {H:Heap} {w:Wd} (m:Mid X sz C base B old i W U done st fr H w) {dt:Dirt} {o:Oper} {l:List Oper} {Q:Ex->Fr->Heap->Prop}
  {k:PV K->StV K->Prop} {f:FP3} (hw:ky o all fr=some true) (ha:(U.filter λd=>!(b.getD i 0).testBit d.i).all (λd=>qis old d f)=true)
  (y:∀ p a,k p a->(∀ d ∈ U,∀ j,d.fp.vid=some j->(look a.cells j).isSome=true)/\∀ j,f.vid=some j->(look a.cells j).isSome=true)
  {t:TypeId} {Y x:Operand} {z:Bool} (A:o.op=.lookup t Y x z) (F:∃ d id,Y=.tmp d/\st.tmps.get d=some (.map id)/\(if (qh8 x).isEmpty then some (FP3.read id) else none)=some f) {pm px:PV K} (G:jj (qu X tbl inv meas) C st Y=some pm) (Z:jj (qu X tbl inv meas) C st x=some px) (h:qwi (qu X tbl inv meas) C t z pm px st k)
  (next:∀ p a v J w' e,k p a->(a.tmps=st.tmps/\a.n=st.n)->(∀ d ∈ done,d ∈ e)->NewV X sz B W e (qgu dt st o.op) (qap dt st i o) p v->Le w w'->Mid X sz C base B old (i+1) W (⟨i,f,makes o.op⟩::U) e (a.put o.dst p) (fr.put o.dst v) J w'->WpD C.E all b (i+1) l e (fr.put o.dst v) J Q):WpD C.E all b i (o::l) done fr H Q:=by
 have more:∀ (d:Done),∀ x ∈ done,x ∈ d::done:=λd x hx=>zG _ hx;have R:=m.R;obtain ⟨vm,em,rm⟩:=qo R G;obtain ⟨vx,ex,rx⟩:=qo R Z;obtain ⟨id,p,a,v,w',rfl,rfl,a0,I,L,a1,h3,r,R',u,r',a2⟩:=qp4 ok R.h rm rx h;have a3:∀ q,(FP3.read id).vid=some q->(look st.cells q).isSome=true:=by
  intro q he;cases he;exact L
 obtain ⟨d,a8,rfl,a4,F⟩:=F;have s:st.tmps.get d=some (.map id):=G;rw [a4] at s;cases s;obtain ⟨M,F⟩:=qfc F;cases F;have hd:d ∈ o.looksAt all:=by simp [Oper.looksAt,A,Op.operands]
 have a5:fr.tmp d=some (.map (w.c id)):=em;have a6:qar fr [x]=[]:=by
  cases x with
  | tmp t'=>
   have:fr.tmp t'=some vx:=ex;simp only [qar,List.flatMap_cons,List.flatMap_nil,qpp,this,a1,zJ]
  | global g=>simp [qh8] at M
  | _=>rfl
 have a7:qfe C.E o fr=.reads [w.c id]:=by
  simp only [qfe,A,js,Op.operands];refine congrArg FP.reads ?_;show qpp fr (.tmp d)++qar fr [x]=_;rw [a6];simp only [qpp,a5,V.nm,zJ]
 have N:=qib (nm:=w.c id) m.D ha (.inl ⟨id,.inl rfl,λO=>m.lt id O I⟩);have P:=qho (H:=H) (l:=[w.c id]) (dels:=(zj b i done).flatMap Done.names) (List.mem_singleton.2 rfl) a0 N;have S:fpR B done H.next w (.read id) (.reads [w.c id]):=⟨rfl,I⟩
 have T:∀ id,w.cl id->id<w.n:=λid h=>by rw [R.h.n];exact (R.h.cl id h).1
 refine qdd (fp:=.reads [w.c id]) (out:=.val v) (v:=v) (K:=zw H (.reads [w.c id]) ((zj b i done).flatMap Done.names)) hw a7 (by simp) (qex R.h m.D m.wr (λq he=>R.h.live (a3 q he)) S ha) ?_ (.inl rfl) (zN _) ?_
 .refine a2 o (.tmp d) x _ _ A ?_ (qmd (st:=st) (by simp [A,Op.operands]) M ex _) P;simp only [opd,qdi hd];exact em
 .rw [qju];exact next _ _ v H w' _ h3 ⟨r.tmps,r.n⟩ (more _) (qc2 (by rw [A])) u (m.go ok r.tmps r.n R' u r' (zN _) ⟨zN _,zN _⟩ (λ_=>rfl) (S.mono u (λ_ h=>h) T) (y _ _ h3).1 (y _ _ h3).2)
theorem q02 (ok:CfgOk X sz C) {i:Nat} {w0:Wd} {l3:List Done3} {done:List Done} {st:StV K} {fr:Fr} {H:Heap} {w:Wd} (m:Mid X sz C base B old i w0 l3 done st fr H w) {dt:Dirt} {o:Oper} {l:List Oper} {Q:Ex->Fr->Heap->Prop}
  {k:PV K->StV K->Prop} {f:FP3} (hw:ky o all fr=some true) (ha:(l3.filter λd=>!(b.getD i 0).testBit d.i).all (λd=>qis old d f)=true)
  (G:∀ p a,k p a->(∀ d ∈ l3,∀ j,d.fp.vid=some j->(look a.cells j).isSome=true)/\∀ j,f.vid=some j->(look a.cells j).isSome=true)
  {t:TypeId} {m0 x y:Operand} (e:o.op=.mapUpdate t m0 x y∨o.op=.insert t m0 x y) (I:∃ d id,m0=.tmp d/\st.tmps.get d=some (.map id)/\(if (qh8 x).isEmpty&&(qh8 y).isEmpty then some (FP3.write id) else none)=some f) {pm px py:PV K} (L:jj (qu X tbl inv meas) C st m0=some pm) (a0:jj (qu X tbl inv meas) C st x=some px) (a1:jj (qu X tbl inv meas) C st y=some py) (h:qsc (qu X tbl inv meas) C t pm px py st k)
  (next:∀ p a v J w' g,k p a->(a.tmps=st.tmps/\a.n=st.n)->(∀ d ∈ done,d ∈ g)->NewV X sz B w0 g (qgu dt st o.op) (qap dt st i o) p v->Le w w'->Mid X sz C base B old (i+1) w0 (⟨i,f,makes o.op⟩::l3) g (a.put o.dst p) (fr.put o.dst v) J w'->WpD C.E all b (i+1) l g (fr.put o.dst v) J Q):WpD C.E all b i (o::l) done fr H Q:=by
 have more:∀ (d:Done),∀ x ∈ done,x ∈ d::done:=λd x hx=>zG _ hx;have R:=m.R;obtain ⟨vm,em,rm⟩:=qo R L;obtain ⟨vx,ex,rx⟩:=qo R a0;obtain ⟨vy,ey,ry⟩:=qo R a1;obtain ⟨id,a,row,w',rfl,rfl,N,z,O,P,h4,e1,e2,R',A,aa,a2⟩:=qj3 ok R.h rm rx ry h;obtain ⟨d,ab,rfl,a3,I⟩:=I;have r:st.tmps.get d=some (.map id):=L;rw [a3] at r;cases r;obtain ⟨q,I⟩:=qfc I;cases I;simp only [zA] at q;have S:qh8 x=[]:=by simpa using q.1
 have T:qh8 y=[]:=by simpa using q.2
 have s:Operand.tmp d ∈ o.op.operands.toList/\x ∈ o.op.operands.toList/\y ∈ o.op.operands.toList:=by rcases e with e | e<;>simp [e,Op.operands]
 have hd:d ∈ o.looksAt all:=by rcases e with e | e<;>simp [Oper.looksAt,e,Op.operands]
 have a4:fr.tmp d=some (.map (w.c id)):=em;have a5:∀ F,(FP3.write id).vid=some F->w.M (w.c F):=by
  intro F he;cases he;exact R.h.live P
 have a6:qfe C.E o fr=.writes [w.c id]:=by
  rcases e with e | e<;>simp only [qfe,e,js,Bool.not_true,zQ,Bool.false_eq_true,↓reduceIte,qpp,a4,V.nm,S,T,zJ]
 have U:fpR B done H.next w (.write id) (.writes [w.c id]):=⟨rfl,O⟩
 have W:∀ id,w.cl id->id<w.n:=λid h=>by rw [R.h.n];exact (R.h.cl id h).1
 have u:=qib (nm:=w.c id) m.D ha (.inl ⟨id,.inr rfl,λY=>m.lt id Y O⟩);have Z:=qmk (H:=H) (l:=[w.c id]) (dels:=(zj b i done).flatMap Done.names) (List.mem_singleton.2 rfl) N u;have a7:(zw H (.writes [w.c id]) ((zj b i done).flatMap Done.names)).ro<=w.c id:=by
  show H.ro<=w.c id;rw [R.h.keeps.ro];exact zR R.h.rob.1 z
 have ad:makes o.op=false:=by rcases e with e | e<;>rw [e]<;>rfl
 refine qdd (fp:=.writes [w.c id]) (out:=.skip) (v:=zs) (K:=(zw H (.writes [w.c id]) ((zj b i done).flatMap Done.names)).put (w.c id) row) hw a6 (by simp) (qex R.h m.D m.wr a5 U ha) ?_ (.inr ⟨rfl,rfl⟩) (zN _) ?_
 .refine a2 o (.tmp d) x y _ _ e ?_ (qmd (st:=st) s.2.1 q.1 ex _) (qmd (st:=st) s.2.2 q.2 ey _) Z a7;simp only [opd,qdi hd];exact em
 .have RJ:RelH X sz C base a (qb6 H ((zw H (.writes [w.c id]) ((zj b i done).flatMap Done.names)).put (w.c id) row) (.writes [w.c id]) ((zj b i done).flatMap Done.names)) w':=by
   refine R'.congr (λn=>?_) ?_ ?_ ?_
   .rw [qg1];have a8:((zw H (.writes [w.c id]) ((zj b i done).flatMap Done.names)).put (w.c id) row).next-H.next=0:=Nat.sub_self _
    rw [a8];simp only [List.range'_zero,zJ,List.mem_filter,List.mem_singleton];have a9:(Nat.blt (w.c id) H.next&&!((zj b i done).flatMap Done.names).any λm=>Nat.beq (w.c id) m)=true:=qq8 N u;by_cases hn:n=w.c id
    .subst hn;rw [zT ⟨rfl,a9⟩,zo,zo]
    .rw [zF (λhh=>hn hh.1),zd hn]
   .rfl
   .rfl
   .rfl
  exact next _ _ zs _ w' _ h4 ⟨e1,e2⟩ (more _) (qc2 (by rcases e with e | e<;>rw [e])) A (m.go ok e1 e2 RJ A .undef (zN _) ⟨zN _,zN _⟩ (λ_=>rfl) (U.mono A (λ_ h=>h) W) (G _ _ h4).1 (G _ _ h4).2)
theorem zhw (ok:CfgOk X sz C) (ok2:CfgOk2 X C) (tok:qcu X sz C tbl) (c0:qhd X sz C inl) {i:Nat} {w0:Wd} {l3:List Done3} {done:List Done} {st:StV K} {fr:Fr} {H:Heap} {w:Wd} (m:Mid X sz C base B old i w0 l3 done st fr H w) {dt:Dirt} (aE:Cm X sz B w0 done dt st fr) {o:Oper} {l:List Oper} {Q:Ex->Fr->Heap->Prop}
  {k:PV K->StV K->Prop} {f:FP3} (hw:ky o all fr=some true) (G:fp3 (qu X tbl inv meas) C all b i o dt st=some f) (ha:(l3.filter λd=>!(b.getD i 0).testBit d.i).all (λd=>qis old d f)=true)
  (U:∀ p L,k p L->(∀ d ∈ l3,∀ j,d.fp.vid=some j->(look L.cells j).isSome=true)/\∀ j,f.vid=some j->(look L.cells j).isSome=true)
  (h:qba (qu X tbl inv meas) C (zeo (qu X tbl inv meas) inl f) o st k)
  (next:∀ p L v J w' aF,k p L->(L.tmps=st.tmps/\L.n=st.n)->(∀ d ∈ done,d ∈ aF)->NewV X sz B w0 aF (qgu dt st o.op) (qap dt st i o) p v->Le w w'->Mid X sz C base B old (i+1) w0 (⟨i,f,makes o.op⟩::l3) aF (L.put o.dst p) (fr.put o.dst v) J w'->WpD C.E all b (i+1) l aF (fr.put o.dst v) J Q):WpD C.E all b i (o::l) done fr H Q:=by
 have more:∀ (d:Done),∀ x ∈ done,x ∈ d::done:=λd x hx=>zG _ hx;have R:=m.R;unfold fp3 at G;cases ht:js C.E o.op with
 | false=>
  rw [ht] at G;simp only [Bool.not_false,zO,↓reduceIte] at G;have b3:f=.none/\∀ t x lo hi mx p,o.op=.slice t x lo hi mx->jj (qu X tbl inv meas) C st x=some p->∀ id c fx n,p≠.mlist id c fx n:=by
   split at G
   .rename_i t x lo hi mx I;split at G
    .cases G
    .rename_i bK;cases G;refine ⟨rfl,λt' x' cM cN cO p bm hp id c fx n O=>?_⟩;rw [I] at bm;cases bm;subst O;exact bK _ _ _ _ hp
   .rename_i bK;cases G;exact ⟨rfl,λt' x' cM cN cO p bm=>absurd bm (bK _ _ _ _ _)⟩
  obtain ⟨rfl,dx⟩:=b3;have a9:qfe C.E o fr=.none:=by simp only [qfe,ht,Bool.not_false,zO,↓reduceIte]
  have aY:=qex (fp:=.none) (lo:=H.next) (dels:=(zj b i done).flatMap Done.names) R.h m.D (f:=.none) m.wr (λ_ O=>by cases O) rfl ha;by_cases c1:∃ t,o.op=.move (.tmp t)
  .obtain ⟨t,I⟩:=c1;simp only [qba,I] at h;obtain ⟨p,ah,hk⟩:=qf h;obtain ⟨v,ev,rv⟩:=qo R ah;have bn:fr.tmp t=some v:=ev;have a7:st.tmps.get t=some p:=ah;have hd:t ∈ o.looksAt all:=by simp [Oper.looksAt,I,Op.operands]
   refine qdd (fp:=.none) (K:=zw H .none ((zj b i done).flatMap Done.names)) (out:=.val v) (v:=v) hw a9 (by simp) aY ?_ (.inl rfl) (zN _) ?_
   .simp only [zb,I,opd,qdi hd,bn,zH]
   .rw [ql8];refine next p st v H w _ hk ⟨rfl,rfl⟩ (more _) ⟨λhc O=>?_,λc l' own hc O=>?_,λj wh b4=>?_⟩ (.refl w) (m.go ok rfl rfl R.h (.refl w) rv (zN _) ⟨zN _,zN _⟩ (λ_=>rfl) rfl m.live (λ_ O=>by cases O))
    .simp only [I,qgu,zA,Bool.not_eq_true'] at hc;exact aE.calm t p v hc.1 a7 O bn
    .simp only [I,qgu,zA,Bool.not_eq_true'] at hc;subst O;exact aE.rep t c l' own v hc.1 a7 bn
    .unfold qap at b4;split at b4
     .rw [I] at b4;have F:=(qfc b4).2;simp only [qh7] at F;obtain ⟨a1,a2⟩:=aE.fresh t j wh v F bn;exact ⟨λn A=>(a1 n A).more (more _),a2⟩
     .cases b4
  have ca:∀ t,o.op≠.move (.tmp t):=λt ht=>c1 ⟨t,ht⟩;by_cases hp:qen o.op=true
  .have b5:=qtf ht (.inl hp);obtain ⟨p,L,v,w',F,P,h3,Y,h5,h6⟩:=qt1 (fr':={fr with tmps:=kl fr.tmps (o.looksAt all) .nil}) (H':=zw H .none ((zj b i done).flatMap Done.names)) ok R hp (zax b5)
    h
   refine qdd (fp:=.none) (K:=zw H .none _) hw a9 (by simp) aY h6 (.inl rfl) (zN _) ?_;rw [ql8];exact next p L v H w' _ F ⟨P.tmps,P.n⟩ (more _) (q08 (J:=H) aE (more _) h5 hp ca (zax b5) h6) Y (m.go ok P.tmps P.n h3 Y h5 (zN _) ⟨zN _,zN _⟩ (λ_=>rfl) rfl (U _ _ F).1 (U _ _ F).2)
  by_cases A:qof o.op=true
  .have b5:=qtf ht (.inr A);obtain ⟨p,L,v,row,w',F,P,h3,Y,h5,h6,h7⟩:=q5g ok R A h;have ab:makes o.op=true:=by
    cases I:o.op<;>simp [qof,I] at A<;>rfl
   refine qdd (fp:=.none) (out:=.val v) (v:=v) (K:=(zw H .none ((zj b i done).flatMap Done.names)).new row) hw a9 (by simp) aY (h7 _ _ rfl (zax b5)) (.inl rfl) (by rw [qi];exact Nat.le_succ _) ?_;rw [zcf];refine next p L v _ w' _ F ⟨P,h3⟩ (more _) ?_ h5 (m.go ok P h3 Y h5 h6 (by rw [qi];exact Nat.le_succ _) ⟨by rw [qi];exact Nat.le_succ _,by rw [qi,qi];exact zN _⟩ (λhc=>by rw [ab] at hc;cases hc) rfl (U _ _ F).1 (U _ _ F).2)
   cases I:o.op with
   | buildSlice t' n' cK=>
    rw [<-I];exact q8j (fr':={fr with tmps:=kl fr.tmps (o.looksAt all) .nil}) I (h7 _ (zw H .none ((zj b i done).flatMap Done.names)) rfl (zax b5)) ⟨_,zC,rfl,zN _,by rw [qi];exact Nat.lt_succ_self _⟩
   | _=>rw [<-I];exact qc2 (by first | (simp [qof,I] at A;done) | (simp [I];done))
  exfalso;cases I:o.op with
  | load=>rw [I] at ht;simp [js] at ht
  | store=>rw [I] at ht;simp [js] at ht
  | lookup=>rw [I] at ht;simp [js] at ht
  | mapUpdate=>rw [I] at ht;simp [js] at ht
  | insert=>rw [I] at ht;simp [js] at ht
  | next=>rw [I] at ht;simp [js] at ht
  | call c=>
   rw [I] at ht;simp only [qba,I] at h;obtain ⟨ps,aZ,F⟩:=qf h;split at F
   .rename_i f hc;simp [js,hc] at ht
   .rename_i bi hc;simp only [js,hc] at ht;simp only [qen,I,hc] at hp;unfold qiu at F;split at F
    all_goals first
     | (simp at hp;done)
     | (simp at ht;done)
     | (exact absurd F id)
   .exact absurd F id
  | _=>first
   | (simp [qen,I] at hp;done)
   | (simp [qof,I] at A;done)
   | (simp only [qba,I] at h;exact absurd h id)
 | true=>
  rw [ht] at G;simp only [Bool.not_true,zQ,Bool.false_eq_true,↓reduceIte] at G;cases I:o.op with
  | load t x=>
   rw [I] at G;simp only [qba,I] at h;obtain ⟨ti,az,F⟩:=qf h;obtain ⟨p,ah,P⟩:=qf F;obtain ⟨v,ev,rv⟩:=qo R ah;have ab:makes (.load t x)=false:=rfl;have run:∀ nm,v.nm=[nm]->qar fr [x]=[nm]->nm ∉ (zj b i done).flatMap Done.names->fpR B done H.next w f (.reads [nm])->(∀ id,f.vid=some id->(look st.cells id).isSome=true)->(∀ H1:Heap,H1.qp=H.qp->H1.get nm=H.get nm->opd {fr with tmps:=kl fr.tmps (o.looksAt all) .nil} H1 x=some v)->WpD C.E all b i (o::l) done fr H Q:=by
    intro nm ao aK S ae cQ aA;have a9:qfe C.E o fr=.reads [nm]:=by
     simp only [qfe,I,Op.operands];exact congrArg FP.reads aK
    obtain ⟨q,h3,nm',gn,off,lim,rfl,Z,hl,_⟩:=qns ok R.h rv P;simp only [V.nm,List.cons.injEq,and_true] at ao;subst ao;have aD:=qho (H:=H) (l:=[nm']) (dels:=(zj b i done).flatMap Done.names) (List.mem_singleton.2 rfl) Z S;obtain ⟨u,hu,ru⟩:=hl _ aD;obtain ⟨w',b0,R',a0,r'⟩:=qh6 ok R.h ru;have ak:∀ id,w.cl id->id<w.n:=λid h=>by rw [R.h.n];exact (R.h.cl id h).1
    refine qdd (fp:=.reads [nm']) (out:=.val u) (v:=u) (K:=zw H (.reads [nm']) ((zj b i done).flatMap Done.names)) hw a9 (by simp) (qex R.h m.D m.wr (λid O=>R.h.live (cQ id O)) ae ha) ?_ (.inl rfl) (zN _) ?_
    .simp only [zb,I,az,zB,aA (zw H (.reads [nm']) ((zj b i done).flatMap Done.names)) rfl aD,hu,zH]
    .rw [qju];exact next _ _ u H w' _ h3 ⟨b0.tmps,b0.n⟩ (more _) (qc2 (by rw [I])) a0 (m.go ok b0.tmps b0.n R' a0 r' (zN _) ⟨zN _,zN _⟩ (λ_=>rfl) (ae.mono a0 (λ_ h=>h) ak) (U _ _ h3).1 (U _ _ h3).2)
   obtain ⟨q,_,nm,gn,off,lim,hv,Z,_,b6⟩:=qns ok R.h rv P;subst hv;cases x with
   | tmp d=>
    simp only at G;have hd:d ∈ o.looksAt all:=by simp [Oper.looksAt,I,Op.operands]
    have aA:∀ H1:Heap,H1.qp=H.qp->H1.get nm=H.get nm->opd {fr with tmps:=kl fr.tmps (o.looksAt all) .nil} H1 (.tmp d)=some (.ptr nm gn off lim):=by
     intro H1 _ _;simp only [opd,qdi hd];exact ev
    have aK:qar fr [.tmp d]=[nm]:=by
     have:fr.tmp d=some (.ptr nm gn off lim):=ev;simp only [qar,List.flatMap_cons,List.flatMap_nil,qpp,this,V.nm,zJ]
    split at G
    .rename_i id o' l' hg;have a7:st.tmps.get d=some p:=ah;rw [hg] at a7;cases a7;cases G;rcases b6 with ⟨aQ,O,ao,ct,hl⟩ | ⟨cs,o2,O,_⟩
     .have bL:aQ=id:=by
       rcases O with ⟨_,_,O⟩ | ⟨_,_,_,_,O⟩
       .cases O;rfl
       .cases O
      subst bL;have hc:=(R.h.cells _ ct hl).1;refine run nm rfl aK (qib m.D ha (.inl ⟨_,.inl rfl,λaL=>?_⟩)) ⟨by rw [ao],hc⟩ (λid O=>by cases O;rw [hl];rfl) aA;rw [ao];exact m.lt _ aL hc
     .cases O
    .rename_i id c' i' n' o' hg;have a7:st.tmps.get d=some p:=ah;rw [hg] at a7;cases a7;cases G;rcases b6 with ⟨aQ,O,ao,ct,hl⟩ | ⟨cs,o2,O,_⟩
     .have bL:aQ=id:=by
       rcases O with ⟨_,_,O⟩ | ⟨_,_,_,_,O⟩
       .cases O
       .cases O;rfl
      subst bL;have hc:=(R.h.cells _ ct hl).1;refine run nm rfl aK (qib m.D ha (.inl ⟨_,.inl rfl,λaL=>?_⟩)) ⟨by rw [ao],hc⟩ (λid O=>by cases O;rw [hl];rfl) aA;rw [ao];exact m.lt _ aL hc
     .cases O
    .rename_i dy o' hg;have a7:st.tmps.get d=some p:=ah;rw [hg] at a7;cases a7;cases G;cases rv with
     | eptr q1 q2 q3 q4 q5 q6=>
      have af:=zba aE hg rfl ev nm (by simp [V.nm]);have S:nm ∉ (zj b i done).flatMap Done.names:=qib m.D ha (.inr (.inl ⟨_,rfl,_,List.mem_singleton.2 rfl,af⟩));refine run nm rfl aK S ⟨[nm],rfl,λn A=>?_⟩ (λid O=>by cases O) aA;rw [List.mem_singleton.1 A];exact ⟨⟨q3,_,_,_,_,_,_,q1⟩,_,List.mem_singleton.2 rfl,af⟩
    .cases G
   | global gl=>
    simp only [zS] at G;subst G;have aR:∃ ps,C.qp gl=some ps/\p=.eptr ps 0:=by
     simp only [jj] at ah;obtain ⟨ps,b7,ai⟩:=zM.1 ah;exact ⟨ps,b7,ai.symm⟩
    obtain ⟨ps,aG,rfl⟩:=aR;obtain ⟨g0,vs,e,fl,fz,ex,g1,g2,g3⟩:=R.h.globs gl ps aG;have bo:H.get gl=some (.row vs e 0 fl fz ex):=by rw [R.h.keeps.old gl g2];exact g1
    have hb:Nat.blt gl H.qp=true:=by rw [Nat.blt_eq,R.h.keeps.qp];exact g0
    have hv:V.ptr nm gn off lim=.ptr gl 0 0 vs.length:=by
     have:=ev;simp only [opd,hb,zO,↓reduceIte,bo,zS] at this;exact this.symm
    cases hv;cases rv with
    | eptr q1 q2 q3 q4 q5 q6=>
     have aq:nm<B:=by
      obtain ⟨st0,H0,R0,e0⟩:=m.z0;have:=R0.keeps.next
      omega
     refine run nm rfl (by simp [qar,qpp]) (qog m.D aq) ⟨[nm],rfl,λn A=>?_⟩ (λid O=>by cases O) ?_
     .rw [List.mem_singleton.1 A];exact ⟨⟨q3,_,_,_,_,_,_,q1⟩,_,List.mem_singleton.2 rfl,aq⟩
     .intro H1 an bM;simp only [opd,an,hb,zO,↓reduceIte,bM,bo]
   | _=>simp at G
  | indexAddr ty x ix=>
   rw [I] at G;cases x with
   | global gl=>
    simp only at G;have hp:qen o.op=true:=by rw [I];rfl
    have h0:=h;simp only [qba,I] at h0;obtain ⟨ti,az,F⟩:=qf h0;obtain ⟨pg,bN,_⟩:=qf F;obtain ⟨vg,eg,rg⟩:=qo R bN;split at G
    .rename_i cT;obtain ⟨bB,G⟩:=qfc G;simp only [zS] at G;subst G;obtain ⟨vi,ei,ri⟩:=qo R cT;have cU:vi.nm=[]:=by cases ri<;>rfl
     have cV:qar fr [ix]=[]:=by
      cases ix with
      | tmp t'=>
       have:fr.tmp t'=some vi:=ei;simp only [qar,List.flatMap_cons,List.flatMap_nil,qpp,this,cU,zJ]
      | global g=>simp [qh8] at bB
      | _=>rfl
     have aR:∃ ps,C.qp gl=some ps/\pg=.eptr ps 0:=by
      simp only [jj] at bN;obtain ⟨ps,b7,ai⟩:=zM.1 bN;exact ⟨ps,b7,ai.symm⟩
     obtain ⟨ps,aG,rfl⟩:=aR;obtain ⟨g0,vs,e,fl,fz,ex,g1,g2,g3⟩:=R.h.globs gl ps aG;have bo:H.get gl=some (.row vs e 0 fl fz ex):=by rw [R.h.keeps.old gl g2];exact g1
     have hb:Nat.blt gl H.qp=true:=by rw [Nat.blt_eq,R.h.keeps.qp];exact g0
     have hv:vg=.ptr gl 0 0 vs.length:=by
      have:=eg;simp only [opd,hb,zO,↓reduceIte,bo,zS] at this;exact this.symm
     subst hv;cases rg with
     | eptr q1 q2 q3 q4 q5 q6=>
      have aq:gl<B:=by
       obtain ⟨st0,H0,R0,e0⟩:=m.z0;have:=R0.keeps.next
       omega
      have Z:gl<H.next:=by
       have:=R.h.keeps.next
       omega
      have a9:qfe C.E o fr=.reads [gl]:=by
       have aB:=ht;rw [I] at aB;simp only [qfe,I,aB,Bool.not_true,zQ,Bool.false_eq_true,↓reduceIte,Op.operands];refine congrArg FP.reads ?_;show qpp fr (.global gl)++qar fr [ix]=_;rw [cV];rfl
      have ae:fpR B done H.next w (.stable [.calm]) (.reads [gl]):=⟨[gl],rfl,λn A=>by
       rw [List.mem_singleton.1 A];exact ⟨⟨q3,_,_,_,_,_,_,q1⟩,_,List.mem_singleton.2 rfl,aq⟩⟩
      have S:=qog (nm:=gl) m.D (b:=b) (i:=i) aq;have aD:=qho (H:=H) (l:=[gl]) (dels:=(zj b i done).flatMap Done.names) (List.mem_singleton.2 rfl) Z S;have aA:∀ y ∈ o.op.operands.toList,opd {fr with tmps:=kl fr.tmps (o.looksAt all) .nil} (zw H (.reads [gl]) ((zj b i done).flatMap Done.names)) y=opd fr H y:=by
       intro y hy;have cc:=hy;simp only [I,Op.operands,zD,List.not_mem_nil,or_false] at cc;rcases cc with rfl | rfl
       .have an:(zw H (.reads [gl]) ((zj b i done).flatMap Done.names)).qp=H.qp:=rfl;simp only [opd,an,aD]
       .rw [qmd (st:=st) hy bB ei,ei]
      have ak:∀ id,w.cl id->id<w.n:=λid h=>by rw [R.h.n];exact (R.h.cl id h).1
      obtain ⟨p,L,v,w',k1,k2,k3,k4,k5,k6⟩:=qt1 (fr':={fr with tmps:=kl fr.tmps (o.looksAt all) .nil}) (H':=zw H (.reads [gl]) ((zj b i done).flatMap Done.names)) ok R hp aA
       h
      refine qdd (fp:=.reads [gl]) (K:=zw H (.reads [gl]) ((zj b i done).flatMap Done.names)) hw a9 (by simp) (qex R.h m.D m.wr (λid O=>by cases O) ae ha) k6 (.inl rfl) (zN _) ?_;rw [qju];exact next p L v H w' _ k1 ⟨k2.tmps,k2.n⟩ (more _) (q08 (J:=H) aE (more _) k5 hp (λt hh=>by rw [I] at hh;cases hh) aA k6) k4 (m.go ok k2.tmps k2.n k3 k4 k5 (zN _) ⟨zN _,zN _⟩ (λ_=>rfl) (ae.mono k4 (λ_ h=>h) ak) (U _ _ k1).1 (U _ _ k1).2)
    .cases G
   | _=>simp at G
  | store t a x=>
   rw [I] at G;simp only [qba,I] at h;obtain ⟨ti,az,F⟩:=qf h;obtain ⟨pa,cd,P⟩:=qf F;obtain ⟨px,aC,h3⟩:=qf P;obtain ⟨va,ea,ra⟩:=qo R cd;obtain ⟨vx,ex,rx⟩:=qo R aC;obtain ⟨L,id,off,lim,H',w',Y,hpf,rfl,Z,dz,aY,bO,cf,hs,e1,e2,_,R',a0,dA,cg⟩:=qs9 ok R.h ra rx h3;cases a with
   | tmp d=>
    simp only at G;have aS:st.tmps.get d=some pa:=cd;rw [aS] at G;have G:(if (qh8 x).isEmpty then some (FP3.write id) else none)=some f:=by
     rcases hpf with ⟨_,_,rfl⟩ | ⟨_,_,_,_,rfl⟩
     .exact G
     .exact G
    cases aG:(qh8 x).isEmpty with
    | false=>rw [aG] at G;cases G
    | true=>
     rw [aG] at G;simp only [zO,↓reduceIte,zS] at G;subst G;have cW:∀ aQ,(FP3.write id).vid=some aQ->w.M (w.c aQ):=by
      intro aQ O;cases O;exact R.h.live cg
     have bC:qh8 x=[]:=by simpa using aG
     have hd:d ∈ o.looksAt all:=by simp [Oper.looksAt,I,Op.operands]
     have cX:fr.tmp d=some (.ptr (w.c id) 0 off lim):=ea;have a9:qfe C.E o fr=.writes [w.c id]:=by
      have aB:=ht;rw [I] at aB;simp only [qfe,I,aB,Bool.not_true,zQ,Bool.false_eq_true,↓reduceIte,qpp,cX,V.nm,bC,zJ]
     have ae:fpR B done H.next w (.write id) (.writes [w.c id]):=⟨rfl,aY⟩
     have ak:∀ id,w.cl id->id<w.n:=λid h=>by rw [R.h.n];exact (R.h.cl id h).1
     have S:=qib (nm:=w.c id) m.D ha (.inl ⟨id,.inr rfl,λaL=>m.lt id aL aY⟩);have aD:=qmk (H:=H) (l:=[w.c id]) (dels:=(zj b i done).flatMap Done.names) (List.mem_singleton.2 rfl) Z S;have cY:(zw H (.writes [w.c id]) ((zj b i done).flatMap Done.names)).ro<=w.c id:=by
      show H.ro<=w.c id;rw [R.h.keeps.ro];exact zR R.h.rob.1 bO
     obtain ⟨row,bp,ch⟩:=cf _ aD cY;have ab:makes (.store t (.tmp d) x)=false:=rfl;have cZ:∀ H0,opd {fr with tmps:=kl fr.tmps (o.looksAt all) .nil} H0 x=some vx:=by
      intro H0;have:opd {fr with tmps:=kl fr.tmps (o.looksAt all) .nil} H0 x=opd fr H x:=qfj (by simp [I,Op.operands]) (by intro g hg;subst hg;simp [qh8] at bC);rw [this];exact ex
     refine qdd (fp:=.writes [w.c id]) (out:=.skip) (v:=zs) (K:=(zw H (.writes [w.c id]) ((zj b i done).flatMap Done.names)).put (w.c id) row) hw a9 (by simp) (qex R.h m.D m.wr cW ae ha) ?_ (.inr ⟨rfl,rfl⟩) (zN _) ?_
     .have aA:opd {fr with tmps:=kl fr.tmps (o.looksAt all) .nil} (zw H (.writes [w.c id]) ((zj b i done).flatMap Done.names)) (.tmp d)=some (.ptr (w.c id) 0 off lim):=by
       simp only [opd,qdi hd];exact ea
      simp only [zb,I,az,zB,aA,cZ,ch,zH]
     .have RJ:RelH X sz C base L (qb6 H ((zw H (.writes [w.c id]) ((zj b i done).flatMap Done.names)).put (w.c id) row) (.writes [w.c id]) ((zj b i done).flatMap Done.names)) w':=by
       refine R'.congr (λn=>?_) ?_ ?_ ?_
       .rw [qg1,bp];have aa:((zw H (.writes [w.c id]) ((zj b i done).flatMap Done.names)).put (w.c id) row).next-H.next=0:=Nat.sub_self _
        rw [aa];simp only [List.range'_zero,zJ,List.mem_filter,List.mem_singleton];have d0:(Nat.blt (w.c id) H.next&&!((zj b i done).flatMap Done.names).any λm=>Nat.beq (w.c id) m)=true:=qq8 Z S;by_cases A:n=w.c id
        .subst A;rw [zT ⟨rfl,d0⟩,zo,zo]
        .rw [zF (λhh=>A hh.1),zd A]
       .rw [bp];rfl
       .rw [bp];rfl
       .rw [bp];rfl
      exact next _ _ zs _ w' _ Y ⟨e1,e2⟩ (more _) (qc2 (by rw [I])) a0 (m.go ok e1 e2 RJ a0 .undef (zN _) ⟨zN _,zN _⟩ (λ_=>rfl) (ae.mono a0 (λ_ h=>h) ak) (U _ _ Y).1 (U _ _ Y).2)
   | _=>simp at G
  | lookup t m0 x dB=>
   rw [I] at G;simp only [qba,I] at h;obtain ⟨pm,b8,F⟩:=qf h;obtain ⟨px,aC,P⟩:=qf F;exact ze6 ok m hw ha U I (by
    cases m0 with
    | tmp d=>
     simp only at G;split at G
     .rename_i id aS;exact ⟨d,id,rfl,aS,G⟩
     .cases G
    | _=>simp at G) b8 aC P next
  | mapUpdate t m0 x y=>
   rw [I] at G;simp only [qba,I] at h;obtain ⟨pm,b8,F⟩:=qf h;obtain ⟨px,aC,P⟩:=qf F;obtain ⟨py,bP,h3⟩:=qf P;exact q02 ok m hw ha U (.inl I) (by
    cases m0 with
    | tmp d=>
     simp only at G;split at G
     .rename_i id aS;exact ⟨d,id,rfl,aS,G⟩
     .cases G
    | _=>simp at G) b8 aC bP h3 next
  | insert t m0 x y=>
   rw [I] at G;simp only [qba,I] at h;obtain ⟨pm,b8,F⟩:=qf h;obtain ⟨px,aC,P⟩:=qf F;obtain ⟨py,bP,h3⟩:=qf P;exact q02 ok m hw ha U (.inr I) (by
    cases m0 with
    | tmp d=>
     simp only at G;split at G
     .rename_i id aS;exact ⟨d,id,rfl,aS,G⟩
     .cases G
    | _=>simp at G) b8 aC bP h3 next
  | call c=>
   rw [I] at G;simp only [qba,I] at h;obtain ⟨ps,aZ,F⟩:=qf h;obtain ⟨vs,ev,rv⟩:=qcc R aZ;have aB:=ht;rw [I] at aB;have b9:H.ro=base.ro:=R.h.keeps.ro;split at F
   .rename_i f' hc;obtain ⟨pf,hpf,P⟩:=qf F;obtain ⟨vf,ef,rf⟩:=qo R hpf;simp only [hc] at G;have a9:qfe C.E o fr=.call:=by
     simp only [qfe,I,aB,Bool.not_true,zQ,Bool.false_eq_true,↓reduceIte,hc]
    have bD:∀ (H1:Heap),(∀ n,H1.get n=H.get n)->H1.qp=H.qp->∀ x ∈ o.op.operands.toList,opd {fr with tmps:=kl fr.tmps (o.looksAt all) .nil} H1 x=opd fr H x:=by
     intro H1 an bM x hx;cases x with
     | global g=>simp only [opd,an,bM]
     | tmp t=>exact qfj hx (by simp)
     | const v=>rfl
     | func f=>rfl
    have aM:∀ x ∈ c.args.toList,x ∈ o.op.operands.toList:=by
     intro x hx;simp only [I,Op.operands,Call.operands,Array.toList_append,List.mem_append];exact .inr hx
    have ba:f' ∈ o.op.operands.toList:=by
     simp only [I,Op.operands,Call.operands,Array.toList_append,List.mem_append,hc];exact .inl (by simp)
    cases aH:qjc C.E all b i with
    | true=>
     rw [aH] at G;simp only [zO,↓reduceIte,zS] at G;subst G;obtain ⟨g,us,d2,ar⟩:=qu5 ok ok2 tok c0 R.h rf rv P;have S:=qry m.D ha (.inl rfl);have hH:zw H .lone []=H:=by cases H;rfl
     refine qzh (fp:=.lone) (t:=g) (args:=us) (K0:=H) hw a9 (by rw [aH];rfl) (qex (fp:=.lone) (lo:=H.next) R.h m.D (f:=.lone) m.wr (λ_ O=>by cases O) (.inl rfl) ha) ?_ ?_
     .rw [S,hH];have e1:qay {fr with tmps:=kl fr.tmps (o.looksAt all) .nil} H c.args.toList=some vs:=by
       rw [qfw λx hx=>bD H (λ_=>rfl) rfl x (aM x hx)];exact ev
      have e2:=(bD H (λ_=>rfl) rfl f' ba).trans ef;simp only [zb,I,hc,e1,e2,zB,d2,zH]
     .refine ar.mono λv H1 hA=>?_;obtain ⟨p,L,w',a1,a2,a3,a4,a5,a6⟩:=hA;have aa:H.next<=H1.next:=by have:=a5.nx;rw [R.h.nx,a4.nx] at this;exact this
      rw [S];have hJ:RelH X sz C base L (qb6 H H1 .lone []) w':=by
       refine a4.congr (λn=>?_) rfl ?_ ?_
       .simp only [qb6,Heap.get,kl]
       .rw [a4.keeps.ro];exact b9
       .rw [a4.keeps.qp];exact R.h.keeps.qp
      exact ⟨aa,next p L v _ w' _ a1 ⟨a2,a3⟩ (more _) (qc2 (by rw [I])) a5 (m.go ok a2 a3 hJ a5 a6 aa ⟨aa,zN _⟩ (λab=>by rw [I] at ab;simp [makes,hc] at ab) (.inl rfl) (U _ _ a1).1 (U _ _ a1).2)⟩
    | false=>
     rw [aH] at G;simp only [zQ,Bool.false_eq_true,↓reduceIte,hpf,aZ] at G;split at G
     .rename_i g first cap args cj ck
      cases cj;cases ck;obtain ⟨_,G⟩:=qfc G;cases G;cases rf with
      | @func f2 a c2 va vc cn cp q1 q2=>
      generalize bQ:(first.isEmpty&&cap.isEmpty&&c.args.toList.all (qrp (qu X tbl inv meas) C dt st))=cb at *;let D:=(zj b i done).flatMap Done.names;let H1:Heap:=zw H .call D;have an:∀ n,H1.get n=if n ∈ D then none else H.get n:=λn=>by
       simp only [H1,zw,Heap.get,jz]
       split<;>rfl
      have bq:∀ n ∈ D,B<=n:=by
       intro n A;rcases Nat.lt_or_ge n B with F | F
       .exact absurd A (qog m.D F)
       .exact F
      obtain ⟨st0,H0,R0,e0⟩:=m.z0;have dC:base.next<=B:=by have:=R0.keeps.next;omega
      have bE:∀ nm cs e bb aj bc ex,w0.g nm=some (.row cs e bb aj bc ex)->¬ w0.M nm->¬ ({w with g:=H1.get}:Wd).M nm/\∃ cs2 bd bf ex',({w with g:=H1.get}:Wd).g nm=some (.row (cs++cs2) e bd aj bf ex'):=by
       intro nm cs e bb aj bc ex F P;obtain ⟨h3,cs2,bd,bf,ex',Y⟩:=m.z.mem nm cs e bb aj bc ex F P;refine ⟨h3,cs2,bd,bf,ex',?_⟩;show H1.get nm=_;have Z:=m.lt0 F;rw [an,zF (λhd=>by have:=bq nm hd;omega),<-R.h.g];exact Y
      have bR:Cut X sz C base H H1 w:=by
       refine ⟨λn x hx=>?_,λn A=>?_,rfl,rfl,zN _,λgn cq d3 e' dD dE ex' F P h3=>?_⟩
       .rw [an] at hx;split at hx
        .cases hx
        .exact hx
       .rw [an,zF (λhd=>by have:=bq n hd;omega)]
       .obtain ⟨_,dF,e2,dG,dH,dI,cr,dJ,d4⟩:=R0.globs gn cq F;rw [P] at cr;cases cr;exact d4.qyo ok.len ok2.plain bE (.eptr (ok2.qp gn cq F))
      have bS:cb=false->D=[]:=by
       intro d5;rw [d5] at ha;exact qry m.D ha (.inr (.inl rfl))
      have cu:ql X sz {w with g:=H1.get} (first++ps++cap) (va++vs++vc):=by
       cases bF:cb with
       | false=>
        have d6:({w with g:=H1.get}:Wd)=w:=by
         have:H1.get=w.g:=by
          rw [R.h.g];funext n;rw [an,bS bF,zF (by simp)]
         rw [this]
        rw [d6];exact ql.append (ql.append (ps:=first) ⟨cn,q1⟩ rv) ⟨cp,q2⟩
       | true=>
        rw [bF] at bQ;simp only [zA,List.isEmpty_iff] at bQ;obtain ⟨⟨rfl,rfl⟩,aN⟩:=bQ;have d7:va=[]:=by cases va with | nil=>rfl | cons=>simp at cn
        have d8:vc=[]:=by cases vc with | nil=>rfl | cons=>simp at cp
        subst d7;subst d8;simp only [List.nil_append,zJ];exact qrq ok ok2 aE bE (λnm Z=>by show H1.get nm=w.g nm;rw [an,zF (λhd=>by have:=bq nm hd;omega),R.h.g]) aN aZ ev rv
      have fin:(qaa C.E (.func g) (va++vs++vc) H1 λv H'=>zkd X sz C H1 w.M st k v H')->WpD C.E all b i (o::l) done fr H Q:=by
       intro ar;refine qzh (fp:=.call) (t:=.func g) (args:=va++vs++vc) (K0:=H1) hw a9 (by rw [aH];rfl) (qex (fp:=.call) (lo:=H.next) R.h m.D (f:=.call cb) m.wr (λ_ O=>by cases O) rfl ha) ?_ ?_
       .have bG:∀ x p,x ∈ o.op.operands.toList->jj (qu X tbl inv meas) C st x=some p->opd {fr with tmps:=kl fr.tmps (o.looksAt all) .nil} H1 x=opd fr H x:=by
         intro x p hx aC;cases x with
         | global gl=>
          simp only [jj] at aC;obtain ⟨gs,d9,_⟩:=zM.1 aC;obtain ⟨_,_,_,_,_,_,_,Z,_⟩:=R.h.globs gl gs d9;have:H1.get gl=H.get gl:=by rw [an,zF (λhd=>by have:=bq gl hd;omega)]
          simp only [opd,this];rfl
         | tmp t=>exact qfj hx (by simp)
         | const v=>rfl
         | func f=>rfl
        have e1:qay {fr with tmps:=kl fr.tmps (o.looksAt all) .nil} H1 c.args.toList=some vs:=by
         rw [qfw λx hx=>by obtain ⟨p,hp⟩:=q1f aZ x hx;exact bG x p (aM x hx) hp];exact ev
        have e2:=(bG f' _ ba hpf).trans ef;show zb C.E o _ H1=_;simp only [zb,I,hc,e1,e2,zB,qdr,zH]
       .refine ar.mono λv H2 hA=>?_;obtain ⟨r,u,w',au,a,hk⟩:=hA;have aa:H.next<=H2.next:=a.keeps.next
        have aT:∀ n,(qb6 H H2 .call D).get n=if n ∈ List.range' H.next (H2.next-H.next) then H2.get n else H.get n:=λn=>qx9
        obtain ⟨p,L,da,hk,e1,e2,R',a0,r'⟩:=q4o ok ok2 R.h (H1:=H1) (k:=k) rfl au a hk (J:=qb6 H H2 .call D) (λn A=>by
          rw [aT,zF (λhh=>by have:=(List.mem_range'_1.1 hh).1;omega)]) (λn x hx=>by
          rw [aT];split
          .exact hx
          .rename_i A;by_cases Z:n<H.next
           .rw [a.keeps.old n Z] at hx;exact bR.sub n x hx
           .exfalso;have bT:H2.next<=n:=by
             rcases Nat.lt_or_ge n H2.next with F | F
             .exact absurd (List.mem_range'_1.2 ⟨by omega,by omega⟩) A
             .exact F
            rw [a.wf n bT] at hx;cases hx) (λn A=>by
          rw [aT];split
          .rfl
          .rename_i b0;have bT:H2.next<=n:=by
            rcases Nat.lt_or_ge n H2.next with F | F
            .exact absurd (List.mem_range'_1.2 ⟨by omega,by omega⟩) b0
            .exact F
           rw [R.h.wf n A,a.wf n bT]) rfl rfl rfl
        exact ⟨aa,next _ _ v _ da _ hk ⟨e1,e2⟩ (more _) (qc2 (by rw [I])) a0 (m.go ok e1 e2 R' a0 r' aa ⟨aa,zN _⟩ (λab=>by rw [I] at ab;simp [makes,hc] at ab) rfl (U _ _ hk).1 (U _ _ hk).2)⟩
      cases b3:fnP (qu X tbl inv meas) st g (first++ps++cap) with
      | none=>
       simp only [q4z,b3] at P;exact fin (q8y ok ok2 c0 R.h bR cu P)
      | some x=>
       obtain ⟨dK,r⟩:=x;simp only [q4z,b3] at P;cases hd:distinct (qbs r.flat) with
       | false=>rw [hd] at P;exact absurd P id
       | true=>
        rw [hd] at P;simp only [zO,↓reduceIte] at P;obtain ⟨cw,hk⟩:=P;obtain ⟨au,ar⟩:=qt5 ok2 tok R.h bR cu b3 cw;exact fin (ar.mono λv H' ⟨w',a⟩=>⟨r,v,w',au,a,.inl ⟨rfl,hk⟩⟩)
     .cases G
   .rename_i bi hc;have db:bi=.append:=by
     cases bi<;>first | rfl | (simp [hc] at G;done)
    subst db;simp only [hc] at G;have cx:∃ x y,c.args.toList=[x,y]/\qqs (qu X tbl inv meas) C st x y=false:=by
     split at G
     .rename_i x y b1;cases ag:qqs (qu X tbl inv meas) C st x y with
      | true=>rw [ag] at G;cases G
      | false=>exact ⟨x,y,b1,ag⟩
     .cases G
    have bs:((f=.lone∨f=.grow)/\(∃ x y,c.args.toList=[x,y]/\qx5 (qu X tbl inv meas) C dt st x=false))∨∃ x y,c.args.toList=[x,y]/\qx5 (qu X tbl inv meas) C dt st x=true/\f=.stable (qy5 dt x++qy5 dt y):=by
     split at G
     .rename_i x y b1;obtain ⟨x',y',aO,ag⟩:=cx;rw [b1] at aO;cases aO;rw [ag] at G;simp only [zQ,Bool.false_eq_true,↓reduceIte] at G;cases ad:qx5 (qu X tbl inv meas) C dt st x with
      | true=>rw [ad] at G;cases G;exact .inr ⟨x,y,b1,ad,rfl⟩
      | false=>
       rw [ad] at G;simp only [zQ,Bool.false_eq_true,↓reduceIte] at G;cases cy:qjc C.E all b i with
       | true=>rw [cy] at G;cases G;exact .inl ⟨.inl rfl,x,y,b1,ad⟩
       | false=>rw [cy] at G;cases G;exact .inl ⟨.inr rfl,x,y,b1,ad⟩
     .cases G
    have aM:∀ x ∈ c.args.toList,x ∈ o.op.operands.toList:=by
     intro x hx;simp only [I,Op.operands,Call.operands,Array.toList_append,List.mem_append];exact .inr hx
    have ao:∀ x (p:PV K) v,jj (qu X tbl inv meas) C st x=some p->opd fr H x=some v->Rep X sz w p v->Frm p->qpp fr x=v.nm/\q3r fr x=some v:=by
     intro x p v F P h3 Y;cases x with
     | tmp t=>
      have ai:fr.tmp t=some v:=P;simp only [qpp,ai,q3r];exact ⟨trivial,trivial⟩
     | const cv=>
      have ah:(qrk 1000 cv).bind (qlo (qu X tbl inv meas))=some p:=F;obtain ⟨u,av,W⟩:=zI.1 ah;have ai:qrk 1000 cv=some v:=P;rw [av] at ai;cases ai;refine ⟨?_,av⟩;unfold qlo at W;split at W
      .rfl
      .rfl
      .cases bg:qg3 v with
       | false=>rw [bg] at W;cases W
       | true=>cases v<;>simp [qg3] at bg<;>rfl
     | global g=>
      simp only [jj] at F;obtain ⟨q,_,rfl⟩:=zM.1 F;rcases Y with ⟨_,Y⟩ | Y | ⟨_,_,Y⟩ | ⟨_,_,_,Y⟩<;>cases Y
     | func f=>
      simp only [jj,zS] at F;subst F;rcases Y with ⟨_,Y⟩ | Y | ⟨_,_,Y⟩ | ⟨_,_,_,Y⟩<;>cases Y
    have af:∀ x (p:PV K) v,jj (qu X tbl inv meas) C st x=some p->opd fr H x=some v->Rep X sz w p v->Frm p->∀ n ∈ v.nm,Still w n/\∃ s ∈ qy5 dt x,qpu B done n s:=by
     intro x p v F P h3 Y n A;have bt:Still w n/\qxi p=true/\(∀ g,jj (qu X tbl inv meas) C st (.global g)≠some p):=by
      rcases Y with ⟨s',rfl⟩ | rfl | ⟨es,cs,rfl⟩ | ⟨c',l',own,rfl⟩
      .cases h3;simp [V.nm] at A
      .cases h3;simp [V.nm] at A
      .refine ⟨?_,rfl,λg hg=>by obtain ⟨q,_,F⟩:=zM.1 hg;cases F⟩;cases h3 with
       | plist hg G hM=>
        simp only [V.nm,List.mem_singleton] at A;subst A;exact ⟨hM,_,_,_,_,_,_,hg⟩
      .refine ⟨?_,rfl,λg hg=>by obtain ⟨q,_,F⟩:=zM.1 hg;cases F⟩;cases h3 with
       | nlist=>simp [V.nm] at A
       | list hg G hM=>
        simp only [V.nm,List.mem_singleton] at A;subst A;exact ⟨hM,_,_,_,_,_,_,hg⟩
     obtain ⟨dc,bt,aG⟩:=bt;have dL:v.nm≠[]:=λh=>by rw [h] at A;cases A
     .refine ⟨dc,?_⟩;cases x with
      | tmp t=>
       exact ⟨_,List.mem_singleton.2 rfl,zba aE F bt P n A⟩
      | const cv=>
       exfalso;have ah:(qrk 1000 cv).bind (qlo (qu X tbl inv meas))=some p:=F;obtain ⟨u,av,W⟩:=zI.1 ah;have ai:qrk 1000 cv=some v:=P;rw [av] at ai;cases ai;unfold qlo at W;split at W
       .simp [V.nm] at A
       .simp [V.nm] at A
       .cases bg:qg3 v with
        | false=>rw [bg] at W;cases W
        | true=>cases v<;>simp [qg3] at bg<;>simp [V.nm] at A
      | global g=>exact absurd F (aG g)
      | func f=>
       simp only [jj,zS] at F;subst F;simp [qxi] at bt
    have fin:∀ (a1 a2:Operand) (s x:PV K) (v1 v2:V) (t u:TypeId) (ti ui:TI) (e:TypeId) (ei:TI) (p:PV K) (L:StV K) (v:V) (H':Heap) (w':Wd),c.args.toList=[a1,a2]->jj (qu X tbl inv meas) C st a1=some s->jj (qu X tbl inv meas) C st a2=some x->
      opd fr H a1=some v1->opd fr H a2=some v2->Rep X sz w s v1->Rep X sz w x v2->Frm s->Frm x->
      c.argTypes.toList=[t,u]->C.E.types t=some ti->C.E.types u=some ui->ti.under=.slice e->((∃ e',ui.under=.slice e')∨ui.under=.string)->C.E.types e=some ei->
      kv H e ei.size ei.bytes v1 v2=some (v,H')->k p L->L.tmps=st.tmps->L.n=st.n->RelH X sz C base L H' w'->Le w w'->Rep X sz w' p v->WpD C.E all b i (o::l) done fr H Q:=by
     intro a1 a2 s x v1 v2 t u ti ui e ei p L v H' w' N o1 o2 e1 e2 r1 r2 k1 k2 aP az bh av W aI bH hk g1 g2 R' a0 hr;obtain ⟨n1,y1⟩:=ao a1 s v1 o1 e1 r1 k1;obtain ⟨n2,y2⟩:=ao a2 x v2 o2 e2 r2 k2;have a8:qar fr c.args.toList=v1.nm++v2.nm:=by
      rw [N];simp only [qar,List.flatMap_cons,List.flatMap_nil,zJ,n1,n2]
     have bj:∀ n ∈ v1.nm,n ∈ qar fr c.args.toList:=λn A=>by rw [a8];exact List.mem_append.2 (.inl A)
     have bI:∀ n ∈ v2.nm,n ∈ qar fr c.args.toList:=λn A=>by rw [a8];exact List.mem_append.2 (.inr A)
     have Z:∀ (q:PV K) v0,Rep X sz w q v0->Frm q->∀ n ∈ v0.nm,n<H.next:=by
      intro q v0 hq hk n A;rcases hk with ⟨s',rfl⟩ | rfl | ⟨es,cs,rfl⟩ | ⟨c',l',own,rfl⟩
      .cases hq;simp [V.nm] at A
      .cases hq;simp [V.nm] at A
      .cases hq with
       | plist hg=>
        simp only [V.nm,List.mem_singleton] at A;subst A;exact R.h.lts hg
      .rcases jv hq with ⟨_,rfl⟩ | ⟨nm,gn,off,z,cap,cs,e',bb,aj,bc,ex,rfl,hg,_⟩
       .simp [V.nm] at A
       .simp only [V.nm,List.mem_singleton] at A;subst A;exact R.h.lts hg
     have aN:∀ n ∈ qar fr c.args.toList,n<H.next:=by
      intro n A;rw [a8] at A;rcases List.mem_append.1 A with A | A
      .exact Z s v1 r1 k1 n A
      .exact Z x v2 r2 k2 n A
     have aW:∀ n ∈ qar fr c.args.toList,Still w n:=by
      intro n A;rw [a8] at A;rcases List.mem_append.1 A with A | A
      .exact (af a1 s v1 o1 e1 r1 k1 n A).1
      .exact (af a2 x v2 o2 e2 r2 k2 n A).1
     have cz:∀ g,a1≠.global g:=by
      intro g hg;subst hg;simp only [jj] at o1;obtain ⟨q,_,rfl⟩:=zM.1 o1;rcases k1 with ⟨_,Y⟩ | Y | ⟨_,_,Y⟩ | ⟨_,_,_,Y⟩<;>cases Y
     have cA:∀ g,a2≠.global g:=by
      intro g hg;subst hg;simp only [jj] at o2;obtain ⟨q,_,rfl⟩:=zM.1 o2;rcases k2 with ⟨_,Y⟩ | Y | ⟨_,_,Y⟩ | ⟨_,_,_,Y⟩<;>cases Y
     have dd:∀ T,opd {fr with tmps:=kl fr.tmps (o.looksAt all) .nil} T a1=some v1:=λT=>(qfj (aM a1 (by rw [N];simp)) cz).trans e1;have de:∀ T,opd {fr with tmps:=kl fr.tmps (o.looksAt all) .nil} T a2=some v2:=λT=>(qfj (aM a2 (by rw [N];simp)) cA).trans e2;have cB:∀ (T K1:Heap),kv T e ei.size ei.bytes v1 v2=some (v,K1)->zb C.E o {fr with tmps:=kl fr.tmps (o.looksAt all) .nil} T=some (.val v,K1):=by
      intro T K1 b2;have ea:qay {fr with tmps:=kl fr.tmps (o.looksAt all) .nil} T c.args.toList=some [v1,v2]:=by
       rw [N];exact zg (dd T) (zg (de T) jn)
      rcases W with ⟨e',W⟩ | W
      .simp only [zb,I,hc,ea,zB,qam,aP,az,bh,av,W,aI,b2,zH]
      .simp only [zb,I,hc,ea,zB,qam,aP,az,bh,av,W,aI,b2,zH]
     have aa:H.next<=H'.next:=by have:=a0.nx;rw [R.h.nx,R'.nx] at this;exact this
     have ak:∀ id,w.cl id->id<w.n:=λid h=>by rw [R.h.n];exact (R.h.cl id h).1
     have bU:∃ m,v2.many=some m:=by
      rcases k2 with ⟨s',rfl⟩ | rfl | ⟨es,cs,rfl⟩ | ⟨c',l',own,rfl⟩
      .cases r2;exact ⟨_,rfl⟩
      .cases r2;exact ⟨_,rfl⟩
      .cases r2;exact ⟨_,rfl⟩
      .rcases jv r2 with ⟨_,rfl⟩ | ⟨nm,gn,off,z,cap,cs,e',bb,aj,bc,ex,rfl,_⟩
       .exact ⟨_,rfl⟩
       .exact ⟨_,rfl⟩
     obtain ⟨m2,cC⟩:=bU;have al:qsa fr c.args.toList=q0u m2 v1:=by
      rw [N];simp only [qsa,y1,y2,zB,cC];cases v1 with
      | slice nm g off len z cap=>cases cap<;>rfl
      | _=>rfl
     cases bu:qsa fr c.args.toList with
     | true=>
      have a9:qfe C.E o fr=.reads (qar fr c.args.toList):=by
       simp only [qfe,I,aB,Bool.not_true,zQ,Bool.false_eq_true,↓reduceIte,hc,bu,zO,↓reduceIte]
      have df:∀ n ∈ qar fr c.args.toList,n ∉ (zj b i done).flatMap Done.names:=by
       intro n A;rcases bs with ⟨hl,_⟩ | ⟨x1,x2,aw,_,rfl⟩
       .rw [qry m.D ha (by rcases hl with rfl | rfl<;>simp)];simp
       .rw [N] at aw;simp only [List.cons.injEq,and_true] at aw;obtain ⟨rfl,rfl⟩:=aw;rw [a8] at A;rcases List.mem_append.1 A with A | A
        .obtain ⟨_,s',aU,ax⟩:=af a1 s v1 o1 e1 r1 k1 n A;exact qib m.D ha (.inr (.inl ⟨_,rfl,s',List.mem_append.2 (.inl aU),ax⟩))
        .obtain ⟨_,s',aU,ax⟩:=af a2 x v2 o2 e2 r2 k2 n A;exact qib m.D ha (.inr (.inl ⟨_,rfl,s',List.mem_append.2 (.inr aU),ax⟩))
      have ae:fpR B done H.next w f (.reads (qar fr c.args.toList)):=by
       rcases bs with ⟨rfl | rfl,_⟩ | ⟨x1,x2,aw,_,rfl⟩
       .exact .inr ⟨_,.inr rfl,aN⟩
       .exact ⟨_,.inr rfl,aW⟩
       .rw [N] at aw;simp only [List.cons.injEq,and_true] at aw;obtain ⟨rfl,rfl⟩:=aw;refine ⟨_,rfl,λn A=>?_⟩;rw [a8] at A;rcases List.mem_append.1 A with A | A
        .obtain ⟨F,s',aU,ax⟩:=af a1 s v1 o1 e1 r1 k1 n A;exact ⟨F,s',List.mem_append.2 (.inl aU),ax⟩
        .obtain ⟨F,s',aU,ax⟩:=af a2 x v2 o2 e2 r2 k2 n A;exact ⟨F,s',List.mem_append.2 (.inr aU),ax⟩
      have bV:∀ id,f.vid≠some id:=by
       intro id;rcases bs with ⟨rfl | rfl,_⟩ | ⟨_,_,_,_,rfl⟩<;>simp [FP3.vid]
      generalize hD:(zj b i done).flatMap Done.names=D at *;let T:=zw H (.reads (qar fr c.args.toList)) D;have hT:∀ n,n ∈ qar fr c.args.toList->T.get n=H.get n:=λn A=>qho A (aN n A) (df n A);obtain ⟨K1,b2,ay⟩:=q2c (H:=H) (H1:=T) rfl (λn A=>by
       rcases A with A | A
       .exact hT n (bj n A)
       .exact hT n (bI n A)) (by
       rw [bu] at al;cases v1 with
       | nils=>exact .inl rfl
       | slice nm g off len z cap=>
        cases cap with
        | none=>simp [q0u] at al
        | some c'=>exact .inr ⟨_,_,_,_,_,_,_,rfl,cC,al.symm⟩
       | _=>simp [q0u] at al) bH
      have aJ:K1.next=H'.next:=by
       rcases ay with ⟨rfl,rfl⟩ | ⟨row,rfl,rfl⟩
       .rfl
       .rw [qi,qi];rfl
      refine qdd (fp:=.reads (qar fr c.args.toList)) (out:=.val v) (v:=v) (K:=K1) hw a9 (by simp) (by rw [hD];exact qex (fp:=.reads (qar fr c.args.toList)) (lo:=H.next) R.h m.D m.wr (λid O=>absurd O (bV id)) ae ha) ?_ (.inl rfl) (by rw [aJ];exact aa) ?_
      .rw [hD];exact cB _ _ b2
      .rw [hD];have RJ:RelH X sz C base L (qb6 H K1 (.reads (qar fr c.args.toList)) D) w':=by
        refine R'.congr (λn=>?_) aJ ?_ ?_
        .rw [qv7];rcases ay with ⟨rfl,rfl⟩ | ⟨row,rfl,rfl⟩
         .rw [zF];intro A;have:=List.mem_range'_1.1 A;have bk:T.next=H'.next:=rfl
          omega
         .have bk:(T.new row).next=H.next+1:=qi
          split
          .rename_i A;have:=List.mem_range'_1.1 A;have:n=H.next:=by omega
           subst this;rw [zl];exact zl (H:=T)
          .rename_i A;by_cases P:n=H.next
           .exfalso;apply A;exact List.mem_range'_1.2 ⟨by omega,by omega⟩
           .obtain ⟨t0,dg,dh,di⟩:=H;simp only [Heap.new,Heap.get,Tree.zn];rw [zF P]
        .rw [R'.keeps.ro];exact b9
        .rw [R'.keeps.qp];exact R.h.keeps.qp
       exact next p L v _ w' _ hk ⟨g1,g2⟩ (more _) (qc2 (by rw [I])) a0 (m.go ok g1 g2 RJ a0 hr (by show H.next<=K1.next;rw [aJ];exact aa) ⟨by rw [aJ];exact aa,zN _⟩ (λab=>by rw [I] at ab;simp [makes,hc] at ab) (ae.mono a0 (λ_ h=>h) ak) (U _ _ hk).1 (U _ _ hk).2)
     | false=>
      have a9:qfe C.E o fr=.writes (qar fr c.args.toList):=by
       simp only [qfe,I,aB,Bool.not_true,zQ,Bool.false_eq_true,↓reduceIte,hc,bu,zQ,Bool.false_eq_true,↓reduceIte]
      have bW:f=.lone∨f=.grow:=by
       rcases bs with ⟨hl,_⟩ | ⟨x1,x2,aw,ad,rfl⟩
       .exact hl
       .exfalso;rw [N] at aw;simp only [List.cons.injEq,and_true] at aw;obtain ⟨rfl,rfl⟩:=aw;unfold qx5 at ad;rw [o1] at ad;rw [bu] at al;rcases k1 with ⟨s',rfl⟩ | rfl | ⟨es,cs,rfl⟩ | ⟨c',l',own,rfl⟩
        .simp at ad
        .cases r1;simp [q0u] at al
        .cases r1;have h0:=al.symm;simp only [q0u,zO,↓reduceIte,Bool.or_eq_false_iff,Bool.not_eq_false',Nat.ble_eq] at h0;have F:=h0.1;rw [<-Bool.not_eq_true,Nat.beq_eq] at F;omega
        .simp only at ad;split at ad
         .rename_i t';split at ad
          .rename_i j wh hl;subst ad;obtain ⟨nm',len,z,dj⟩:=(aE.fresh t' j true v1 hl e1).2 rfl;subst dj;have h0:=al.symm;simp only [q0u,Bool.or_eq_false_iff,Bool.not_eq_false',Nat.ble_eq] at h0;have F:=h0.1;rw [<-Bool.not_eq_true,Nat.beq_eq] at F;omega
          .cases ad
         .cases ad
      have S:=qry m.D ha (by rcases bW with rfl | rfl<;>simp);have ae:fpR B done H.next w f (.writes (qar fr c.args.toList)):=by
       rcases bW with rfl | rfl
       .exact .inr ⟨_,.inl rfl,aN⟩
       .exact ⟨_,.inl rfl,aW⟩
      have bV:∀ id,f.vid≠some id:=by rcases bW with rfl | rfl<;>simp [FP3.vid]
      have aV:∀ n,n ∈ qar fr c.args.toList->n<H.next->(zw H (.writes (qar fr c.args.toList)) []).get n=H.get n:=λn F P=>qmk F P (by simp)
      let T:=zw H (.writes (qar fr c.args.toList)) [];obtain ⟨K1,b2,ay⟩:=qzm (H:=H) (H1:=T) rfl rfl (λn A=>by
       rcases A with A | A
       .exact aV n (bj n A) (Z s v1 r1 k1 n A)
       .exact aV n (bI n A) (Z x v2 r2 k2 n A)) bH
      have aJ:K1.next=H'.next:=by
       rcases ay with ⟨rfl,rfl⟩ | ⟨row,rfl,rfl⟩ | ⟨nm,row,_,_,rfl,rfl⟩
       .rfl
       .rw [qi,qi];rfl
       .rfl
      refine qdd (fp:=.writes (qar fr c.args.toList)) (out:=.val v) (v:=v) (K:=K1) hw a9 (by simp) (qex (fp:=.writes (qar fr c.args.toList)) (lo:=H.next) R.h m.D m.wr (λid O=>absurd O (bV id)) ae ha) ?_ (.inl rfl) (by rw [aJ];exact aa) ?_
      .rw [S];exact cB _ _ b2
      .rw [S];have RJ:RelH X sz C base L (qb6 H K1 (.writes (qar fr c.args.toList)) []) w':=by
        refine R'.congr (λn=>?_) aJ ?_ ?_
        .rw [qg1];have hT:∀ m,m ∈ (qar fr c.args.toList).filter (λn=>Nat.blt n H.next&&!([]:List Nat).any λm=>Nat.beq n m)->T.get m=H.get m:=by
          intro m hm;simp only [List.mem_filter,zA,Nat.blt_eq] at hm;exact aV m hm.1 hm.2.1
         rcases ay with ⟨rfl,rfl⟩ | ⟨row,rfl,rfl⟩ | ⟨nm,row,bJ,dM,rfl,rfl⟩
         .split
          .rename_i A;rcases List.mem_append.1 A with A | A
           .exact hT n A
           .have:=List.mem_range'_1.1 A;have bk:T.next=H'.next:=rfl
            omega
          .rfl
         .have bk:(T.new row).next=H.next+1:=qi
          split
          .rename_i A;rcases List.mem_append.1 A with A | A
           .have P:n<H.next:=by
             simp only [List.mem_filter,zA,Nat.blt_eq] at A;exact A.2.1
            rw [ke (H:=T) P,ke P];exact hT n A
           .have:=List.mem_range'_1.1 A;have:n=H.next:=by omega
            subst this;rw [zl];exact zl (H:=T)
          .rename_i A;by_cases P:n=H.next
           .exfalso;apply A;refine List.mem_append.2 (.inr (List.mem_range'_1.2 ⟨by omega,by omega⟩))
           .have:(H.new row).get n=H.get n:=by
             obtain ⟨t0,dg,dh,di⟩:=H;simp only [Heap.new,Heap.get,Tree.zn];rw [zF P]
            rw [this]
         .have cD:nm<H.next:=Z s v1 r1 k1 nm bJ
          have bk:(T.put nm row).next-H.next=0:=Nat.sub_self _
          rw [bk];simp only [List.range'_zero,zJ];by_cases P:n=nm
          .subst P;rw [zT,zo,zo];simp only [List.mem_filter,zA,Nat.blt_eq];exact ⟨bj n bJ,cD,by simp⟩
          .rw [zd P,zd P];split
           .rename_i A;exact hT n A
           .rfl
        .rw [R'.keeps.ro];exact b9
        .rw [R'.keeps.qp];exact R.h.keeps.qp
       exact next p L v _ w' _ hk ⟨g1,g2⟩ (more _) (qc2 (by rw [I])) a0 (m.go ok g1 g2 RJ a0 hr (by show H.next<=K1.next;rw [aJ];exact aa) ⟨by rw [aJ];exact aa,zN _⟩ (λab=>by rw [I] at ab;simp [makes,hc] at ab) (ae.mono a0 (λ_ h=>h) ak) (U _ _ hk).1 (U _ _ hk).2)
    have dk:∀ (l:List Operand) s x,qey (qu X tbl inv meas) C st l=some [s,x]->∃ a1 a2,l=[a1,a2]/\jj (qu X tbl inv meas) C st a1=some s/\jj (qu X tbl inv meas) C st a2=some x:=by
     intro l s x hl
     match l,hl with
     | [],hl=>simp [qey] at hl
     | [a1],hl=>
      simp only [qey,zH,zI] at hl;obtain ⟨q,_,hq⟩:=hl;simp at hq
     | a1::a2::a3::l,hl=>
      simp only [qey] at hl;obtain ⟨q1,_,hq⟩:=zI.1 hl;obtain ⟨q2,bX,bw⟩:=zM.1 hq;obtain ⟨q4,_,bz⟩:=zI.1 bX;obtain ⟨q6,dm,dn⟩:=zM.1 bz;obtain ⟨q8,_,dp⟩:=zI.1 dm;obtain ⟨dN,_,cG⟩:=zM.1 dp;subst cG;subst dn;simp at bw
     | [a1,a2],hl=>
      simp only [qey] at hl;obtain ⟨q1,F,hq⟩:=zI.1 hl;obtain ⟨q2,bX,bw⟩:=zM.1 hq;obtain ⟨q4,Y,bz⟩:=zI.1 bX;simp only [zH,zS] at bz;subst bz;simp only [List.cons.injEq,and_true] at bw;obtain ⟨rfl,rfl⟩:=bw;exact ⟨a1,a2,rfl,F,Y⟩
    unfold qiu at F;split at F
    .contradiction
    .rename_i s x t u _ aP;obtain ⟨a1,a2,N,o1,o2⟩:=dk _ _ _ aZ;have ag:qqs (qu X tbl inv meas) C st a1 a2=false:=by
      obtain ⟨x',y',aO,ag⟩:=cx;rw [N] at aO;cases aO;exact ag
     obtain ⟨v1,d3,rfl,r1,rr⟩:=rv.zk;obtain ⟨v2,dw,rfl,r2,r4⟩:=rr.zk;have:=r4.z6;subst this;have aX:opd fr H a1=some v1/\opd fr H a2=some v2:=by
      rw [N] at ev;simp only [qay] at ev;obtain ⟨u1,b7,ai⟩:=zI.1 ev;obtain ⟨u2,dq,cH⟩:=zM.1 ai;obtain ⟨u3,dr,cI⟩:=zI.1 dq;simp only [zH,zS] at cI;subst cI;simp only [List.cons.injEq,and_true] at cH;obtain ⟨rfl,rfl⟩:=cH;exact ⟨b7,dr⟩
     have au:∀ (c':Nat) (q:PV K) l',asL (qu X tbl inv meas) c' q=some l'->Frm q:=by
      intro c' q l' hq;unfold asL at hq;split at hq
      .exact .inr (.inl rfl)
      .exact .inr (.inr (.inr ⟨_,_,_,rfl⟩))
      .cases hq
     split at F
     .rename_i ti ui az bh;split at F
      .rename_i e e' av W;split at F
       .rename_i c' ei bl aI;cases hb:(Nat.ble ei.bytes 1024&&!Nat.beq ei.size 0) with
        | false=>rw [hb] at F;exact absurd F id
        | true=>
         rw [hb] at F;simp only [zO,↓reduceIte] at F;simp only [zA,Nat.ble_eq] at hb;split at F
         .rename_i l' hl;have rl:=qfp r2 hl;have ds:=ok.size e c' ei bl aI;obtain ⟨du,bA,bY⟩:=qhg ok.len R.h.g rl (ok.pos e c' bl);rw [<-ds] at bA;have k1:Frm s:=by
           rcases qu3 (c:=c') (x:=l') (k:=k) (st:=st) ag o1 with A | ⟨es,cs,rfl⟩
           .obtain ⟨l0,_,_,_,bZ,_⟩:=qmz R.h A F;exact au _ _ _ bZ
           .exact .inr (.inr (.inl ⟨_,_,rfl⟩))
          obtain ⟨p,L,v,H',w',q1,q2,q3,q4,q5,q6,q7⟩:=qd8 ok R.h bl aI hb.1 r1 bA bY F;exact fin a1 a2 s x v1 v2 t u ti ui e ei p L v H' w' N o1 o2 aX.1 aX.2 r1 r2 k1 (au _ _ _ hl) aP az bh av (.inl ⟨_,W⟩) aI q4 q1 q2 q3 q5 q6 q7
         .exact absurd F id
       .split at F
        .exfalso;unfold qqs at ag;rw [o1,o2] at ag;dsimp only at ag;split at ag<;>first | (cases ag;done) | (rename_i O;cases O;done) | (rename_i O _;exact O _ _ _ _ rfl) | skip
        .exact F.elim
       .exact absurd F id
      .rename_i e av W;split at F
       .rename_i ei y bl aI;cases hb:(Nat.ble ei.bytes 1024&&Nat.beq ei.size 1) with
        | false=>rw [hb] at F;exact absurd F id
        | true=>
         rw [hb] at F;simp only [zO,↓reduceIte] at F;simp only [zA,Nat.ble_eq] at hb;cases r2;have dv:=zE hb.2;obtain ⟨cJ,bY⟩:=q1t (w:=w) ok y;have bA:km H ei.size (.str y)=some ((X.u8 ▸ y:List (K 0)).length,y.map λb=>V.int .u8 b.toNat):=by rw [dv,qxj,cJ]
         have k1:Frm s:=by
          rcases qu3 (c:=0) (x:=(X.u8 ▸ y:List (K 0))) (k:=k) (st:=st) ag o1 with A | ⟨es,cs,rfl⟩
          .obtain ⟨l0,_,_,_,bZ,_⟩:=qmz R.h A F;exact au _ _ _ bZ
          .exact .inr (.inr (.inl ⟨_,_,rfl⟩))
         obtain ⟨p,L,v,H',w',q1,q2,q3,q4,q5,q6,q7⟩:=qd8 ok R.h bl aI hb.1 r1 bA bY F;exact fin a1 a2 s (.str y) v1 (.str y) t u ti ui e ei p L v H' w' N o1 o2 aX.1 aX.2 r1 .str k1 (.inl ⟨_,rfl⟩) aP az bh av (.inr W) aI q4 q1 q2 q3 q5 q6 q7
       .exact absurd F id
      .exact absurd F id
     .exact absurd F id
    .contradiction
    .contradiction
    .exact absurd F id
   .exact absurd F id
  | _=>rw [I] at G;simp at G
end
end Go.E3
