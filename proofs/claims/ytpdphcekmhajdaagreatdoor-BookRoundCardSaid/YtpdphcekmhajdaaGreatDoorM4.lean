/- A VERIFIED EVALUATOR, texts E3k, E3l, E3m, E3n, E3o, E3p, E3q, E3r, E3s in one. -/
import Derived.Test.YtpdphcekmhajdaaGreatDoorM3
/- E3: APPEND, LISTS WRITTEN OUT against E2's. -/
namespace Go.E3
open Go Go.E2
variable {K:Nat->Type}
section
variable {X:Codecs K} {sz:Nat->Nat} {C:ZC K} {base H:Heap} {st:StV K} {fr:Fr} {w:Wd}
variable {tbl:Tbl K} {inv:Nat->List (NV K)->Prop} {meas:Nat->List (NV K)->Nat}
theorem qj0 (o:∀ c x,(X.cells c x).length=sz c) {c:Nat} {l:List (K c)} {own:Option (Nat×Nat)} {nm gn off:Nat} {cap:Option Nat} {cs fl:List V} {e:TypeId} {gen floor d:Nat} {ex:Bool}
  (r:w.g nm=some (.row cs e gen floor d ex)) (s:floor<=gn) (t:¬ w.M nm) (u:0<sz c) (b:∀ k,cap=some k->l.length<=k) (f:qj X sz w (l.flatMap (X.cells c)) fl)
  (A:off+fl.length<=cs.length) (h:∀ m,m<fl.length->cs.getD (off+m) je=fl.getD m je) (v:qoi w sz c own (.slice nm gn off l.length (sz c) cap)) :
  Rep X sz w (.list c l own) (.slice nm gn off l.length (sz c) cap):=by
 have q:fl.length=l.length * sz c:=by rw [<-f.1];exact qd3 o
 refine .list r s t rfl (by omega) ⟨u,.inl rfl⟩ b (λi hi j p y=>?_) v;have a:=q8r o hi y;have z:=f.2 _ p a;have n:i * sz c+j<fl.length:=by rw [<-f.1];exact (List.getElem?_eq_some_iff.1 a).1
 rw [Nat.add_assoc,h _ n];exact z
theorem qey {α:Type}:∀ {l:List (Nat×α)} {n j:Nat},look (qb2 l n) j=if j=n then none else look l j
 | [],n,j=>by simp [qb2,look]
 | (i,b)::l,n,j=>by
  simp only [qb2,cond_eq_ite,Nat.beq_eq];by_cases hi:i=n
  .subst hi;rw [zT rfl,qey];by_cases a:j=i
   .rw [zT a,zT a]
   .rw [zF a,zF a,qa7,zF a]
  .rw [zF hi,qa7,qa7];by_cases a:j=i
   .subst a;rw [zT rfl,zF hi,zT rfl]
   .rw [zF a,zF a,qey]
theorem q9h (ok:CfgOk X sz C) {c:Nat} {l:List (K c)} {p:PV K} {pre:Prop} {x:K c} {b:List V} (d:qj X sz w (l.flatMap (X.cells c)++[p]) b) (g:X.pack c [p]=some (pre,x)) (a:pre):qj X sz w ((l++[x]).flatMap (X.cells c)) b:=by
 have e:=d.take (l.flatMap (X.cells c)).length;have f:=d.drop (l.flatMap (X.cells c)).length;rw [List.take_left] at e;rw [List.drop_left] at f;have:=e.append (ok.pack c _ pre x g a w _ f);rw [List.take_append_drop] at this;rw [List.flatMap_append,List.flatMap_cons,List.flatMap_nil,zJ];exact this
theorem q73 (ok:CfgOk X sz C) (R:RelH X sz C base st H w) {id c:Nat} {l:List (K c)} {p:PV K} {pre:Prop} {x:K c} (U:look st.cells id=some (.ml c l p)) (W:X.pack c [p]=some (pre,x)) (y:pre) :
  ∃ w',RelH X sz C base {st with cells:=qb2 st.cells id} H w'/\Le w w'/\w'.n=w.n/\w'.c=w.c/\w'.g=w.g/\w'.M=(λn=>w.M n/\n≠w.c id)/\∀ (fx:Bool) (n:Int) (v:V),n=(l.length:Int)->Rep X sz w (.mlist id c fx n) v->Rep X sz w' (.list c (l++[x]) none) v:=by
 obtain ⟨z,hM,E,e,gen,fl,ex,Y,G,Z,q,r⟩:=R.cells id _ U;obtain ⟨a1,I,J⟩:=R.cl id z;have r:qj X sz w (l.flatMap (X.cells c)++[p]) E:=r;have r:=q9h ok r W y;let w':Wd:={w with M:=λn=>w.M n/\n≠w.c id};have j:Le w w':=
  ⟨⟨zN _,λnm cs e gen L N ex h O=>⟨λA=>O A.1,[],gen,N,ex,by rw [zJ];exact h⟩,λ_ _=>rfl,λ_ _=>rfl,λ_ _ h=>h,
   λ_ _ _ _ h a=>(by have a:w.owns _=_:=a;rw [h] at a;cases a;exact zN _),λ_ _ _ _ _=>⟨rfl,λ_ _ _=>rfl⟩,rfl,λ_ _=>.rfl,zN _,rfl,λn t hm=>⟨hm,λP=>by subst P;rw [R.b] at t;omega⟩,λ_ _=>rfl,qni λ_ _ _=>rfl⟩,λ_ h=>h,rfl⟩
 refine ⟨w',⟨R.wf,R.rob,R.g,R.nx,R.b,λn t=>R.Mlt n t.1,R.n,R.one,R.keeps,R.cl,R.cinj,λo ct' a=>?_,R.owns,R.ownn,λi s nm h t=>?_,R.einj,R.ce,R.known,λgn Q a=>?_⟩,j,rfl,rfl,rfl,rfl,λfx n v t rv=>?_⟩
 .simp only [qey] at a;by_cases hi:o=id
  .rw [zT hi] at a;cases a
  .rw [zF hi] at a;obtain ⟨f,u,q5⟩:=R.cells o ct' a;exact ⟨f,⟨u,λP=>hi (R.cinj o id f z P)⟩,q5.mono ok.len j (by rw [R.n];exact (R.cl o f).1)⟩
 .obtain ⟨f,u,B⟩:=R.eta i s nm h t;exact ⟨f,u,λA=>B A.1⟩
 .obtain ⟨F,S,e',fl,fz,ex',f,u,B⟩:=R.globs gn Q a;exact ⟨F,S,e',fl,fz,ex',f,u,B.mono ok.len j⟩
 .have d:=r.1;rw [qd3 ok.len,q,Nat.mul_one,List.length_append] at d;have d:l.length+1=E.length:=d;cases rv with
  | @mlist _ _ _ _ g a6 e1 T a7 a8 aa hi _ h0 hz f u B=>
   have F:=f;rw [R.g,Y] at F;cases F;have D:=B (by omega);subst D;have e2:n.toNat+1=(l++[x]).length:=by rw [List.length_append];show _=l.length+1;omega
   have:=qj0 ok.len (w:=w') (own:=none) (nm:=w.c id) (gn:=g) (off:=0) (cap:=none) (cs:=E) (fl:=E) (l:=l++[x]) f G (λA=>A.2 rfl) (by rw [q];exact Nat.one_pos) (λk hk=>by cases hk) (r.mono ok.len j) (by omega) (λm _=>by rw [Nat.zero_add]) trivial;rw [q,<-e2] at this;exact this
theorem q0o (ok:CfgOk X sz C) (R:RelH X sz C base st H w) {d:StV K} {i s:Nat} (B:Bump st d i s) {named:Bool} (L:named=true->∃ g,look st.owns i=some g) :
  ∃ w',RelH X sz C base d H w'/\Le w w'/\w'.owns i=some s/\w'.eta i=(if named then w.eta i else none)/\w'.n=d.next/\w'.g=w.g/\w'.M=w.M/\w'.ce=w.ce:=by
 let k:Nat->Option Nat:=λj=>if j=i then (if named then w.eta i else none) else w.eta j
 let w':Wd:={w with n:=d.next,owns:=look d.owns,eta:=k};have o:Le w w':=by
  refine ⟨⟨by rw [R.n];exact B.next,λnm cs e gen u v ex h N=>⟨N,[],gen,v,ex,by rw [zJ];exact h⟩,λ_ _=>rfl,λ_ _=>rfl,λj x h=>?_,λj a b x h l=>?_,λj a x h l=>?_,rfl,λ_ _=>.rfl,zN _,rfl,λ_ _ h=>h,λ_ _=>rfl,qni λ_ _ _=>rfl⟩,λ_ h=>h,rfl⟩
  .rw [R.owns] at h;show look d.owns j=none;rw [B.owns];by_cases c:j=i
   .subst c;have:=B.fresh h;rw [R.n] at x;omega
   .rw [zF c];exact h
  .rw [R.owns] at h;have f:look d.owns j=some b:=l;rw [B.owns] at f;by_cases c:j=i
   .subst c;rw [zT rfl] at f;cases f;exact Nat.le_of_lt (B.up a h)
   .rw [zF c,h] at f;cases f;exact zN _
  .rw [R.owns] at h;have f:look d.owns j=some a:=l;rw [B.owns] at f;by_cases c:j=i
   .subst c;rw [zT rfl] at f;cases f;have:=B.up _ h;omega
   .exact ⟨zF c,λ_ _ _=>rfl⟩
 have p:∀ j a nm,look d.owns j=some a->k j=some nm->∃ y,look st.owns j=some y/\w.eta j=some nm:=by
  intro j a nm h l;rw [B.owns] at h;by_cases c:j=i
  .subst c;simp only [k,if_true] at l;cases named with
   | false=>simp at l
   | true=>
    obtain ⟨g,O⟩:=L rfl;exact ⟨g,O,by simpa using l⟩
  .rw [zF c] at h;simp only [k,zF c] at l;exact ⟨a,h,l⟩
 refine ⟨w',⟨R.wf,R.rob,R.g,R.nx,R.b,R.Mlt,rfl,zR R.one B.next,R.keeps,λid h=>?_,R.cinj,λt q l=>?_,λ_=>rfl,λj a h=>?_,λj a nm h z=>?_,λI J P Q nm A D S T=>?_,R.ce,λid b h=>?_,λgn q l=>?_⟩,o,by show look d.owns i=some s;rw [B.owns,zT rfl],zT rfl,rfl,rfl,rfl,rfl⟩
 .obtain ⟨m,r,E⟩:=R.cl id h;exact ⟨zL m B.next,r,E⟩
 .rw [B.cells] at l;obtain ⟨m,r,U⟩:=R.cells t q l;exact ⟨m,r,U.mono ok.len o (by rw [R.n];exact (R.cl t m).1)⟩
 .rw [B.owns] at h;by_cases c:j=i
  .subst c;exact B.lt
  .rw [zF c] at h;exact zL (R.ownn j a h) B.next
 .obtain ⟨y,A,D⟩:=p j a nm h z;exact R.eta j y nm A D
 .obtain ⟨V,g1,W⟩:=p I P nm A S;obtain ⟨Y,Z,g4⟩:=p J Q nm D T;exact R.einj I J V Y nm g1 Z W g4
 .rw [B.known] at h;obtain ⟨F,m,r⟩:=R.known id b h;exact ⟨F,zL m B.next,r⟩
 .obtain ⟨F,G,e',fl,fz,ex',m,r,E⟩:=R.globs gn q l;exact ⟨F,G,e',fl,fz,ex',m,r,E.mono ok.len o⟩
theorem zb9 (ok:CfgOk X sz C) (R:RelH X sz C base st H w) {f:StV K} {i s g nm:Nat} (B:Bump st f i s) (I:look st.owns i=some g) (he:w.eta i=some nm) {cs cs2:List V} {e:TypeId} {gen floor t:Nat} {ex ex':Bool}
  (P:H.get nm=some (.row cs e gen floor t ex)) (Q:cs2≠[]) :
  ∃ w',RelH X sz C base f (H.put nm (.row (cs++cs2) e (gen+1) floor t ex')) w'/\Le w w'/\w'.owns i=some s/\w'.eta i=some nm/\w'.n=f.next/\¬ w'.M nm/\w'.ce=w.ce:=by
 obtain ⟨z,S,J⟩:=R.eta i g nm I he;let H':=H.put nm (.row (cs++cs2) e (gen+1) floor t ex');let w':Wd:={w with g:=H'.get,n:=f.next,owns:=look f.owns};have k:∀ m,m≠nm->H'.get m=H.get m:=λm o=>qb8 o;have p:H'.get nm=some (.row (cs++cs2) e (gen+1) floor t ex'):=qaf;have A:Le w w':=by
  refine ⟨⟨by rw [R.n];exact B.next,λm a8 e' L O N q h hM=>⟨hM,?_⟩,λ_ _=>rfl,λ_ _=>rfl,λj hj h=>?_,λj a b hj h u=>?_,λj a hj h u=>?_,rfl,λ_ _=>.rfl,zN _,rfl,λ_ _ h=>h,λ_ _=>rfl,λT _ aa ab e1 a7 ad ae af v=>?_⟩,λm o=>?_,rfl⟩
  .by_cases o:m=nm
   .subst o;rw [R.g,P] at h;cases h;exact ⟨cs2,_,_,_,p⟩
   .refine ⟨[],L,N,q,?_⟩;rw [zJ];show H'.get m=_;rw [k m o,<-R.g];exact h
  .rw [R.owns] at h;show look f.owns j=none;rw [B.owns];by_cases d:j=i
   .subst d;rw [h] at I;cases I
   .rw [zF d];exact h
  .rw [R.owns] at h;have l:look f.owns j=some b:=u;rw [B.owns] at l;by_cases d:j=i
   .subst d;rw [zT rfl] at l;cases l;exact Nat.le_of_lt (B.up a h)
   .rw [zF d,h] at l;cases l;exact zN _
  .rw [R.owns] at h;have l:look f.owns j=some a:=u;rw [B.owns] at l;by_cases d:j=i
   .subst d;rw [zT rfl] at l;cases l;have:=B.up _ h;omega
   .refine ⟨rfl,λm o _=>?_⟩;show H'.get m=w.g m;rw [k m (by intro D;subst D;exact d (R.einj j i a g m h I o he)),R.g]
  .rw [R.g] at v;by_cases o:w.c T=nm
   .rw [o,P] at v;cases v;refine ⟨_,_,_,_,_,by rw [o];exact p,by rw [List.length_append];omega,λhh=>?_⟩;rw [List.length_append] at hh;exact absurd (List.eq_nil_of_length_eq_zero (by omega)) Q
   .exact ⟨_,_,_,_,_,(k _ o).trans v,zN _,λ_=>rfl⟩
  .show H'.get m=_;rw [R.g] at o;rw [k m (by intro D;subst D;rw [P] at o;cases o)];exact o
 have U:∀ id ps,look st.cells id=some ps->w.c id≠nm:=by
  intro id ps h hc;have:=(R.cells id ps h).2.1;rw [hc] at this;exact J this
 have E:∀ j a,look f.owns j=some a->∃ W,look st.owns j=some W:=by
  intro j a h;rw [B.owns] at h;by_cases d:j=i
  .subst d;exact ⟨g,I⟩
  .rw [zF d] at h;exact ⟨a,h⟩
 refine ⟨w',⟨λn hn=>?_,R.rob,rfl,R.nx,R.b,R.Mlt,rfl,zR R.one B.next,R.keeps.put z _,λid h=>?_,R.cinj,λr x u=>?_,λ_=>rfl,λj a h=>?_,λj a m h F=>?_,λj1 j2 a1 a2 m Y h2 e1 e2=>?_,R.ce,λid b h=>?_,λgn x u=>?_⟩,A,by show look f.owns i=some s;rw [B.owns,zT rfl],he,rfl,J,rfl⟩
 .have F:H.next<=n:=hn
  rw [k n (by omega)];exact R.wf n F
 .obtain ⟨y,G,Z⟩:=R.cl id h;exact ⟨zL y B.next,G,Z⟩
 .rw [B.cells] at u;obtain ⟨y,G,q5⟩:=R.cells r x u;refine ⟨y,G,?_⟩;show qbu X sz w' r _ (H'.get (w.c r));rw [k _ (U r x u)];exact q5.mono ok.len A (by rw [R.n];exact (R.cl r y).1)
 .rw [B.owns] at h;by_cases d:j=i
  .subst d;exact B.lt
  .rw [zF d] at h;exact zL (R.ownn j a h) B.next
 .obtain ⟨W,Y⟩:=E j a h;exact R.eta j W m Y F
 .obtain ⟨b1,g1⟩:=E j1 a1 Y;obtain ⟨b2,g2⟩:=E j2 a2 h2;exact R.einj j1 j2 b1 b2 m g1 g2 e1 e2
 .rw [B.known] at h;obtain ⟨q0,y,G⟩:=R.known id b h;exact ⟨q0,zL y B.next,G⟩
 .obtain ⟨q0,a6,e',fl,fz,q,y,G,Z⟩:=R.globs gn x u;exact ⟨q0,a6,e',fl,fz,q,y,G,Z.mono ok.len A⟩
theorem zc7 (ok:CfgOk X sz C) (R:RelH X sz C base st H w) {i g nm:Nat} (N:look st.owns i=some g) (he:w.eta i=some nm) {cs:List V} {e:TypeId} {gen floor D:Nat} {ex:Bool} (k:Nat)
  (E:H.get nm=some (.row cs e gen floor D ex)) :
  ∃ w',RelH X sz C base {st with owns:=qb2 st.owns i} (H.put nm (.row cs e gen floor k ex)) w'/\Le w w':=by
 obtain ⟨u,F,G⟩:=R.eta i g nm N he;let H':=H.put nm (.row cs e gen floor k ex);let w':Wd:={w with g:=H'.get,owns:=look (qb2 st.owns i)};have f:∀ m,m≠nm->H'.get m=H.get m:=λm l=>qb8 l;have o:H'.get nm=some (.row cs e gen floor k ex):=qaf;have d:∀ j a,look (qb2 st.owns i) j=some a->j≠i/\look st.owns j=some a:=by
  intro j a h;rw [qey] at h;split at h
  .cases h
  .exact ⟨by assumption,h⟩
 have v:Le w w':=by
  refine ⟨⟨zN _,λm Z O z A k p h hM=>⟨hM,?_⟩,λ_ _=>rfl,λ_ _=>rfl,λj P h=>?_,λj a b P h t=>?_,λj a P h t=>?_,rfl,λ_ _=>.rfl,zN _,rfl,λ_ _ h=>h,λ_ _=>rfl,λI _ a6 a7 Q S a8 aa ab r=>?_⟩,λm l=>?_,rfl⟩
  .by_cases l:m=nm
   .subst l;rw [R.g,E] at h;cases h;exact ⟨[],_,_,_,by rw [zJ];exact o⟩
   .refine ⟨[],z,k,p,?_⟩;rw [zJ];show H'.get m=_;rw [f m l,<-R.g];exact h
  .rw [R.owns] at h;show look (qb2 st.owns i) j=none;cases hq:look (qb2 st.owns i) j with
   | none=>rfl
   | some a=>rw [(d j a hq).2] at h;cases h
  .rw [R.owns] at h;have:=(d j b t).2;rw [h] at this;cases this;exact zN _
  .rw [R.owns] at h;obtain ⟨J,_⟩:=d j a t;refine ⟨rfl,λm l _=>?_⟩;show H'.get m=w.g m;rw [f m (by intro x;subst x;exact J (R.einj j i a g m h N l he)),R.g]
  .rw [R.g] at r;by_cases l:w.c I=nm
   .rw [l,E] at r;cases r;exact ⟨_,_,_,_,_,by rw [l];exact o,zN _,λ_=>rfl⟩
   .exact ⟨_,_,_,_,_,(f _ l).trans r,zN _,λ_=>rfl⟩
  .show H'.get m=_;rw [R.g] at l;rw [f m (by intro x;subst x;rw [E] at l;cases l)];exact l
 have K:∀ id ps,look st.cells id=some ps->w.c id≠nm:=by
  intro id ps h hc;have:=(R.cells id ps h).2.1;rw [hc] at this;exact G this
 refine ⟨w',⟨λn hn=>?_,R.rob,rfl,R.nx,R.b,R.Mlt,R.n,R.one,R.keeps.put u _,R.cl,R.cinj,λq s t=>?_,λ_=>rfl,λj a h=>R.ownn j a (d j a h).2,λj a m h y=>R.eta j a m (d j a h).2 y,
  λT U W Y m h1 h2 Q e2=>R.einj T U W Y m (d T W h1).2 (d U Y h2).2 Q e2,R.ce,R.known,λgn s t=>?_⟩,v⟩
 .have y:H.next<=n:=hn
  rw [f n (by omega)];exact R.wf n y
 .obtain ⟨B,L,q5⟩:=R.cells q s t;refine ⟨B,L,?_⟩;show qbu X sz w' q _ (H'.get (w.c q));rw [f _ (K q s t)];exact q5.mono ok.len v (by rw [R.n];exact (R.cl q B).1)
 .obtain ⟨q0,M,O,fl,fz,p,B,L,q3⟩:=R.globs gn s t;exact ⟨q0,M,O,fl,fz,p,B,L,q3.mono ok.len v⟩
theorem zb1 (ok:CfgOk X sz C) (R:RelH X sz C base st H w) (i:Nat):∃ w',RelH X sz C base {st with owns:=qb2 st.owns i} H w'/\Le w w':=by
 have c:∀ j a,look (qb2 st.owns i) j=some a->look st.owns j=some a:=by
  intro j a h;rw [qey] at h;split at h
  .cases h
  .exact h
 have e:Le w {w with owns:=look (qb2 st.owns i)}:=by
  refine ⟨⟨zN _,λm D v l q o d h E=>⟨E,[],l,o,d,by rw [zJ];exact h⟩,λ_ _=>rfl,λ_ _=>rfl,λj x h=>?_,λj a b x h k=>?_,λj a x h k=>⟨rfl,λ_ _ _=>rfl⟩,rfl,λ_ _=>.rfl,zN _,rfl,λ_ _ h=>h,λ_ _=>rfl,qni λ_ _ _=>rfl⟩,λ_ h=>h,rfl⟩
  .rw [R.owns] at h;show look (qb2 st.owns i) j=none;cases F:look (qb2 st.owns i) j with
   | none=>rfl
   | some a=>rw [c j a F] at h;cases h
  .rw [R.owns] at h;have:=c j b k;rw [h] at this;cases this;exact zN _
 refine ⟨{w with owns:=look (qb2 st.owns i)},⟨R.wf,R.rob,R.g,R.nx,R.b,R.Mlt,R.n,R.one,R.keeps,R.cl,R.cinj,λp f k=>?_,λ_=>rfl,λj a h=>R.ownn j a (c j a h),λj a m h s=>R.eta j a m (c j a h) s,
  λy z A B m G I J K=>R.einj y z A B m (c y A G) (c z B I) J K,R.ce,R.known,λgn f k=>?_⟩,e⟩
 .obtain ⟨r,t,L⟩:=R.cells p f k;exact ⟨r,t,L.mono ok.len e (by rw [R.n];exact (R.cl p r).1)⟩
 .obtain ⟨M,u,v,fl,fz,d,r,t,N⟩:=R.globs gn f k;exact ⟨M,u,v,fl,fz,d,r,t,N.mono ok.len e⟩
theorem qor {c:Nat} {s:PV K} {x:List (K c)} {k:PV K->StV K->Prop} (R:RelH X sz C base st H w) (h:qsl (ql X tbl inv meas) c s x st k) :
  ∃ l i g f,asL (ql X tbl inv meas) c s=some l/\l.length+x.length<=1000000000/\k (.list c (l++x) (some (i,g))) f/\Bump st f i g/\
   ((s=.nils/\look st.owns i=none)∨∃ m n g0,s=.list m n (some (i,g0))/\look st.owns i=some g0/\g=g0+2):=by
 unfold qsl at h;cases a:qek st s with
 | false=>rw [a] at h;exact absurd h id
 | true=>
  rw [a] at h;simp only [Bool.not_true,zQ] at h;split at h
  .exact absurd h id
  .rename_i l o;split at h
   .rename_i m n i g0;have d:look st.owns i=some g0:=by
     simp only [qek] at a;split at a
     .rename_i q d;rw [d,zE a]
     .cases a
    refine ⟨l,i,g0+2,_,o,h.1,h.2,⟨rfl,rfl,rfl,rfl,λj=>qec,zN _,R.ownn i g0 d,λg e=>?_,λe=>?_⟩,.inr ⟨m,n,g0,rfl,d,rfl⟩⟩
    .rw [d] at e;cases e;omega
    .rw [d] at e;cases e
   .rename_i p;have d:s=.nils:=by
     cases s with
     | nils=>rfl
     | list m n own=>
      cases own with
      | none=>simp [qek] at a
      | some x=>exact absurd rfl (p _ _ _ _)
     | _=>simp [qek] at a
    have b:look st.owns st.next=none:=by
     cases o:look st.owns st.next with
     | none=>rfl
     | some g=>have:=R.ownn _ _ o;omega
    exact ⟨l,st.next,1,_,o,h.1,h.2,⟨rfl,rfl,rfl,rfl,λj=>qa7,Nat.le_succ _,Nat.lt_succ_self _,λg e=>(by rw [b] at e;cases e),λ_=>zN _⟩,.inl ⟨d,b⟩⟩
theorem qe8 (ok:CfgOk X sz C) (R:RelH X sz C base st H w) {c:Nat} {e:TypeId} {G:TI} (hc:C.codec e=some c) (aC:C.E.types e=some G) (aD:G.bytes<=1024) {s:PV K} {vs vx:V} {x:List (K c)} {items:List V}
  {k:PV K->StV K->Prop} (rs:Rep X sz w s vs) (u:k7 H G.size vx=some (x.length,items)) (hit:qj X sz w (x.flatMap (X.cells c)) items) (h:qsl (ql X tbl inv meas) c s x st k) :
  ∃ p d v H' w',k p d/\d.tmps=st.tmps/\d.n=st.n/\qbs H e G.size G.bytes vs vx=some (v,H')/\RelH X sz C base d H' w'/\Le w w'/\Rep X sz w' p v:=by
 obtain ⟨l,i,g,d,hl,S,U,B,hi⟩:=qor R h;have r:=ok.size e c G hc aC;have hz:=ok.pos e c hc;have rl:=qeb rs hl;have I:items.length=x.length * sz c:=by rw [<-hit.1];exact qd3 ok.len
 have af:Nat.beq x.length 0=true->x=[]:=λh=>List.eq_nil_of_length_eq_zero (zE h);have J:∀ m,m<=1000000000->(Nat.ble (m * G.bytes) room&&Nat.ble m room)=true:=by
  intro m hm;simp only [zA,Nat.ble_eq,room];have:m * G.bytes<=1000000000 * 1024:=Nat.mul_le_mul hm aD;exact ⟨by omega,by omega⟩
 have fresh:∀ (fl:List V),Nat.beq x.length 0=false->qj X sz w ((l++x).flatMap (X.cells c)) fl->∃ p d v H' w',k p d/\d.tmps=st.tmps/\d.n=st.n/\(v,H')=(V.slice H.next 0 0 (l.length+x.length) (sz c) none,H.new (.row fl e 0 0 0 false))/\RelH X sz C base d H' w'/\Le w w'/\Rep X sz w' p v:=by
  intro fl W ag;have aR:0<x.length:=by
   cases hq:x.length with
   | zero=>rw [hq] at W;cases W
   | succ n=>omega
  obtain ⟨w',P,f,ow,et,hM,hn⟩:=qmh (named:=true) ok R B (row:=.row fl e 0 0 0 false);refine ⟨_,_,_,_,w',U,B.tmps,B.n,rfl,P,f,?_⟩;have Q:w'.g H.next=some (.row fl e 0 0 0 false):=by rw [P.g];exact qbb
  have t:(l++x).length=l.length+x.length:=List.length_append;rw [<-t];refine qj0 ok.len Q (zN _) hM hz (λk U=>(by cases U)) (ag.mono ok.len f) (by omega) (λm _=>by rw [Nat.zero_add]) ⟨by rw [hn];exact B.lt,λa1 b=>(by rw [ow] at b;cases b;exact zN _),λ_=>.inr ⟨rfl,et,fl,e,0,0,false,Q,?_,Nat.zero_le _,?_⟩,λ_=>⟨rfl,rfl,by rw [t];omega⟩⟩
  .rw [Nat.zero_add,<-ag.1];exact (qd3 ok.len).symm
  .rw [P.ce];exact hc
 rcases j3 rl with ⟨rfl,rfl⟩ | ⟨nm,gn,off,z,cap,cs,e',gen,o,a6,ex,rfl,Q,hf,hM,t,aE,ah,a7,_⟩
 .
  cases D:Nat.beq x.length 0 with
  | true=>
   have a8:=af D;subst a8;obtain ⟨w',P,f,ow,et,hn,_,_,_⟩:=q0o (named:=false) ok R B (λh=>by cases h);refine ⟨_,_,.nils,H,w',U,B.tmps,B.n,?_,P,f,?_⟩
   .simp only [qbs,V.qd1,qbi,u,zB,D,zO]
   .rw [zJ];exact .nlist ⟨by rw [hn];exact B.lt,λa1 b=>(by rw [ow] at b;cases b;exact zN _),λ_=>trivial,λ_=>trivial⟩
  | false=>
   obtain ⟨p,L,v,H',w',h1,h2,h3,h4,h5,h6,h7⟩:=fresh items D (by rw [List.nil_append];exact hit);cases h4;refine ⟨p,L,_,_,w',h1,h2,h3,?_,h5,h6,h7⟩;have hr:=J x.length (by omega);rw [r] at u;simp only [qbs,V.qd1,qbi,r,u,zB,D,zQ,hr,zO,List.length_nil,Nat.zero_add]
 .have ai:Nat.beq G.size (sz c)=true:=by rw [r];exact Nat.beq_refl _
  have M:V.qd1 (sz c) (.slice nm gn off l.length z cap)=.slice nm gn off l.length (sz c) cap:=qqj aE;have aj:V.qd1 G.size (.slice nm gn off l.length z cap)=.slice nm gn off l.length (sz c) cap:=by rw [r];exact M
  have ak:∃ y l' g0,s=.list y l' (some (i,g0))/\look st.owns i=some g0/\g=g0+2:=by
   rcases hi with ⟨rfl,_⟩ | hi
   .cases rs
   .exact hi
  obtain ⟨y,l',g0,rfl,T,aO⟩:=ak;have aF:y=c:=by
   unfold asL at hl;simp only at hl;split at hl
   .assumption
   .cases hl
  subst aF;have aa:g % 2=1->NB (.slice nm gn off l.length z cap):=by
   intro aP;rcases j3 rs with ⟨_,hh⟩ | ⟨aG,aH,al,z',an,ao,e2,aq,F,Y,ex',hh,_,_,_,_,_,_,_,ho⟩
   .cases hh
   .rw [hh];exact ho.2.2.2 (by omega)
  have q:qws w sz i y (.slice nm gn off l.length z cap):=by
   rcases j3 rs with ⟨_,hh⟩ | ⟨aG,aH,al,z',an,ao,e2,aq,F,Y,ex',hh,_,_,_,_,_,_,_,ho⟩
   .cases hh
   .rw [hh];exact ho.2.2.1 (by rw [R.owns];exact T)
  cases D:Nat.beq x.length 0 with
  | true=>
   have a8:=af D;subst a8;obtain ⟨w',P,f,ow,et,hn,ar,aI,ab⟩:=q0o (named:=true) ok R B (λ_=>⟨g0,T⟩);refine ⟨_,_,.slice nm gn off l.length (sz y) cap,H,w',U,B.tmps,B.n,?_,P,f,?_⟩
   .simp only [qbs,aj,qbi,u,zB,ai,Bool.not_true,zQ,D,zO]
   .rw [zJ];refine .list (by rw [ar];exact Q) hf (by rw [aI];exact hM) rfl t ⟨hz,.inl rfl⟩ ah (λi' aJ j p hp=>(a7 i' aJ j p hp).mono ok.len f) ⟨by rw [hn];exact B.lt,λa1 b=>(by rw [ow] at b;cases b;exact zN _),λ_=>?_,aa⟩;simp only [qws] at q ⊢;rw [et,ar,ab];exact q
  | false=>
   have hr:=J (l.length+x.length) S;have Z:items.all V.j7=true:=hit.qpq (zly ok);rw [R.g] at Q;obtain ⟨old,a,N⟩:=qiy ok.len R.g rl hz;rw [<-qvy,M] at a;rcases q with A | ⟨A,au,ao,e2,F,Y,ex',av,aw,ax,ab⟩
   .subst A;have ay:Nat.ble (l.length+x.length) l.length=false:=by
     rw [<-Bool.not_eq_true,Nat.ble_eq];have:x.length≠0:=by intro h0;rw [h0] at D;simp at D
     omega
    obtain ⟨p,L,v,H',w',h1,h2,h3,h4,h5,h6,h7⟩:=fresh (old++items) D (by rw [List.flatMap_append];exact N.append hit);cases h4;refine ⟨p,L,_,_,w',h1,h2,h3,?_,h5,h6,h7⟩;have aK:Nat.beq (sz y) (sz y)=true:=Nat.beq_refl _;rw [r] at u;simp only [qbs,r,M,qbi,u,zB,aK,Bool.not_true,zQ,D,hr,Z,Q,ay,a,zH]
   .subst A;rw [R.g,Q] at av;cases av;have aL:e'=e:=ok.inj e' e y (by rw [<-R.ce];exact ab) hc;subst aL;obtain ⟨ad,aM,aS⟩:=R.eta i g0 nm T au;have ae:H.ro<=nm:=by rw [R.keeps.ro];exact zR R.rob.1 ad
    have az:(Nat.beq gn gn&&Nat.beq (off+l.length * G.size) cs.length&&Nat.ble a6 cs.length&&Nat.ble o gn&&!Nat.beq G.size 0&&Nat.beq e' e')=true:=by
     simp only [zA,Nat.ble_eq,Nat.beq_refl,r];refine ⟨⟨⟨⟨⟨trivial,?_⟩,ax⟩,hf⟩,?_⟩,trivial⟩
     .rw [aw];exact Nat.beq_refl _
     .have:Nat.beq (sz y) 0=false:=by rw [<-Bool.not_eq_true,Nat.beq_eq];omega
      rw [this];rfl
    obtain ⟨w',P,f,ow,et,hn,aN,aA⟩:=zb9 (cs2:=items) (ex':=false) ok R B T au Q (λh0=>by subst h0;have h1:0=x.length * sz y:=I;exact (Nat.mul_eq_zero.1 h1.symm).elim (λh2=>by rw [h2] at D;cases D) (λh2=>by omega));refine ⟨_,_,.slice nm (gn+1) off (l.length+x.length) (sz y) none,_,w',U,B.tmps,B.n,?_,P,f,?_⟩
    .simp only [qbs,aj,qbi,u,zB,ai,Bool.not_true,zQ,D,hr,Z,Q,az,zO,qb3 ae,zH];rw [r]
    .have aB:w'.g nm=some (.row (cs++items) e' (gn+1) o a6 false):=by rw [P.g];exact qaf
     have O:(l++x).length=l.length+x.length:=List.length_append;rw [<-O];have ae:qj X sz w' ((l++x).flatMap (X.cells y)) (old++items):=by
      rw [List.flatMap_append];exact (N.append hit).mono ok.len f
     have hold:old=cs.drop off:=by
      have b1:Nat.ble o gn=true:=by rw [Nat.ble_eq];exact hf
      have b2:Nat.ble (off+l.length * sz y) (off+l.length * sz y)=true:=by rw [Nat.ble_eq];exact zN _
      have b3:Nat.ble (off+l.length * sz y) cs.length=true:=by rw [Nat.ble_eq];exact t
      simp only [k7,V.qgz,qcm,Nat.beq_refl,zO,jb,Q,b1,b2,b3,Bool.and_self,zM,zP] at a;obtain ⟨_,a,_,rfl⟩:=a;obtain ⟨rfl,_⟩:=qnr a;rw [List.take_of_length_le];rw [List.length_drop];omega
     refine qj0 ok.len aB (Nat.le_succ_of_le hf) aN hz (λk U=>(by cases U)) ae ?_ (λm hm=>?_) ⟨by rw [hn];exact B.lt,λa1 b=>(by rw [ow] at b;cases b;exact zN _),λ_=>.inr ⟨rfl,et,cs++items,e',o,a6,false,aB,?_,?_,?_⟩,λh=>⟨rfl,(aa h).2.1,by rw [O];have:=(aa h).2.2;omega⟩⟩
     .rw [hold,List.length_append,List.length_append,List.length_drop];omega
     .have aQ:off<=cs.length:=by omega
      have:cs++items=cs.take off++(cs.drop off++items):=by rw [<-List.append_assoc,List.take_append_drop]
      rw [this,hold,List.getD_eq_getElem?_getD,List.getD_eq_getElem?_getD,List.getElem?_append_right (by rw [List.length_take];omega)];congr 2;rw [List.length_take];omega
     .rw [List.length_append,List.length_append,Nat.add_mul,I];omega
     .rw [List.length_append];omega
     .rw [aA,R.ce];exact hc
theorem qjr (c:w.g=H.get) {es n:Nat} {fx:Bool} {ps:List (PV K)} {v:V} (r:Rep X sz w (.plist es n fx ps) v):∃ cs,k7 H es v=some (n,cs)/\qj X sz w ps cs:=by
 cases r with
 | @plist _ _ _ _ nm gn d cs e gen b i ex f k s t u x l=>
  rw [c] at f;have m:Nat.ble b gn=true:=by rw [Nat.ble_eq];exact k
  have o:Nat.ble (d+n * es) (d+n * es)=true:=by rw [Nat.ble_eq];exact zN _
  have q:Nat.ble (d+n * es) cs.length=true:=by rw [Nat.ble_eq];omega
  have a:qj X sz w ps ((cs.drop d).take (n * es)):=by
   refine ⟨by rw [List.length_take,List.length_drop];omega,λj p h=>?_⟩;have y:=(List.getElem?_eq_some_iff.1 h).1;have:=l j p h;rw [List.getD_eq_getElem?_getD,List.getElem?_take,zT (by omega),List.getElem?_drop,<-List.getD_eq_getElem?_getD];exact this
  exact ⟨_,by simp only [k7,V.qgz,qcm,Nat.beq_refl,zO,jb,f,m,o,q,Bool.and_self,qi5 a.qu0,zH],a⟩
theorem zb8 {C:ZC K} {o:Operand} {c z:Nat} {s x:PV K} {k:PV K->StV K->Prop} (a:qkr (ql X tbl inv meas) C st o=false) (b:ju (ql X tbl inv meas) C st o=some x):zez (ql X tbl inv meas) c z s x st k=none:=by
 unfold qkr at a;rw [b] at a;cases s<;>cases x<;>first | rfl | cases a
theorem q8y (ok:CfgOk X sz C) (R:RelH X sz C base st H w) {c:Nat} {e:TypeId} {u:TI} (hc:C.codec e=some c) (a6:C.E.types e=some u) (a7:u.bytes<=1024) {s x:PV K} {vs vx:V}
  {k:PV K->StV K->Prop} {r:Prop} (rs:Rep X sz w s vs) (rx:Rep X sz w x vx) (J:zez (ql X tbl inv meas) c u.size s x st k=some r) (h:r) :
  ∃ p y v H' w',k p y/\y.tmps=st.tmps/\y.n=st.n/\qbs H e u.size u.bytes vs vx=some (v,H')/\RelH X sz C base y H' w'/\Le w w'/\Rep X sz w' p v:=by
 have L:=ok.size e c u hc a6;have i:∀ m,m<=1000000001->(Nat.ble (m * u.bytes) room&&Nat.ble m room)=true:=by
  intro m hm;simp only [zA,Nat.ble_eq,room];have:m * u.bytes<=1000000001 * 1024:=Nat.mul_le_mul hm a7;exact ⟨by omega,by omega⟩
 unfold zez at J;split at J
 .rename_i fx p;cases J;cases b:(Nat.beq u.size 1&&jn p) with
  | false=>rw [b] at h;exact h.elim
  | true=>
   rw [b] at h;simp only [zO] at h;simp only [zA] at b;have j:=zE b.1;obtain ⟨a,z,f⟩:=qjr R.g rx;cases rs;obtain ⟨w',A,d,M,a8⟩:=qj6 ok R (ct:=.ml c [] p) (row:=.row a e 0 0 0 false) (lp':=w.lp) (λ_ _=>rfl) λw' d _=>⟨a,e,0,0,false,rfl,zN _,by rw [d.ce,R.ce];exact hc,by rw [<-L];exact j,f.mono ok.len d⟩;have aa:a.length=1:=f.1.symm;refine ⟨_,_,.slice H.next 0 0 1 1 none,_,w',h,rfl,rfl,?_,A,d,?_⟩
   .have N:=i 1 (by omega);have B:Nat.beq 1 0=false:=rfl;simp only [qbs,V.qd1,qbi,j,z,zB,B,zQ,N,zO]
   .have D:=(A.cells st.next _ (by simp only [qa7];rfl)).1;have:=Rep.mlist (X:=X) (sz:=sz) (w:=w') (id:=st.next) (c:=c) (fx:=false) (n:=0) (g:=0) (cs:=a) (e:=e) a8 D (zK _) (by rw [<-L];exact j) (by rw [M,A.g];exact qbb) (by show 1<=_;omega) (λ_=>rfl);rw [M] at this;exact this
 .rename_i id c' aq n fx q;cases J;split at h
  .rename_i l p hl;have hl:=qic hl;obtain ⟨D,hM,cs,I,gen,fl,ex,hg,ab,O,F,N⟩:=R.cells id _ hl;have N:qj X sz w (l.flatMap (X.cells c)++[p]) cs:=N;obtain ⟨ad,ae,G⟩:=R.cl id D;cases b:(Nat.beq c' c&&Nat.beq u.size 1&&jn q) with
   | false=>rw [b] at h;exact h.elim
   | true=>
    rw [b] at h;simp only [zO] at h;simp only [zA] at b;have af:=zE b.1.1;subst af;have j:=zE b.1.2;split at h
    .rename_i r hp;obtain ⟨hn,P,Q,h⟩:=h;have hn:n=(l.length:Int):=hn;have Q:l.length+1<=1000000000:=Q;have S:=q9h ok N hp P;have t:=S.1;rw [qd3 ok.len,F,Nat.mul_one,List.length_append] at t;have t:l.length+1=cs.length:=t;obtain ⟨a,z,f⟩:=qjr R.g rx;have aa:a.length=1:=f.1.symm;have ag:I=e:=ok.inj I e c' (by rw [<-R.ce];exact O) hc;subst ag;cases rs with
     | @mlist _ _ _ _ g ah e1 T ai aj ak hi _ h0 hz q1 q2 q3=>
      rw [R.g,hg] at q1;cases q1;have U:=q3 (by omega);subst U;have al:H.ro<=w.c id:=by rw [R.keeps.ro];exact zR R.rob.1 G
      obtain ⟨w',A,d⟩:=qih ok R (ct':=.ml c' (l++[r.2]) q) (o:=.row (cs++a) I (g+1) fl 0 false) hl
       (λah e1 T ai aj ak h=>by
         rw [hg] at h;cases h;exact ⟨_,_,_,_,_,rfl,by rw [List.length_append];omega,λhh=>by rw [List.length_append] at hh;omega⟩)
       ⟨_,_,_,_,_,rfl,by omega,O,F,S.append f⟩
      refine ⟨_,_,.slice (w.c id) (g+1) 0 (n.toNat+1+1) 1 none,_,w',h,rfl,rfl,?_,A,d,?_⟩
      .have an:=i (n.toNat+1+1) (by omega);have B:Nat.beq 1 0=false:=rfl;have ao:Nat.beq 1 1=true:=rfl;have W:(Nat.beq g g&&Nat.beq (0+(n.toNat+1) * 1) cs.length&&Nat.ble 0 cs.length&&Nat.ble fl g&&!false&&Nat.beq I I)=true:=by
        simp only [zA,Nat.ble_eq,Nat.beq_refl];refine ⟨⟨⟨⟨⟨trivial,?_⟩,Nat.zero_le _⟩,ab⟩,rfl⟩,trivial⟩;rw [Nat.beq_eq];omega
       have Y:a.all V.j7=true:=f.qpq (by simp [b.2]);simp only [qbs,V.qgz,qbi,j,z,zB,B,ao,Bool.not_true,zQ,an,Y,hg,W,zO,qb3 al,zH]
      .have Z:=d.c id (by rw [R.n];exact ad);have a1:w'.cl id:=(A.cells id _ (by simp only [qec,zT rfl];rfl)).1;have ar:((l++[r.2]).length:Int)=n+1:=by rw [List.length_append];show ((l.length+1:Nat):Int)=_;omega
       have:=Rep.mlist (X:=X) (sz:=sz) (w:=w') (id:=id) (c:=c') (fx:=false) (n:=((l++[r.2]).length:Int)) (g:=g+1) (cs:=cs++a) (e:=I) (gen:=g+1) (fl:=fl) (fz:=0) (ex:=false) (zL hi d.n) a1 (by omega) F (by rw [Z,A.g];exact qaf) (by have h9:(cs++a).length=cs.length+a.length:=List.length_append;omega) (λ_=>rfl);rw [Z] at this;have e3:((l++[r.2]).length:Int).toNat=n.toNat+1:=by omega
       rw [e3] at this;exact this
    .exact h.elim
  .exact h.elim
 .cases J
theorem q0b (ok:CfgOk X sz C) (R:RelH X sz C base st H w) {e:TypeId} {a:TI} (s:a.bytes<=1024) {n m:Nat} {fx:Bool} {cs c:List (PV K)} {F G:V} (rs:Rep X sz w (.plist a.size n true cs) F) (rx:Rep X sz w (.plist a.size m fx c) G)
  (hm:0<m) (t:n+m<=100000) (i:c.all jn=true) :
  ∃ v H' w',qbs H e a.size a.bytes F G=some (v,H')/\RelH X sz C base {st with owns:=(st.next,0)::st.owns,next:=st.next+1} H' w'/\Le w w'/\Rep X sz w' (.plist a.size (n+m) false (cs++c)) v:=by
 obtain ⟨old,k,u⟩:=qjr R.g rs;obtain ⟨b,x,l⟩:=qjr R.g rx;have J:Bump st {st with owns:=(st.next,0)::st.owns,next:=st.next+1} st.next 0:=by
  have h:look st.owns st.next=none:=by
   cases L:look st.owns st.next with
   | none=>rfl
   | some g=>have:=R.ownn _ _ L;omega
  exact ⟨rfl,rfl,rfl,rfl,λj=>qa7,Nat.le_succ _,Nat.lt_succ_self _,λg o=>(by rw [h] at o;cases o),λ_=>zN _⟩
 obtain ⟨w',I,q,U,W,y,Y⟩:=qmh (named:=false) ok R J (row:=.row (old++b) e 0 0 0 false);have z:w'.g H.next=some (.row (old++b) e 0 0 0 false):=by rw [I.g];exact qbb
 have f:=(u.append l).mono ok.len q;cases rs with
 | @plist _ _ _ _ nm gn d M Z gen A N ex o hf hM O P h2 hc=>
  have B:c.length=m * a.size:=by
   cases rx with
   | plist _ _ _ _ Q _ _=>exact Q
  refine ⟨.slice H.next 0 0 (n+m) a.size none,_,w',?_,I,q,.plist z (zN _) y O (by rw [List.length_append,P,B,Nat.add_mul]) (by rw [<-f.1];omega) (λj p S=>by rw [Nat.zero_add];exact f.2 j p S)⟩;rw [R.g] at o;have D:Nat.beq m 0=false:=by rw [<-Bool.not_eq_true,Nat.beq_eq];omega
  have T:(Nat.ble ((n+m) * a.bytes) room&&Nat.ble (n+m) room)=true:=by
   simp only [zA,Nat.ble_eq,room];have:(n+m) * a.bytes<=100000 * 1024:=Nat.mul_le_mul t s;exact ⟨by omega,by omega⟩
  have r:Nat.ble (n+m) n=false:=by rw [<-Bool.not_eq_true,Nat.ble_eq];omega
  have E:Nat.beq a.size a.size=true:=Nat.beq_refl _;simp only [zO] at k ⊢;simp only [qbs,V.qgz,qbi,x,zB,E,Bool.not_true,zQ,D,T,l.qpq i,o,r,k,zH]
end
end Go.E3
/- E3: NEW VARIABLES AND LISTS as operations; CONTRACTS of functions. -/
namespace Go.E3
open Go Go.E2
variable {K:Nat->Type}
section
variable {X:Codecs K} {sz:Nat->Nat} {C:ZC K} {base H:Heap} {st:StV K} {fr:Fr} {w:Wd}
variable {tbl:Tbl K} {inv:Nat->List (NV K)->Prop} {meas:Nat->List (NV K)->Nat}
theorem qsj {l:List Prop} {p:Prop} (h:zk6 (ql X tbl inv meas) l p):(∀ q ∈ l,q)/\p:=by
 induction l with
 | nil=>exact ⟨λq b=>(by cases b),h⟩
 | cons a l c=>
  obtain ⟨d,e⟩:=h;obtain ⟨f,g⟩:=c e;refine ⟨λq b=>?_,g⟩;rcases zD.1 b with rfl | b
  .exact d
  .exact f q b
theorem qst (ok:CfgOk X sz C) {c:Nat}:∀ {n:Nat} {ps:List (PV K)} {us:List V} {r:List Prop×List (K c)},qj X sz w ps us->q9g (ql X tbl inv meas) c (chunks (sz c) n ps)=some r->(∀ q ∈ r.1,q)->
  qj X sz w (r.2.flatMap (X.cells c)) (us.take (n * sz c))/\r.2.length=n
 | 0,ps,us,r,_,h,_=>by
  simp only [chunks,q9g,zS] at h;subst h;simp only [List.flatMap_nil,Nat.zero_mul,List.take_zero];exact ⟨.nil,rfl⟩
 | n+1,ps,us,r,f,h,g=>by
  simp only [chunks,q9g] at h;obtain ⟨a,i,j⟩:=zI.1 h;obtain ⟨rs,k,l⟩:=zM.1 j;subst l;have m:=ok.pack c _ a.1 a.2 i (g a.1 zC) w _ (f.take (sz c));obtain ⟨b,d⟩:=qst ok (f.drop (sz c)) k (λq e=>g q (zG _ e));refine ⟨?_,by simp only [List.length_cons,d]⟩;simp only [List.flatMap_cons];have o:us.take ((n+1) * sz c)=us.take (sz c)++(us.drop (sz c)).take (n * sz c):=by
   rw [Nat.add_mul,Nat.one_mul,Nat.add_comm,List.take_add]
  rw [o];exact m.append b
theorem qq4 {ps:List (PV K)} {a:List V} (h:qj X sz w ps a):∀ n,qj X sz w (List.replicate n ps).flatten (List.replicate n a).flatten
 | 0=>by simpa using qj.nil
 | n+1=>by
  rw [List.replicate_succ,List.replicate_succ,List.flatten_cons,List.flatten_cons];exact h.append (qq4 h n)
def zz0 (X:Codecs K) (sz:Nat->Nat) (C:ZC K) (base H:Heap) (st:StV K) (w:Wd) (o:Oper) (fr:Fr) (k:PV K->StV K->Prop):Prop:=
 ∃ p a v row w',k p a/\a.tmps=st.tmps/\a.n=st.n/\RelH X sz C base a (H.new row) w'/\Le w w'/\Rep X sz w' p v/\
  ∀ fr' H',H'.next=H.next->(∀ x ∈ o.op.operands.toList,opd fr' H' x=opd fr H x)->kc C.E o fr' H'=some (.val v,H'.new row)
def qpn (op:Op):Bool:=
 match op with
 | .alloc _ | .box .. | .buildSlice .. | .makeMap ..=>true
 | _=>false
theorem q8k (ok:CfgOk X sz C) (R:Rel X sz C base st fr H w) {inl:ZI K} {o:Oper} {k:PV K->StV K->Prop} (Y:qpn o.op=true)
  (h:qcd (ql X tbl inv meas) C inl o st k):zz0 X sz C base H st w o fr k:=by
 cases b:o.op with
 | alloc e=>
  simp only [qcd,b] at h;obtain ⟨ti,f,d⟩:=qa h;obtain ⟨cs,Z,B⟩:=qa d;obtain ⟨w',s,a,r⟩:=qq3 ok R.h (e:=e) (qiv (X:=X) (sz:=sz) (w:=w) Z);refine ⟨_,_,_,_,w',B,rfl,rfl,s,a,r,λfr' H' D l=>?_⟩;simp only [kc,b,f,zH,D];rfl
 | box e x=>
  simp only [qcd,b] at h;obtain ⟨p,a1,d⟩:=qa h;obtain ⟨v,ev,V⟩:=qq R a1;cases M:p.cellsOf.all jn with
  | false=>rw [M] at d;exact absurd d id
  | true=>
   rw [M] at d;simp only [zO] at d;obtain ⟨w',s,a,r⟩:=qq3 ok R.h (e:=e) V.cells;refine ⟨_,_,_,_,w',d,rfl,rfl,s,a,r,λfr' H' D l=>?_⟩;have e1:=(l x (by simp [b,Op.operands])).trans ev;simp only [kc,b,e1,zB,D];rfl
 | buildSlice t len parts=>
  simp only [qcd,b] at h;obtain ⟨ti,f,d⟩:=qa h;obtain ⟨ps,a6,B⟩:=qa d;obtain ⟨vs,ev,V⟩:=qdq R a6;split at B
  .rename_i e hu;obtain ⟨q,F,h3⟩:=qa B;obtain ⟨z,hz,G⟩:=qa h3;cases M:Nat.ble (len * q.size) 16777216 with
   | false=>rw [M] at G;exact absurd G id
   | true=>
    rw [M] at G;simp only [zO] at G;obtain ⟨cells,hf,u⟩:=qa G;have rz:=qq4 (qiv (X:=X) (sz:=sz) (w:=w) hz) len;obtain ⟨us,a7,I⟩:=qln (parts:=(parts.toList.map (·.1)).zip ps) (vparts:=(parts.toList.map (·.1)).zip vs) (zip_fst V.1) (q7b V) rz hf;have hB:Bump st {st with owns:=(st.next,0)::st.owns,next:=st.next+1} st.next 0:=by
     have J:look st.owns st.next=none:=by
      cases hl:look st.owns st.next with
      | none=>rfl
      | some g=>have:=R.h.ownn _ _ hl;omega
     exact ⟨rfl,rfl,rfl,rfl,λj=>qa7,Nat.le_succ _,Nat.lt_succ_self _,λg N=>(by rw [J] at N;cases N),λ_=>zN _⟩
    obtain ⟨w',s,a,ow,et,hM,D⟩:=qmh (named:=false) ok R.h hB (row:=.row us e 0 0 0 true);have N:w'.g H.next=some (.row us e 0 0 0 true):=by rw [s.g];exact qbb
    have O:∀ (fr':Fr) (H':Heap),H'.next=H.next->(∀ x ∈ o.op.operands.toList,opd fr' H' x=opd fr H x)->kc C.E o fr' H'=some (.val (.slice H.next 0 0 len q.size (some len)),H'.new (.row us e 0 0 0 true)):=by
     intro fr' H' a8 l;have e1:qcy fr' H' (parts.toList.map (·.2))=some vs:=by
      rw [qgx λx hx=>l x ?_]
      .exact ev
      .simpa [b,Op.operands] using hx
     simp only [kc,b,f,e1,zB,hu,F,M,zO,a7,zH,a8];rfl
    split at u
    .rename_i c A;have hc:C.codec e=some c:=by
      cases P:C.born t with
      | true=>rw [P] at A;cases A
      | false=>rw [P] at A;exact A
     obtain ⟨r,W,h7⟩:=qa u;obtain ⟨L,h8⟩:=qsj h7;have Q:=ok.size e c q hc F;have S:=ok.pos e c hc;rw [Q] at W;obtain ⟨T,n⟩:=qst ok I W L;have aa:len * sz c<=us.length:=by
      have:=T.1;rw [qd3 ok.len,n,List.length_take] at this;omega
     refine ⟨_,_,.slice H.next 0 0 len q.size (some len),.row us e 0 0 0 true,w',h8,rfl,rfl,s,a,?_,O⟩;rw [Q];have:=qj0 (own:=some (st.next,0)) (cap:=some len) (off:=0) (gn:=0) ok.len N (zN _) hM S (λk hk=>by cases hk;omega) (T.mono ok.len a) (by rw [List.length_take];omega)
      (λm W=>by
        rw [List.length_take] at W;rw [Nat.zero_add,List.getD_eq_getElem?_getD,List.getD_eq_getElem?_getD,List.getElem?_take,zT (by omega)])
      ⟨by rw [D];exact Nat.lt_succ_self _,λab U=>(by rw [ow] at U;cases U;exact zN _),λ_=>.inl (by rw [n]),λh=>by cases h⟩
     rw [n] at this;exact this
    .cases L:(Nat.blt 0 q.size&&Nat.beq cells.length (len * q.size)) with
     | false=>rw [L] at u;exact absurd u id
     | true=>
      rw [L] at u;simp only [zO] at u;simp only [zA] at L;have q1:0<q.size:=Nat.le_of_ble_eq_true L.1;have q2:=zE L.2;refine ⟨_,_,.slice H.next 0 0 len q.size (some len),.row us e 0 0 0 true,w',u,rfl,rfl,s,a,.plist N (zN _) hM q1 q2 (by rw [I.1];omega) (λj p Y=>?_),O⟩;rw [Nat.zero_add];exact (I.2 j p Y).mono ok.len a
  .exact absurd B id
 | makeSlice t x y=>
  simp only [qcd,b] at h;exact h.elim
 | makeMap t x=>
  cases x with
  | some x=>simp only [qcd,b] at h;exact h.elim
  | none=>
   simp only [qcd,b] at h;obtain ⟨ti,f,d⟩:=qa h;split at d
   .rename_i kt et hu;obtain ⟨ki,ad,B⟩:=qa d;obtain ⟨q,F,h3⟩:=qa B;obtain ⟨c,hc,G⟩:=qa h3;obtain ⟨lf,ae,u⟩:=qa G;obtain ⟨w',s,a,h6,h7⟩:=qj6 ok R.h (ct:=.mp c lf q.isAgg []) (row:=.map [] 0) (lp':=w.lp) (λ_ _=>rfl) (λw' _ _=>⟨[],0,rfl,rfl,λi x e hx=>by simp at hx⟩);refine ⟨_,_,.map H.next,_,w',u,rfl,rfl,s,a,?_,λfr' H' D l=>?_⟩
    .have:=Rep.map (X:=X) (sz:=sz) (w:=w') h7;rw [h6] at this;exact this
    .simp only [kc,b,f,zB,hu,D]
   .exact d.elim
 | _=>simp [qpn,b] at Y
inductive Plain:PV K->Prop
 | int {k:IntKind} {l:Option Int} {n:Int}:Plain (.int k l n)
 | lit {b:Bool}:Plain (.lit b)
 | sb {neg b:Bool} {pt pf:Prop}:Plain (.sb 0 neg b pt pf)
 | str {s:List UInt8}:Plain (.str s)
 | nils:Plain .nils
 | list {c:Nat} {l:List (K c)}:Plain (.list c l none)
 | nilp:Plain .nilp
 | nilf:Plain .nilf
 | nili:Plain .nili
 | func {f:Nat}:Plain (.func f [] [])
 | agg {ps:List (PV K)} (h:∀ p ∈ ps,Plain p):Plain (.agg ps)
 | eptr {ps:List (PV K)} {off:Nat} (h:∀ p ∈ ps,Plain p):Plain (.eptr ps off)
 | plist {es n:Nat} {fx:Bool} {ps:List (PV K)} (h:∀ p ∈ ps,Plain p):Plain (.plist es n fx ps)
theorem Rep.plain {w w':Wd} (t:∀ c x p,p ∈ X.cells c x->Plain p) (u:w'.g=w.g) (y:∀ nm x,w.g nm=some x->¬ w.M nm->¬ w'.M nm) {p:PV K} {v:V} (r:Rep X sz w p v) (b:Plain p):Rep X sz w' p v:=by
 induction r with
 | int h=>exact .int h
 | lit=>exact .lit
 | sb l m F=>cases b;exact .sb l m λz=>absurd rfl z
 | str=>exact .str
 | nils=>exact .nils
 | nlist A=>cases b;exact .nlist trivial
 | list a n d o B C q s A k=>
  cases b;exact .list (by rw [u];exact a) n (y _ _ a d) o B C q (λi hi j p e=>k i hi j p e (t _ _ p (List.mem_of_getElem? e))) trivial
 | cell=>cases b
 | mlist=>cases b
 | mptr=>cases b
 | eptr a n d l m s k=>
  cases b with
  | eptr f=>exact .eptr (by rw [u];exact a) n (y _ _ a d) l m (λj p e=>k j p e (f p (List.mem_of_getElem? e)))
 | nilp=>exact .nilp
 | map=>cases b
 | func D s l m=>cases b;exact .func D s (λj p h=>by simp at h) (λj p h=>by simp at h)
 | nilf=>exact .nilf
 | yield=>cases b
 | iface=>cases b
 | nili=>exact .nili
 | agg E _ k=>
  cases b with
  | agg f=>exact .agg E λj p e=>k j p e (f p (List.mem_of_getElem? e))
 | tuple=>cases b
 | plist a n d z l m s k=>
  cases b with
  | plist f=>exact .plist (by rw [u];exact a) n (y _ _ a d) z l m (λj p e=>k j p e (f p (List.mem_of_getElem? e)))
theorem Rep.zof {w w':Wd} (J:∀ c x,(X.cells c x).length=sz c) (H:∀ c x p,p ∈ X.cells c x->Plain p)
  (hm:∀ nm cs e gen a u ex,w.g nm=some (.row cs e gen a u ex)->¬ w.M nm->¬ w'.M nm/\∃ cs2 b f ex',w'.g nm=some (.row (cs++cs2) e b a f ex')) {p:PV K} {v:V} (r:Rep X sz w p v) (k:Plain p):Rep X sz w' p v:=by
 induction r with
 | int h=>exact .int h
 | lit=>exact .lit
 | sb s F Q=>cases k;exact .sb s F λI=>absurd rfl I
 | str=>exact .str
 | nils=>exact .nils
 | nlist L=>cases k;exact .nlist trivial
 | @list c l own nm gn off len z cap cs e gen a u ex n A o t R N B G L y=>
  cases k;obtain ⟨C,cs2,b,f,ex',D⟩:=hm _ _ _ _ _ _ _ n o;refine .list D A C t (by rw [List.length_append];omega) N B (λi hi j p m=>?_) trivial;have E:j<sz c:=by
   have:=(List.getElem?_eq_some_iff.1 m).1;rw [J] at this;exact this
  have:off+i * sz c+j<cs.length:=by
   have s:i * sz c+sz c<=l.length * sz c:=by
    have:(i+1) * sz c<=l.length * sz c:=zU _ hi;rw [Nat.succ_mul] at this;exact this
   rw [<-t] at s;omega
  rw [qce this];exact y i hi j p m (H _ _ p (List.mem_of_getElem? m))
 | cell=>cases k
 | mlist=>cases k
 | mptr=>cases k
 | @eptr ps off nm gn d lim cs e gen a u ex n A o s F G y=>
  cases k with
  | eptr q=>
   obtain ⟨C,cs2,b,f,ex',D⟩:=hm _ _ _ _ _ _ _ n o;refine .eptr D A C s (by rw [List.length_append];omega) (λj p m=>?_);have E:=(List.getElem?_eq_some_iff.1 m).1;rw [qce (by omega)];exact y j p m (q p (List.mem_of_getElem? m))
 | nilp=>exact .nilp
 | map=>cases k
 | func O G s F=>cases k;exact .func O G (λj p h=>by simp at h) (λj p h=>by simp at h)
 | nilf=>exact .nilf
 | yield=>cases k
 | iface=>cases k
 | nili=>exact .nili
 | agg P _ y=>
  cases k with
  | agg q=>exact .agg P λj p m=>y j p m (q p (List.mem_of_getElem? m))
 | tuple=>cases k
 | plist n A o I s F G y=>
  cases k with
  | plist q=>
   obtain ⟨C,cs2,b,f,ex',D⟩:=hm _ _ _ _ _ _ _ n o;refine .plist D A C I s (by rw [List.length_append];omega) (λj p m=>?_);have E:=(List.getElem?_eq_some_iff.1 m).1;rw [qce (by omega)];exact y j p m (q p (List.mem_of_getElem? m))
def wd0 (H:Heap) (M:Nat->Prop) (ce:TypeId->Option Nat):Wd:=
 {g:=H.get,M:=M,c:=λ_=>0,nu:=λ_=>false,n:=0,owns:=λ_=>none,eta:=λ_=>none,ce:=ce,cl:=λ_=>False,nx:=H.next,b:=H.next,lp:=λ_=>none,fl:=0}
structure Start (X:Codecs K) (sz:Nat->Nat) (C:ZC K) (H:Heap) (M:Nat->Prop):Prop where
 wf:∀ n,H.next<=n->H.get n=none
 ro:H.ro<=H.next/\H.zf=C.ng/\∀ gn o,C.gobj gn=some o->H.get gn=some o/\gn<H.next
 Mlt:∀ n,M n->n<H.next
 globs:∀ gn ps,C.zf gn=some ps->gn<H.zf/\∃ vs e fl fz ex,H.get gn=some (.row vs e 0 fl fz ex)/\gn<H.next/\Rep X sz (wd0 H M C.codec) (.eptr ps 0) (.ptr gn 0 0 vs.length)
structure Answer (X:Codecs K) (sz:Nat->Nat) (C:ZC K) (H:Heap) (M:Nat->Prop) (r:PV K) (m:Nat) (v:V) (H':Heap) (w':Wd):Prop where
 keeps:Keeps H H'
 wf:∀ n,H'.next<=n->H'.get n=none
 g:w'.g=H'.get
 M:∀ n,n<H.next->(w'.M n↔M n)
 Mlt:∀ n,w'.M n->n<H'.next
 ce:w'.ce=C.codec
 n:w'.n=m
 owns:∀ i,w'.owns i=some 0
 eta:∀ i nm,w'.eta i=some nm->H.next<=nm/\nm<H'.next/\¬ w'.M nm
 einj:∀ i j nm,w'.eta i=some nm->w'.eta j=some nm->i=j
 rep:Rep X sz w' r v
def qo9 (l:List Nat):Nat:=l.foldl (λa i=>max a (i+1)) 0
def qa2 (X:Codecs K) (sz:Nat->Nat) (C:ZC K) (f:Nat) (args:List (PV K)) (r:PV K):Prop:=
 ∀ (H:Heap) (M:Nat->Prop) (a:List V),Start X sz C H M->qj X sz (wd0 H M C.codec) args a->qc5 C.E (.func f) a H λv H'=>∃ w',Answer X sz C H M r (qo9 (qb6 r.flat)) v H' w'
end
end Go.E3
/- E3: CALLS OF FUNCTIONS WITH CONTRACTS. -/
namespace Go.E3
open Go Go.E2
variable {K:Nat->Type}
inductive Simple:PV K->Prop
 | int {k:IntKind} {l:Option Int} {n:Int}:Simple (.int k l n)
 | lit {b:Bool}:Simple (.lit b)
 | sb {neg b:Bool} {pt pf:Prop}:Simple (.sb 0 neg b pt pf)
 | str {s:List UInt8}:Simple (.str s)
 | list {c:Nat} {l:List (K c)}:Simple (.list c l none)
 | own {c:Nat} {l:List (K c)} {i:Nat}:Simple (.list c l (some (i,0)))
 | func {f:Nat}:Simple (.func f [] [])
 | nilf:Simple .nilf
 | plist {es n:Nat} {fx:Bool} {ps:List (PV K)} (h:∀ p ∈ ps,p=.nilf∨∃ f,p=.func f [] []):Simple (.plist es n fx ps)
inductive Form1:PV K->Prop
 | one {p:PV K} (h:Simple p):Form1 p
 | agg {ps:List (PV K)} (h:∀ p ∈ ps,Simple p):Form1 (.agg ps)
inductive Form:PV K->Prop
 | one {p:PV K} (h:Form1 p):Form p
 | tuple {l:List (PV K)} (h:∀ p ∈ l,Form1 p):Form (.tuple l)
def qgd:List SK->List (NV K)->Option (List (PV K)×List (NV K))
 | [],ns=>some ([],ns)
 | .int k::ks,.i n::ns=>(qgd ks ns).map λr=>(.int k none n::r.1,r.2)
 | .bool::ks,.b b::ns=>(qgd ks ns).map λr=>(.sb 0 false b (b=true) (b=false)::r.1,r.2)
 | .str::ks,.s s::ns=>(qgd ks ns).map λr=>(.str s::r.1,r.2)
 | .list _ _ _::ks,.l c l::ns=>(qgd ks ns).map λr=>(.list c l none::r.1,r.2)
 | _,_=>none
def qow:List Sh->List (NV K)->Option (List (PV K))
 | [],[]=>some []
 | .one k::a,ns=>(qgd [k] ns).bind λr=>(qow a r.2).map λl=>r.1++l
 | .agg ks::a,ns=>(qgd ks ns).bind λr=>(qow a r.2).map λl=>.agg r.1::l
 | _,_=>none
section
variable {X:Codecs K} {sz:Nat->Nat} {C:ZC K} {base H:Heap} {st:StV K} {fr:Fr} {w:Wd}
variable {tbl:Tbl K} {inv:Nat->List (NV K)->Prop} {meas:Nat->List (NV K)->Nat}
def qjh (X:Codecs K) (sz:Nat->Nat) (C:ZC K) (tbl:Tbl K):Prop:=
 ∀ f a b ns c r,tbl f=some (a,b)->b ns=some (c,r)->c->∃ args,qow a ns=some args/\qa2 X sz C f args r/\Form r
theorem qds (f:∀ c x p,p ∈ X.cells c x->Plain p) {w':Wd} (t:w'.g=w.g) (u:∀ nm x,w.g nm=some x->¬ w.M nm->¬ w'.M nm):∀ {ks:List SK} {ps:List (PV K)} {y:List V} {ns rest:List (NV K)} {r:List (PV K)×List (NV K)},
  qm4 (ql X tbl inv meas) st ks ps=some ns->qj X sz w ps y->qgd ks (ns++rest)=some r->r.2=rest/\qj X sz w' r.1 y
 | [],[],y,ns,rest,r,h,z,d=>by
  simp only [qm4,zS] at h;subst h;simp only [List.nil_append,qgd,zS] at d;subst d;rw [z.ka];exact ⟨rfl,.nil⟩
 | [],_::_,y,ns,rest,r,h,z,d=>by simp [qm4] at h
 | _::_,[],y,ns,rest,r,h,z,d=>by simp [qm4] at h
 | k::ks,p::ps,y,ns,rest,r,h,z,d=>by
  obtain ⟨v,F,rfl,r1,A⟩:=z.zt;simp only [qm4] at h;obtain ⟨a,e,G⟩:=zI.1 h;obtain ⟨H,B,I⟩:=zM.1 G;subst I;rw [List.append_assoc] at d;unfold qtw at e;split at e
  .rename_i Q J l n;split at e
   .rename_i L;subst L;cases e;cases r1;simp only [List.singleton_append,qgd] at d;obtain ⟨q,i,rfl⟩:=zM.1 d;obtain ⟨j,o⟩:=qds f t u B A i;exact ⟨j,.cons (.int λm N=>by cases N) o⟩
   .cases e
  .rename_i b;cases e;cases r1;simp only [List.singleton_append,qgd] at d;obtain ⟨q,i,rfl⟩:=zM.1 d;obtain ⟨j,o⟩:=qds f t u B A i;exact ⟨j,.cons (.sb .rfl .rfl λC=>absurd rfl C) o⟩
  .rename_i id neg b R S;cases e;cases r1;simp only [List.singleton_append,qgd] at d;obtain ⟨q,i,rfl⟩:=zM.1 d;obtain ⟨j,o⟩:=qds f t u B A i;exact ⟨j,.cons (.sb .rfl .rfl λC=>absurd rfl C) o⟩
  .rename_i s;cases e;cases r1;simp only [List.singleton_append,qgd] at d;obtain ⟨q,i,rfl⟩:=zM.1 d;obtain ⟨j,o⟩:=qds f t u B A i;exact ⟨j,.cons .str o⟩
  .rename_i T O nb;cases E:((O&&!qek st p) || (nb&&!znk p)) with
   | true=>rw [E] at e;cases e
   | false=>
    rw [E] at e;simp only [zQ] at e;obtain ⟨l,P,D⟩:=zM.1 e;subst D;simp only [List.singleton_append,qgd] at d;obtain ⟨q,i,rfl⟩:=zM.1 d;obtain ⟨j,o⟩:=qds f t u B A i;exact ⟨j,.cons ((qeb r1 P).plain f t u .list) o⟩
  .simp only [qgd] at d;cases d
  .simp only [List.singleton_append,qgd] at d;cases d
  .cases e
theorem qnd (e:∀ c x p,p ∈ X.cells c x->Plain p) {w':Wd} (n:w'.g=w.g) (o:∀ nm x,w.g nm=some x->¬ w.M nm->¬ w'.M nm):∀ {b:List Sh} {ps:List (PV K)} {f:List V} {ns:List (NV K)} {args:List (PV K)},
  qos (ql X tbl inv meas) st b ps=some ns->qj X sz w ps f->qow b ns=some args->qj X sz w' args f
 | [],[],f,ns,args,h,i,d=>by
  simp only [qos,zS] at h;subst h;simp only [qow,zS] at d;subst d;rw [i.ka];exact .nil
 | [],_::_,f,ns,args,h,i,d=>by simp [qos] at h
 | .one k::b,[],f,ns,args,h,i,d=>by simp [qos] at h
 | .agg k::b,[],f,ns,args,h,i,d=>by simp [qos] at h
 | .one k::b,p::ps,f,ns,args,h,i,d=>by
  obtain ⟨v,r,rfl,r1,s⟩:=i.zt;simp only [qos] at h;obtain ⟨a,t,u⟩:=zI.1 h;obtain ⟨y,z,A⟩:=zM.1 u;subst A;simp only [qow] at d;obtain ⟨q,B,j⟩:=zI.1 d;obtain ⟨l,m,rfl⟩:=zM.1 j;have C:qm4 (ql X tbl inv meas) st [k] [p]=some a:=by
   simp only [qm4,t,zB,zH,zJ]
  obtain ⟨D,E⟩:=qds e n o C (.cons r1 .nil) B;rw [D] at m;exact E.append (qnd e n o z s m)
 | .agg ks::b,p::ps,f,ns,args,h,i,d=>by
  obtain ⟨v,r,rfl,r1,s⟩:=i.zt;cases p with
  | agg cs=>
   simp only [qos] at h;obtain ⟨a,t,u⟩:=zI.1 h;obtain ⟨y,z,A⟩:=zM.1 u;subst A;simp only [qow] at d;obtain ⟨q,B,j⟩:=zI.1 d;obtain ⟨l,m,rfl⟩:=zM.1 j;obtain ⟨us,rfl,F⟩:=r1.qf4;obtain ⟨D,E⟩:=qds e n o t F B;rw [D] at m;exact .cons (.qt9 E) (qnd e n o z s m)
  | _=>simp [qos] at h
theorem qum:∀ (l:List Nat) (a:Nat),a<=l.foldl (λa i=>max a (i+1)) a/\∀ i ∈ l,i<l.foldl (λa i=>max a (i+1)) a
 | [],a=>⟨zN _,λi hi=>(by cases hi)⟩
 | j::l,a=>by
  obtain ⟨c,b⟩:=qum l (max a (j+1));simp only [List.foldl_cons];refine ⟨by omega,λi hi=>?_⟩;rcases zD.1 hi with rfl | hi
  .omega
  .exact b i hi
theorem zmz {l:List (Nat×Nat)} {a:List Nat} {nx j:Nat}:look (a.map (λi=>(nx+i,0))++l) j=if nx<=j/\j-nx ∈ a then some 0 else look l j:=by
 induction a with
 | nil=>simp
 | cons i a d=>
  simp only [List.map_cons,List.cons_append,look,cond_eq_ite,Nat.beq_eq,d];by_cases h:nx+i=j
  .subst h;rw [zT rfl,zT];refine ⟨by omega,?_⟩;rw [Nat.add_sub_cancel_left];exact zC
  .rw [zF h];have:(nx<=j/\j-nx ∈ i::a)↔(nx<=j/\j-nx ∈ a):=by
    constructor
    .rintro ⟨c,b⟩;rcases zD.1 b with b | b
     .omega
     .exact ⟨c,b⟩
    .rintro ⟨c,b⟩;exact ⟨c,zG _ b⟩
   simp only [this]
theorem qwl (a:∀ c x p,p ∈ X.cells c x->Plain p) {w1 w2:Wd} {nx:Nat} (d:w2.g=w1.g) (G:w2.M=w1.M) (C:w2.ce=w1.ce) (I:∀ i,i<w1.n->nx+i<w2.n) (s:∀ i,w2.eta (nx+i)=w1.eta i) (J:∀ i,w1.owns i=some 0)
  {p:PV K} {v:V} (r:Rep X sz w1 p v) (H:Simple p):Rep X sz w2 (qjl nx p) v:=by
 have b:∀ nm x,w1.g nm=some x->¬ w1.M nm->¬ w2.M nm:=λnm x _ h=>by rw [G];exact h
 cases H with
 | int=>exact r.plain a d b .int
 | lit=>exact r.plain a d b .lit
 | sb=>exact r.plain a d b .sb
 | str=>exact r.plain a d b .str
 | list=>exact r.plain a d b .list
 | func=>exact r.plain a d b .func
 | nilf=>exact r.plain a d b .nilf
 | plist h=>exact r.plain a d b (.plist λp B=>by rcases h p B with rfl | ⟨f,rfl⟩<;>constructor)
 | @own c l i=>
  have t:∀ u,qoi w1 sz c (some (i,0)) u->qoi w2 sz c (some (nx+i,0)) u:=by
   rintro u ⟨L,T,N,_⟩;refine ⟨I i L,λO _=>Nat.zero_le _,λH=>?_,λh=>by cases h⟩;have w:=N (J i);cases u with
   | nils=>trivial
   | slice nm gn off len z cap=>
    simp only [qws] at w ⊢;rcases w with w | ⟨k,P,cs,e,m,y,ex,o,D⟩
    .exact .inl w
    .exact .inr ⟨k,by rw [s];exact P,cs,e,m,y,ex,by rw [d];exact o,D.1,D.2.1,by rw [C];exact D.2.2⟩
   | _=>exact w
  simp only [qjl];rcases j3 r with ⟨rfl,rfl⟩ | ⟨nm,gn,off,z,cap,cs,e,gen,m,y,ex,rfl,o,Q,E,A,R,k,q,F⟩
  .cases r with
   | nlist h=>exact .nlist (t _ h)
  .exact .list (by rw [d];exact o) Q (by rw [G];exact E) rfl A R k (λS hi j p B=>(q S hi j p B).plain a d b (a _ _ p (List.mem_of_getElem? B))) (t _ F)
theorem qtu (b:∀ c x p,p ∈ X.cells c x->Plain p) {w1 w2:Wd} {nx:Nat} (f:w2.g=w1.g) (j:w2.M=w1.M) (d:w2.ce=w1.ce) (k:∀ i,i<w1.n->nx+i<w2.n) (a:∀ i,w2.eta (nx+i)=w1.eta i) (l:∀ i,w1.owns i=some 0) :
  ∀ {ps:List (PV K)} {e:List V},qj X sz w1 ps e->(∀ p ∈ ps,Simple p)->qj X sz w2 (ps.map (qjl nx)) e
 | [],e,r,_=>by rw [r.ka];exact .nil
 | p::ps,e,r,h=>by
  obtain ⟨v,m,rfl,r1,o⟩:=r.zt;exact .cons (qwl b f j d k a l r1 (h p zC)) (qtu b f j d k a l o λq s=>h q (zG _ s))
def q6q (nx:Nat) (p:PV K):PV K:=match p with
 | .agg cs=>.agg (cs.map (qjl nx))
 | p=>qjl nx p
theorem qy1 (b:∀ c x p,p ∈ X.cells c x->Plain p) {w1 w2:Wd} {nx:Nat} (f:w2.g=w1.g) (j:w2.M=w1.M) (d:w2.ce=w1.ce) (k:∀ i,i<w1.n->nx+i<w2.n) (a:∀ i,w2.eta (nx+i)=w1.eta i) (l:∀ i,w1.owns i=some 0)
  {p:PV K} {v:V} (r:Rep X sz w1 p v) (m:Form1 p):Rep X sz w2 (q6q nx p) v:=by
 cases m with
 | one h=>
  have e:q6q nx p=qjl nx p:=by cases h<;>rfl
  rw [e];exact qwl b f j d k a l r h
 | agg h=>
  obtain ⟨q,rfl,o⟩:=r.qf4;exact .qt9 (qtu b f j d k a l o h)
theorem zhx (b:∀ c x p,p ∈ X.cells c x->Plain p) {w1 w2:Wd} {nx:Nat} (f:w2.g=w1.g) (j:w2.M=w1.M) (d:w2.ce=w1.ce) (k:∀ i,i<w1.n->nx+i<w2.n) (a:∀ i,w2.eta (nx+i)=w1.eta i) (m:∀ i,w1.owns i=some 0)
  {p:PV K} {v:V} (r:Rep X sz w1 p v) (s:Form p):Rep X sz w2 (qj1 (qjl nx) p) v:=by
 cases s with
 | one h=>
  have e:qj1 (qjl nx) p=q6q nx p:=by
   cases h with
   | one h=>cases h<;>rfl
   | agg h=>rfl
  rw [e];exact qy1 b f j d k a m r h
 | @tuple l h=>
  obtain ⟨t,rfl,o⟩:=r.qil;have e:qj1 (qjl nx) (.tuple l)=(.tuple (l.map (q6q nx)):PV K):=by
   simp only [qj1];congr 1;exact List.map_congr_left λp _=>by cases p<;>rfl
  rw [e];refine .tuple' ?_;clear r e
  induction l generalizing t with
  | nil=>rw [o.ka];exact .nil
  | cons q l u=>
   obtain ⟨v,w,rfl,r1,y⟩:=o.zt;exact .cons (qy1 b f j d k a m r1 (h q zC)) (u (λp z=>h p (zG _ z)) _ y)
theorem qfb (d:∀ c x,(X.cells c x).length=sz c):∀ {ps:List (PV K)} {l:List V} {w:Wd},qj X sz w ps l->1<=w.n->
  ∃ nu',(∀ id,id<w.n->nu' id=w.nu id)/\w.n<=(qap ps w.n).2/\qj X sz {w with n:=(qap ps w.n).2,nu:=nu'} (qap ps w.n).1 l
 | [],l,w,r,o=>⟨w.nu,λ_ _=>rfl,zN _,by simp only [qap];exact r⟩
 | p::ps,l,w,r,o=>by
  obtain ⟨v,A,rfl,r1,q⟩:=r.zt;by_cases t:∃ neg b h i,p=.sb 0 neg b h i
  .obtain ⟨neg,b,h,i,rfl⟩:=t;cases r1 with | sb B C F=>
   have s:Le w {w with n:=w.n+1,nu:=λid=>if id=w.n then (b != neg) else w.nu id}:=Le.ext (Nat.le_succ _) (λid hi=>by rw [zF (by omega)]);obtain ⟨nu',g1,a,f⟩:=qfb d (q.mono d s) (by show 1<=w.n+1;omega);simp only at g1 a f;have e:qap (.sb 0 neg b h i::ps) w.n=(.sb w.n neg b h i::(qap ps (w.n+1)).1,(qap ps (w.n+1)).2):=by simp only [qap]
   rw [e];refine ⟨nu',λid hi=>?_,zR (Nat.le_succ _) a,.cons (.sb B C λG=>⟨a,?_⟩) f⟩
   .rw [g1 id (by omega),zF (by omega)]
   .show b=(nu' w.n != neg);rw [g1 w.n (by omega),zT rfl];cases b<;>cases neg<;>rfl
  .by_cases u:∃ cs,p=.agg cs
   .obtain ⟨cs,rfl⟩:=u;obtain ⟨us,rfl,D⟩:=r1.qf4;obtain ⟨g,y,z,E⟩:=qhc d D o;have j:Le w {w with n:=(qbk cs w.n).2,nu:=g}:=Le.ext z y;obtain ⟨nu',g1,a,f⟩:=qfb d (q.mono d j) (by show 1<=(qbk cs w.n).2;omega);simp only at g1 a f;have e:qap (.agg cs::ps) w.n=(.agg (qbk cs w.n).1::(qap ps (qbk cs w.n).2).1,(qap ps (qbk cs w.n).2).2):=by simp only [qap]
    rw [e];have k:Le {w with n:=(qbk cs w.n).2,nu:=g} {w with n:=(qap ps (qbk cs w.n).2).2,nu:=nu'}:=Le.ext (w:={w with n:=(qbk cs w.n).2,nu:=g}) a g1;exact ⟨nu',λid hi=>(g1 id (by omega)).trans (y id hi),zR z a,.cons (.qt9 (E.mono d k)) f⟩
   .obtain ⟨nu',g1,a,f⟩:=qfb d q o;have e:qap (p::ps) w.n=(p::(qap ps w.n).1,(qap ps w.n).2):=by
     cases p with
     | sb id neg b h i=>
      cases id with
      | zero=>exact absurd ⟨_,_,_,_,rfl⟩ t
      | succ m=>simp only [qap]
     | agg cs=>exact absurd ⟨_,rfl⟩ u
     | _=>simp only [qap]
    rw [e];exact ⟨nu',g1,a,.cons (r1.mono d (Le.ext a g1)) f⟩
end
section
variable {X:Codecs K} {sz:Nat->Nat} {C:ZC K} {base H:Heap} {st:StV K} {fr:Fr} {w:Wd}
variable {tbl:Tbl K} {inv:Nat->List (NV K)->Prop} {meas:Nat->List (NV K)->Nat}
theorem zu {α:Type} {c:Bool} {x y:Option α} {r:α} (h:(bif c then x else y)=some r):(c=false/\y=some r)∨(c=true/\x=some r):=by
 cases c with
 | false=>exact .inl ⟨rfl,h⟩
 | true=>exact .inr ⟨rfl,h⟩
theorem zsi (ok:CfgOk X sz C) (R:RelH X sz C base st H w) {c:Bool×Prop×Prop} (b:qji c):∃ w',RelH X sz C base (q9k st c).2 H w'/\Le w w'/\Rep X sz w' (q9k st c).1 (.bool c.1):=by
 obtain ⟨a,d⟩:=R.ext ok (m:=st.next+1) (nu':=λid=>if id=st.next then c.1 else w.nu id) (Nat.le_succ _) (λid hi=>by rw [zF (by omega)]);refine ⟨_,d,a,.sb b.1 b.2 λe=>⟨Nat.lt_succ_self _,?_⟩⟩;simp
theorem qwh {a b:Leaf} (h:qts a b=true):a=b:=by
 cases a<;>cases b<;>first | rfl | (simp only [qts,decide_eq_true_eq] at h;rw [h]) | (cases h)
theorem qwf {p:PV K} {k:IntKind} {n:Int} (r:Rep X sz w p (.int k n)):∃ l,p=.int k l n:=by cases r;exact ⟨_,rfl⟩
theorem qwg {p:PV K} {s:List UInt8} (r:Rep X sz w p (.str s)):p=.str s:=by cases r;rfl
theorem zmp {j:TI} {g:Leaf} {a b:V} {p q:PV K} (m:qly j=some g) (d:k8 [g] [a]) (e:k8 [g] [b]) (h:Rep X sz w p a) (i:Rep X sz w q b):qlg j.under a b=some (qhi [p] [q]):=by
 have n:∀ x:Bool,(x&&qhi ([]:List (PV K)) [])=x:=λx=>by simp [qhi]
 unfold qly at m;rcases (zu m).symm with ⟨_,c⟩ | ⟨_,c⟩
 .cases c
 .split at c
  .rename_i k f;cases c;cases a<;>(try (simp only [k8] at d;done))<;>cases b<;>(try (simp only [k8] at e;done));simp only [k8,and_true] at d e;subst d;subst e;obtain ⟨l,rfl⟩:=qwf h;obtain ⟨o,rfl⟩:=qwf i;simp [qlg,f,qhi]
  .rename_i f;cases c;cases a<;>(try (simp only [k8] at d;done))<;>cases b<;>(try (simp only [k8] at e;done));have:=qwg h;subst this;have:=qwg i;subst this;simp [qlg,f,qhi]
  .rename_i f;cases c;cases a<;>(try (simp only [k8] at d;done))<;>cases b<;>(try (simp only [k8] at e;done));rcases h.bool with rfl | ⟨_,_,_,_,rfl,_⟩<;>rcases i.bool with rfl | ⟨_,_,_,_,rfl,_⟩<;>simp [qlg,f,qhi]
  .cases c
theorem q96 {ps:List (PV K)} {v:V} (r:qj X sz w ps [v]):∃ p,ps=[p]/\Rep X sz w p v:=by
 cases ps with
 | nil=>have:=r.1;simp at this
 | cons p ps=>
  obtain ⟨d,a,b,r1,c⟩:=r.zt;cases b;cases ps with
  | nil=>exact ⟨p,rfl,r1⟩
  | cons _ _=>have:=c.1;simp at this
def zp3 (X:Codecs K) (sz:Nat->Nat) (w:Wd) (c:Nat) (a:Leaf) (b:Bool) (l:List (K c)) (es:List (V×V×Nat)):Prop:=
 es.length=l.length/\∀ (i:Nat) (x:K c) (e:V×V×Nat),l[i]? = some x->es[i]? = some e->zj5 X sz w c a b x e
theorem qgt {k:TI} {c:Nat} {g:Leaf} {u:Bool} (z:qly k=some g) {a:V} {y:K c} (A:qj X sz w ((X.cells c y).take 1) [a]) (B:k8 [g] [a]):∀ (l:List (K c)) (b:List (V×V×Nat)) (i0:Nat),zp3 X sz w c g u l b->
  (qo3 k.under a b i0=some none/\qrr X c 1 l y=false/\q1s X c 1 l y=y/\q0e X c 1 l y=l++[y])∨
  ∃ (j:Nat) (x:K c) (e:V×V×Nat),qo3 k.under a b i0=some (some (i0+j,e.2.1))/\l[j]? = some x/\b[j]? = some e/\qrr X c 1 l y=true/\q1s X c 1 l y=x/\q0e X c 1 l y=l.set j y
 | [],b,i0,h=>by
  have:b=[]:=List.eq_nil_of_length_eq_zero h.1;subst this;exact .inl ⟨rfl,rfl,rfl,rfl⟩
 | x::l,[],i0,h=>by have:=h.1;simp at this
 | x::l,(C,v,s)::b,i0,h=>by
  obtain ⟨D,E,Q,R⟩:=h.2 0 x (C,v,s) rfl rfl;obtain ⟨p,F,G⟩:=q96 A;obtain ⟨q,H,I⟩:=q96 D;have J:=zmp z B E G I;have d:zcd X c 1 y x=qhi [p] [q]:=by rw [zcd,F,H]
  simp only [qo3];rw [J];cases f:qhi [p] [q] with
  | true=>
   refine .inr ⟨0,x,(C,v,s),rfl,rfl,rfl,?_,?_,?_⟩
   .simp [qrr,d,f]
   .simp [q1s,d,f]
   .simp [q0e,d,f]
  | false=>
   have L:zp3 X sz w c g u l b:=⟨by simpa using h.1,λi m e M N=>h.2 (i+1) m e (by simpa using M) (by simpa using N)⟩;rcases qgt z A B l b (i0+1) L with ⟨n,o,r,t⟩ | ⟨j,m,e,n,o,r,t,O,P⟩
   .refine .inl ⟨n,?_,?_,?_⟩
    .simp only [qrr,List.any_cons,d,f,Bool.false_or];exact o
    .simp only [q1s,d,f,zQ];exact r
    .simp only [q0e,d,f,zQ,t,List.cons_append]
   .refine .inr ⟨j+1,m,e,by rw [n];simp only [zS,zP,and_true];omega,by simpa using o,by simpa using r,?_,?_,?_⟩
    .simp only [qrr,List.any_cons,d,f,Bool.false_or];exact t
    .simp only [q1s,d,f,zQ];exact O
    .simp only [q0e,d,f,zQ,P,List.set_cons_succ]
theorem zk5 {p:PV K} {v:V} (r:Rep X sz w p v):zbq v=zuz p:=by cases r<;>rfl
theorem q3h {t:TypeId} {id:Nat} {key:PV K} {a:MapC (λc=>List (K c))} {b:TI} (h:zfp C st t id key=some (a,b)) :
  ∃ ti d f g,C.E.types t=some ti/\ti.under=.map d f/\C.E.types d=some g/\C.E.types f=some b/\qly g=some a.lf/\look st.cells id=some (.mp a.c a.lf a.va a.l)/\a.va=b.isAgg/\zbq b.zero=b.isAgg/\tiled [a.lf] [key]=true:=by
 unfold zfp at h;obtain ⟨ti,j,k⟩:=zI.1 h;split at k
 .rename_i d f s;obtain ⟨g,n,u⟩:=zI.1 k;obtain ⟨v,o,w⟩:=zI.1 u;obtain ⟨F,p,x⟩:=zI.1 w;obtain ⟨m,i,y⟩:=zI.1 x;rcases zu y with ⟨_,q⟩ | ⟨r,q⟩
  .cases q
  .cases q;simp only [zA,beq_iff_eq] at r;obtain ⟨⟨⟨z,A⟩,B⟩,D⟩:=r;have:=qwh z;subst this;refine ⟨ti,d,f,g,j,s,n,o,p,?_,A,B,D⟩;unfold q52 at i;split at i
   .rename_i e;cases i;exact e
   .cases i
 .cases k
theorem qnh {E:Env} {c:TypeId} {b:TI} {d:Leaf} (h:qly b=some d) {k:V} {es:List (V×V×Nat)}:qku E c b.under k es=qo3 b.under k es 0:=by
 unfold qly at h;rcases (zu h).symm with ⟨_,a⟩ | ⟨_,a⟩
 .cases a
 .unfold qku;split at a<;>first | (rename_i e;rw [e];rfl) | (cases a)
theorem q3i (R:RelH X sz C base st H w) {id c:Nat} {e:Leaf} {f:Bool} {l:List (K c)} (h:look st.cells id=some (.mp c e f l)):w.cl id/\id<st.next/\w.c id<H.next/\base.next<=w.c id/\∃ d a,H.get (w.c id)=some (.map d a)/\zp3 X sz w c e f l d:=by
 obtain ⟨b,_,d,a,g,i,j⟩:=R.cells id _ h;obtain ⟨k,m,n⟩:=R.cl id b;exact ⟨b,k,m,n,d,a,g,i,j⟩
theorem qq1 (ok:CfgOk X sz C) (R:RelH X sz C base st H w) {t:TypeId} {d:Bool} {m key:PV K} {S f:V} {k:PV K->StV K->Prop} (rm:Rep X sz w m S) (rk:Rep X sz w key f) (h:qxc (ql X tbl inv meas) C t d m key st k) :
  ∃ id p g v w',m=.map id/\S=.map (w.c id)/\w.c id<H.next/\w.cl id/\f.nm=[]/\k p g/\Near st g/\RelH X sz C base g H w'/\Le w w'/\Rep X sz w' p v/\
   ∀ (o:Oper) (s y:Operand) (b:Fr) (H1:Heap),o.op=.lookup t s y d->opd b H1 s=some S->opd b H1 y=some f->H1.get (w.c id)=H.get (w.c id)->kc C.E o b H1=some (.val v,H1):=by
 unfold qxc at h;split at h
 .rename_i id;obtain ⟨⟨a,T⟩,hm,h1⟩:=qa h;obtain ⟨z,hz,h2⟩:=qa h1;obtain ⟨r,hr,A,h3⟩:=qa h2;obtain ⟨ti,kt,et,ki,Y,hu,Z,a6,B,a7,a8,aa,ab⟩:=q3h hm;obtain ⟨D,aq,F,ad,es,ae,hg,G⟩:=q3i R a7;have af:S=.map (w.c id):=by cases rm;rfl
  subst af;have ag:=qiv (X:=X) (sz:=sz) (w:=w) hz;have ry:=ok.pack a.c _ r.1 r.2 hr A w (f::T.zero.cells) (.cons rk ag);have ah:qj X sz w ((X.cells a.c r.2).take 1) [f]:=ry.take 1;have ai:qj X sz w ((X.cells a.c r.2).drop 1) T.zero.cells:=ry.drop 1;have I:=qg1 (.cons rk .nil) ab;obtain ⟨v,cs,U,J,L⟩:∃ v cs,(qj X sz w cs v.cells/\zbq v=a.va)/\cs=(X.cells a.c (q1s X a.c 1 a.l r.2)).drop 1/\∃ n,qrr X a.c 1 a.l r.2=n/\
    ∃ W,qo3 ki.under f es 0=some W/\((W=none/\n=false/\v=T.zero)∨∃ i,W=some (i,v)/\n=true):=by
   rcases qgt B ah I a.l es 0 G with ⟨a1,a2,a3,_⟩ | ⟨j,x,e,a1,a2,a3,a4,a5,_⟩
   .exact ⟨T.zero,_,⟨by rw [a3];exact ai,by rw [aa,a8]⟩,rfl,false,a2,none,a1,.inl ⟨rfl,rfl,rfl⟩⟩
   .obtain ⟨_,_,b3,b4⟩:=G.2 j x e a2 a3;exact ⟨e.2.1,_,⟨by rw [a5];exact b3,b4⟩,rfl,true,a4,_,a1,.inr ⟨_,rfl,rfl⟩⟩
  subst J;obtain ⟨n,aj,W,ak,q⟩:=L;obtain ⟨pv,al,h4⟩:=qa h3;have an:Rep X sz w pv v:=by
   rcases (zu al).symm with ⟨ha,h5⟩ | ⟨ha,h5⟩
   .cases v<;>first | (simp [zbq,ha] at U;done) | skip
    cases h5;exact .qt9 U.1
   .rcases (zu h5).symm with ⟨hb,h6⟩ | ⟨_,h6⟩
    .have:v.cells=[v]:=by cases v<;>first | rfl | (simp [zbq,ha] at U;done)
     obtain ⟨u,M,ao⟩:=U.1.get h6;rw [this] at M;cases M;exact ao
    .cases h6
  obtain ⟨w1,n1,R1,N,r1⟩:=qjt ok R an;have O:∀ (o:Oper) (s y:Operand) (b:Fr) (H1:Heap),o.op=.lookup t s y d->opd b H1 s=some (.map (w.c id))->opd b H1 y=some f->H1.get (w.c id)=H.get (w.c id)->kc C.E o b H1=some (.val (if d then .tuple [v,.bool n] else v),H1):=by
   intro o s y b H1 ho e1 e2 e3;simp only [kc,ho,Y,e1,e2,zB,hu,Z,a6,e3,hg,qnh B,ak,zH];rcases q with ⟨rfl,rfl,rfl⟩ | ⟨i,rfl,rfl⟩<;>rfl
  have P:f.nm=[]:=by
   cases f<;>first | rfl | (exfalso;revert I;cases a.lf<;>simp [k8])
  cases d with
  | false=>exact ⟨id,_,_,v,w1,rfl,rfl,F,D,P,h4,n1,R1,N,r1,O⟩
  | true=>
   obtain ⟨w2,R2,Q,r2⟩:=zsi ok R1 (c:=(qrr X a.c 1 a.l r.2,qrr X a.c 1 a.l r.2=true,qrr X a.c 1 a.l r.2=false)) ⟨.rfl,.rfl⟩;have r2:Rep X sz w2 (q9k (qeg pv st).2 (qrr X a.c 1 a.l r.2,qrr X a.c 1 a.l r.2=true,qrr X a.c 1 a.l r.2=false)).1 (.bool n):=by
    rw [<-aj];exact r2
   exact ⟨id,_,_,.tuple [v,.bool n],w2,rfl,rfl,F,D,P,h4,n1.trans ⟨rfl,rfl,rfl,rfl⟩,R2,N.trans Q,.tuple' (.cons (r1.mono ok.len Q) (.cons r2 .nil)),O⟩
 .exact absurd h id
theorem qmd (ok:CfgOk X sz C) (R:RelH X sz C base st H w) {t:TypeId} {m key x:PV K} {W B D:V} {k:PV K->StV K->Prop} (rm:Rep X sz w m W) (rk:Rep X sz w key B) (rx:Rep X sz w x D) (h:qs9 (ql X tbl inv meas) C t m key x st k) :
  ∃ id q row w',m=.map id/\W=.map (w.c id)/\w.c id<H.next/\base.next<=w.c id/\w.cl id/\(look st.cells id).isSome=true/\k qmo q/\q.tmps=st.tmps/\q.n=st.n/\RelH X sz C base q (H.put (w.c id) row) w'/\Le w w'/\(∀ j,(look q.cells j).isSome=(look st.cells j).isSome)/\
   ∀ (o:Oper) (Y Z xo:Operand) (u:Fr) (H1:Heap),(o.op=.mapUpdate t Y Z xo∨o.op=.insert t Y Z xo)->opd u H1 Y=some W->opd u H1 Z=some B->opd u H1 xo=some D->H1.get (w.c id)=H.get (w.c id)->H1.ro<=w.c id->
    kc C.E o u H1=some (.skip,H1.put (w.c id) row):=by
 unfold qs9 at h;split at h
 .rename_i id;obtain ⟨⟨d,ei⟩,hm,h1⟩:=qa h;obtain ⟨ti,kt,et,ki,N,hu,O,ag,I,F,ah,ai,a7⟩:=q3h hm;obtain ⟨a8,aj,aa,v,J,a,hg,p⟩:=q3i R F;have ab:W=.map (w.c id):=by cases rm;rfl
  subst ab;cases hb:((zuz x == d.va)&&Nat.beq x.cellsOf.length ei.size&&x.cellsOf.all jn) with
  | false=>simp only [hb,zQ] at h1;exact h1.elim
  | true=>
   simp only [hb,zO] at h1;obtain ⟨r,hr,P,h3⟩:=qa h1;simp only [zA,beq_iff_eq] at hb;have ry:=ok.pack d.c _ r.1 r.2 hr P w (B::D.cells) (.cons rk rx.cells);have Q:qj X sz w ((X.cells d.c r.2).take 1) [B]:=ry.take 1;have ad:qj X sz w ((X.cells d.c r.2).drop 1) D.cells:=ry.drop 1;have S:=qg1 (.cons rk .nil) a7;have G:∀ s,zj5 X sz w d.c d.lf d.va r.2 (B,D,s):=λs=>⟨Q,S,ad,by rw [zk5 rx];exact hb.1.1⟩;have ak:H.ro<=w.c id:=by rw [R.keeps.ro];exact zR R.rob.1 v
   obtain ⟨y,b,z,A⟩:∃ y b,zp3 X sz w d.c d.lf d.va (q0e X d.c 1 d.l r.2) y/\
     ∀ H1:Heap,H1.ro<=w.c id->(qo3 ki.under B J 0).bind (λr=>match r with
      | some (i,_)=>(H1.upd (w.c id) (.map (J.modify i λe=>(B,D,e.2.2)) a)).map λH'=>(Out.skip,H')
      | none=>(H1.upd (w.c id) (.map (J++[(B,D,a)]) (a+1))).map λH'=>(Out.skip,H'))=some (.skip,H1.put (w.c id) (.map y b)):=by
    rcases qgt I Q S d.l J 0 p with ⟨a1,_,_,a4⟩ | ⟨j,x',e,a1,a2,a3,_,_,a6⟩
    .refine ⟨J++[(B,D,a)],a+1,?_,λH1 L=>by rw [a1];simp only [zB,qb3 L,zH]⟩;rw [a4];refine ⟨by simp [p.1],λi x e f g=>?_⟩;rw [List.getElem?_append] at f g;rw [p.1] at g;split at f
     .rename_i hi;rw [zT hi] at g;exact p.2 i x e f g
     .rename_i hi;rw [zF hi] at g;rw [List.getElem?_singleton] at f g;split at f
      .rename_i h0;rw [zT h0] at g;cases f;cases g;exact G a
      .cases f
    .refine ⟨J.modify j (λe=>(B,D,e.2.2)),a,?_,λH1 L=>by rw [a1];simp only [zB,Nat.zero_add,qb3 L,zH]⟩;rw [a6];refine ⟨by simp [p.1],λi x T f g=>?_⟩;rw [List.getElem?_set] at f;rw [List.getElem?_modify] at g;by_cases M:j=i
     .subst M;rw [zT rfl] at f;rw [a3] at g;split at f
      .cases f;simp at g;subst g;exact G _
      .cases f
     .rw [zF M] at f;simp only [zF M] at g;have ae:J[i]? = some T:=by simpa using g
      exact p.2 i x T f ae
   obtain ⟨w',R',af⟩:=qih ok R (ct':=.mp d.c d.lf d.va (q0e X d.c 1 d.l r.2)) (o:=.map y b) F (λ_ _ _ _ _ _ h=>by rw [hg] at h;cases h) ⟨y,b,rfl,z.1,z.2⟩;refine ⟨id,_,_,w',rfl,rfl,aa,v,a8,by rw [F];rfl,h3,rfl,rfl,R',af,λj=>qu6 F j,λo Y Z xo u H1 U T e2 e3 e4 e5=>?_⟩;rcases U with U | U
   .simp only [kc,U,N,T,e2,e3,zB,hu,O,e4,hg,qnh I];exact A H1 e5
   .simp only [kc,U,N,T,e2,e3,zB,hu,O,e4,hg,qnh I];exact A H1 e5
 .exact absurd h id
end
end Go.E3
/- E3: CALLS as operations. -/
namespace Go.E3
open Go Go.E2
variable {K:Nat->Type}
structure CfgOk2 (X:Codecs K) (C:ZC K):Prop where
 plain:∀ c x p,p ∈ X.cells c x->Plain p
 zf:∀ gn ps,C.zf gn=some ps->∀ p ∈ ps,Plain p
section
variable {X:Codecs K} {sz:Nat->Nat} {C:ZC K} {base H:Heap} {st:StV K} {fr:Fr} {w:Wd}
variable {tbl:Tbl K} {inv:Nat->List (NV K)->Prop} {meas:Nat->List (NV K)->Nat}
theorem Near.qeg (p:PV K) (st:StV K):Near st (qeg p st).2/\(qeg p st).2.known=st.known:=by
 unfold Go.E3.qeg
 split<;>exact ⟨⟨rfl,rfl,rfl,rfl⟩,rfl⟩
theorem qoz (ok:CfgOk X sz C) (ok2:CfgOk2 X C) (R:RelH X sz C base st H w) {r:PV K} (form:Form r) {H1 H' J:Heap} (a6:H1.next=H.next) {v:V} {w':Wd} (a:Answer X sz C H1 w.M r (qo9 (qb6 r.flat)) v H' w')
  (hold:∀ n,n<H.next->J.get n=H.get n) (o:∀ n x,H'.get n=some x->J.get n=some x) (z:∀ n,H.next<=n->J.get n=H'.get n) (A:J.next=H'.next) (a7:J.ro=H.ro) (a8:J.zf=H.zf) :
  ∃ O,(qdf st r).2.tmps=st.tmps/\(qdf st r).2.n=st.n/\RelH X sz C base (qdf st r).2 J O/\Le w O/\Rep X sz O (qdf st r).1 v:=by
 let B:=qb6 r.flat
 let m:=qo9 B;have S:∀ i ∈ B,i<m:=(qum B 0).2;let st1:StV K:={st with next:=st.next+m,owns:=B.map (λi=>(st.next+i,0))++st.owns};let w1:Wd:={g:=J.get,M:=w'.M,c:=w.c,nu:=w.nu,n:=st.next+m,owns:=look st1.owns,eta:=λj=>if j<st.next then w.eta j else w'.eta (j-st.next),ce:=w.ce,cl:=w.cl,nx:=J.next,b:=w.b,lp:=w.lp,fl:=w.fl};have T:Le w' {w' with g:=J.get}:=by
  refine ⟨⟨zN _,λnm cs e gen P Q ex h hM=>⟨hM,[],gen,Q,ex,?_⟩,λ_ _=>rfl,λ_ _=>rfl,λ_ _ h=>h,λi s U _ h W=>?_,λi s _ _ _=>⟨rfl,λnm k _=>?_⟩,rfl,λ_ _=>.rfl,zN _,rfl,λ_ _ h=>h,λ_ _=>rfl,λid _ _ cs e gen fl fz ex h=>⟨_,_,_,_,_,o _ _ (by rw [<-a.g];exact h),zN _,λ_=>rfl⟩⟩,λm y=>?_,rfl⟩
  .rw [zJ];rw [a.g] at h;exact o _ _ h
  .rw [h] at W;cases W;exact zN _
  .have:=(a.eta i nm k).1;rw [a.g];exact z nm (by omega)
  .rw [a.g] at y;exact o _ _ y
 have Y:∀ nm x,H.get nm=some x->nm<H.next:=by
  intro nm x h;by_cases G:nm<H.next
  .exact G
  .rw [R.wf nm (by omega)] at h;cases h
 have I:∀ nm,nm<H.next->(w'.M nm↔w.M nm):=λnm h=>a.M nm (by rw [a6];exact h)
 have D:∀ j,look st1.owns j=if st.next<=j/\j-st.next ∈ B then some 0 else look st.owns j:=λj=>zmz
 have d:∀ j,j<st.next->look st1.owns j=look st.owns j:=by
  intro j Z;rw [D,zF];omega
 have L:Le w w1:=by
  refine ⟨⟨by rw [R.n];exact Nat.le_add_right _ _,λnm cs e gen P Q ex h hM=>?_,λ_ _=>rfl,λ_ _=>rfl,λi hi h=>?_,λi s U hi h W=>?_,λi s hi h W=>?_,rfl,λ_ _=>.rfl,?_,rfl,λn k y=>(I n (by rw [R.b] at k;have:=R.keeps.next;omega)).2 y,λ_ _=>rfl,qni λid hi hc=>by rw [R.g];exact hold _ (R.cl id hc).2.1⟩,λm y=>by rw [R.g] at y;show J.get m=_;rw [hold m (Y m _ y)];exact y,rfl⟩
  .rw [R.g] at h;have G:=Y nm _ h;exact ⟨λy=>hM ((I nm G).1 y),[],gen,Q,ex,by rw [zJ];show J.get nm=_;rw [hold nm G];exact h⟩
  .rw [R.owns] at h;show look st1.owns i=none;rw [d i (by rw [<-R.n];exact hi)];exact h
  .rw [R.owns] at h;have a1:look st1.owns i=some U:=W;rw [d i (by rw [<-R.n];exact hi),h] at a1;cases a1;exact zN _
  .have aa:i<st.next:=by rw [<-R.n];exact hi
   rw [R.owns] at h;refine ⟨zT aa,λnm k _=>?_⟩;show J.get nm=w.g nm;rw [hold nm (R.eta i s nm h k).2.1,R.g]
  .rw [R.nx];show H.next<=J.next
   rw [A];have:=a.keeps.next
   omega
 have f:H.next<=J.next:=by rw [A];have:=a.keeps.next;omega
 have hk:Keeps H J:=⟨f,a7,a8,hold⟩;have q:∀ j s nm,look st1.owns j=some s->w1.eta j=some nm->(j<st.next/\look st.owns j=some s/\w.eta j=some nm/\nm<H.next)∨(st.next<=j/\w'.eta (j-st.next)=some nm/\H.next<=nm):=by
  intro j s nm h k;by_cases Z:j<st.next
  .left;have E:w.eta j=some nm:=by
    have:w1.eta j=w.eta j:=zT Z;rw [<-this];exact k
   rw [d j Z] at h;exact ⟨Z,h,E,(R.eta j s nm h E).2.1⟩
  .right;have E:w'.eta (j-st.next)=some nm:=by
    have:w1.eta j=w'.eta (j-st.next):=zF Z;rw [<-this];exact k
   have:=(a.eta _ nm E).1;exact ⟨by omega,E,by omega⟩
 have R1:RelH X sz C base st1 J w1:=by
  refine ⟨λn k=>?_,R.rob,rfl,rfl,R.b,λn k=>?_,rfl,zR R.one (Nat.le_add_right _ _),R.keeps.trans hk,λid h=>?_,R.cinj,λid ps h=>?_,λ_=>rfl,λi s h=>?_,λi s nm h k=>?_,λi j s U nm h1 h2 e1 e2=>?_,R.ce,λid b h=>?_,λgn ps h=>?_⟩
  .rw [z n (zR f k)];exact a.wf n (by rw [<-A];exact k)
  .rw [A];exact a.Mlt n k
  .obtain ⟨u,t,N⟩:=R.cl id h;exact ⟨zL u (Nat.le_add_right _ _),zL t f,N⟩
  .obtain ⟨u,t,q5⟩:=R.cells id ps h;refine ⟨u,(I _ (R.cl id u).2.1).2 t,?_⟩;show qbu X sz w1 id _ (J.get (w.c id));rw [hold _ (R.cl id u).2.1];exact q5.mono ok.len L (by rw [R.n];exact (R.cl id u).1)
  .rw [D] at h;split at h
   .rename_i hc;have:=S _ hc.2;show i<st.next+m
    omega
   .exact zL (R.ownn i s h) (Nat.le_add_right _ _)
  .rcases q i s nm h k with ⟨u,t,N,q4⟩ | ⟨u,t,N⟩
   .obtain ⟨b1,b2,b3⟩:=R.eta i s nm t N;exact ⟨b1,zL b2 f,λy=>b3 ((I nm b2).1 y)⟩
   .obtain ⟨b1,b2,b3⟩:=a.eta _ nm t;have:=R.keeps.next
    exact ⟨by omega,by rw [A];exact b2,b3⟩
  .rcases q i s nm h1 e1 with ⟨u,t,N,q4⟩ | ⟨u,t,N⟩<;>rcases q j U nm h2 e2 with ⟨p1,p2,p3,p4⟩ | ⟨p1,p2,p3⟩
   .exact R.einj i j s U nm t p2 N p3
   .omega
   .omega
   .have:=a.einj _ _ nm t p2;omega
  .obtain ⟨q0,u,t⟩:=R.known id b h;exact ⟨q0,zL u (Nat.le_add_right _ _),t⟩
  .obtain ⟨q0,ab,e',fl,fz,ex',u,t,N⟩:=R.globs gn ps h;exact ⟨q0,ab,e',fl,fz,ex',u,t,N.mono ok.len L⟩
 have r1:Rep X sz w1 (qj1 (qjl st.next) r) v:=by
  refine zhx (w1:={w' with g:=J.get}) (w2:=w1) (nx:=st.next) ok2.plain rfl rfl ?_ ?_ ?_ a.owns (a.rep.mono ok.len T) form
  .show w.ce=w'.ce;rw [R.ce,a.ce]
  .intro i hi;have hi:i<w'.n:=hi;rw [a.n] at hi;show st.next+i<st.next+m
   have:i<m:=hi;omega
  .intro i;show (if st.next+i<st.next then w.eta (st.next+i) else w'.eta (st.next+i-st.next))=w'.eta i;rw [zF (by omega),Nat.add_sub_cancel_left]
 have ad:qdf st r=(match qj1 (qjl st.next) r with
   | .tuple l=>(.tuple (qap l st1.next).1,{st1 with next:=(qap l st1.next).2})
   | p=>qeg p st1):=by
  unfold qdf;simp only;cases qj1 (qjl st.next) r<;>rfl
 rw [ad];cases hq:qj1 (qjl st.next) r with
 | tuple l=>
  rw [hq] at r1;obtain ⟨vs,rfl,rl⟩:=r1.qil;obtain ⟨nu',g1,g2,g3⟩:=qfb ok.len rl R1.one;obtain ⟨F,R2⟩:=R1.ext ok g2 g1;exact ⟨_,rfl,rfl,R2,L.trans F,.tuple' g3⟩
 | _=>
  rw [hq] at r1;obtain ⟨w2,k,R2,F,r2⟩:=qjt ok R1 r1;exact ⟨w2,k.tmps,k.n,R2,L.trans F,r2⟩
def zzk (w:Wd):Tgt->Tgt
 | .func f=>.func f
 | .round id=>.round (w.c id)
def qoe (X:Codecs K) (sz:Nat->Nat) (C:ZC K) (inl:ZI K):Prop:=
 ∀ t args (st:StV K) k,inl t args st k->∀ base H w b,RelH X sz C base st H w->qj X sz w args b->
  qc5 C.E (zzk w t) b H λv H'=>∃ p a w',k p a/\a.tmps=st.tmps/\a.n=st.n/\RelH X sz C base a H' w'/\Le w w'/\Rep X sz w' p v
structure Cut (X:Codecs K) (sz:Nat->Nat) (C:ZC K) (base H H1:Heap) (w:Wd):Prop where
 sub:∀ n x,H1.get n=some x->H.get n=some x
 old:∀ n,n<base.next->H1.get n=H.get n
 nx:H1.next=H.next
 gl:H1.zf=H.zf
 ro:H1.ro<=H1.next
 gs:∀ gn ps vs e fl fz ex,C.zf gn=some ps->base.get gn=some (.row vs e 0 fl fz ex)->gn<base.next->Rep X sz {w with g:=H1.get} (.eptr ps 0) (.ptr gn 0 0 vs.length)
theorem Cut.same (R:RelH X sz C base st H w) {H1:Heap} (a:∀ n,H1.get n=H.get n) (b:H1.next=H.next) (c:H1.zf=H.zf) (d:H1.ro<=H1.next):Cut X sz C base H H1 w:=by
 have i:({w with g:=H1.get}:Wd)=w:=by
  have:H1.get=w.g:=by rw [R.g];exact funext a
  rw [this]
 refine ⟨λn x h=>by rw [<-a];exact h,λn _=>a n,b,c,d,λgn ps p e fl fz ex h j _=>?_⟩;obtain ⟨_,k,q,l,m,ex',f,r,o⟩:=R.globs gn ps h;rw [j] at f;cases f;rw [i];exact o
theorem Cut.start (ok2:CfgOk2 X C) (R:RelH X sz C base st H w) {H1:Heap} (cut:Cut X sz C base H H1 w):Start X sz C H1 w.M:=by
 refine ⟨λn e=>?_,⟨cut.ro,by rw [cut.gl,R.keeps.zf];exact R.rob.2.1,λgn o c=>⟨by rw [cut.old gn (R.rob.2.2 gn o c).2,R.keeps.old gn (R.rob.2.2 gn o c).2];exact (R.rob.2.2 gn o c).1,by rw [cut.nx];exact zL (R.rob.2.2 gn o c).2 R.keeps.next⟩⟩,λn e=>?_,λgn ps a=>?_⟩
 .cases h:H1.get n with
  | none=>rfl
  | some x=>have:=cut.sub n x h;rw [R.wf n (by rw [<-cut.nx];exact e)] at this;cases this
 .rw [cut.nx];exact R.Mlt n e
 .obtain ⟨j,b,f,fl,fz,ex',i,d,k⟩:=R.globs gn ps a;refine ⟨by rw [cut.gl,R.keeps.zf];exact j,b,f,fl,fz,ex',by rw [cut.old gn d,R.keeps.old gn d];exact i,by rw [cut.nx];exact zL d R.keeps.next,?_⟩;exact Rep.plain (w:={w with g:=H1.get}) (w':=wd0 H1 w.M C.codec) ok2.plain rfl (λ_ _ _ h=>h) (cut.gs gn ps b f fl fz ex' a i d) (.eptr (ok2.zf gn ps a))
theorem q22 (ok2:CfgOk2 X C) (tok:qjh X sz C tbl) (R:RelH X sz C base st H w) {g:Nat} {args:List (PV K)} {b:List V} {pre:Prop} {r:PV K} {H1:Heap} (cut:Cut X sz C base H H1 w) (f:qj X sz {w with g:=H1.get} args b)
  (h:fnP (ql X tbl inv meas) st g args=some (pre,r)) (i:pre):Form r/\qc5 C.E (.func g) b H1 λv H'=>∃ w',Answer X sz C H1 w.M r (qo9 (qb6 r.flat)) v H' w':=by
 unfold fnP at h;obtain ⟨⟨c,d⟩,j,k⟩:=zI.1 h;obtain ⟨ns,l,m⟩:=zI.1 k;obtain ⟨e,n,o,a⟩:=tok g c d ns pre r j m i;exact ⟨a,o H1 w.M b (cut.start ok2 R) (qnd ok2.plain (w:={w with g:=H1.get}) (w':=wd0 H1 w.M C.codec) rfl (λ_ _ _ h=>h) l f n)⟩
theorem qvs (ok2:CfgOk2 X C) {w w':Wd} (d:w'.g=w.g) (e:∀ nm x,w.g nm=some x->¬ w.M nm->¬ w'.M nm) {p q:PV K} {v:V} (r:Rep X sz w p v) (h:q7p (ql X tbl inv meas) p=some q) :
  Rep X sz w' q v/\Plain q/\Simple q/\∀ c x i,q≠.list c x (some i):=by
 cases p with
 | int k l n=>cases h;cases r with | int A=>exact ⟨.int A,.int,.int,by simp⟩
 | lit b=>cases h;cases r;exact ⟨.lit,.lit,.lit,by simp⟩
 | sb id neg b J L=>cases h;cases r;exact ⟨.sb .rfl (by show _=false↔_;exact .rfl) λB=>absurd rfl B,.sb,.sb,by simp⟩
 | str s=>cases h;cases r;exact ⟨.str,.str,.str,by simp⟩
 | list c l o=>
  cases h;refine ⟨?_,.list,.list,by simp⟩;have D:Rep X sz w (.list c l none) v:=by
   cases r with
   | nlist E=>exact .nlist trivial
   | list d F e j m G t H E=>exact .list d F e j m G t H trivial
  exact D.plain ok2.plain d e .list
 | func f a c=>
  cases a with
  | nil=>
   cases c with
   | nil=>cases h;exact ⟨r.plain ok2.plain d e .func,.func,.func,by simp⟩
   | cons _ _=>cases h
  | cons _ _=>cases h
 | nilf=>cases h;exact ⟨r.plain ok2.plain d e .nilf,.nilf,.nilf,by simp⟩
 | plist I n fx cs=>
  simp only [q7p] at h;cases m:cs.all zk9 with
  | false=>rw [m] at h;cases h
  | true=>
   rw [m] at h;cases h;have u:∀ p ∈ cs,p=.nilf∨∃ f,p=.func f [] []:=λp y=>by
    have:=List.all_eq_true.1 m p y;unfold zk9 at this;split at this
    .exact .inr ⟨_,rfl⟩
    .exact .inl rfl
    .cases this
   have z:Plain (.plist I n fx cs:PV K):=.plist λp y=>by rcases u p y with rfl | ⟨f,rfl⟩<;>constructor
   exact ⟨r.plain ok2.plain d e z,z,.plist u,by simp⟩
 | _=>cases h
theorem qvt (ok2:CfgOk2 X C) {w w':Wd} (e:w'.g=w.g) (f:∀ nm x,w.g nm=some x->¬ w.M nm->¬ w'.M nm):∀ {ps a:List (PV K)} {d:List V},qj X sz w ps d->q7r (ql X tbl inv meas) ps=some a->
  qj X sz w' a d/\∀ q ∈ a,Plain q/\Simple q/\∀ c x i,q≠.list c x (some i)
 | [],a,d,r,h=>by
  simp only [q7r,zS] at h;subst h;rw [r.ka];exact ⟨.nil,λq b=>by cases b⟩
 | p::ps,a,d,r,h=>by
  obtain ⟨v,j,rfl,r1,k⟩:=r.zt;simp only [q7r] at h;obtain ⟨q,l,m⟩:=zI.1 h;obtain ⟨n,o,rfl⟩:=zM.1 m;obtain ⟨s,t⟩:=qvs ok2 e f r1 l;obtain ⟨u,y⟩:=qvt ok2 e f k o;refine ⟨.cons s u,λz b=>?_⟩;rcases zD.1 b with rfl | b
  .exact t
  .exact y z b
theorem qx2 (ok2:CfgOk2 X C) {w w':Wd} (f:w'.g=w.g) (j:∀ nm x,w.g nm=some x->¬ w.M nm->¬ w'.M nm) {p q:PV K} {v:V} (r:Rep X sz w p v) (h:bare (ql X tbl inv meas) p=some q) :
  Rep X sz w' q v/\Plain q/\Form1 q/\∀ y ∈ q.cellsOf,∀ c x i,y≠.list c x (some i):=by
 by_cases k:∃ cs,p=.agg cs
 .obtain ⟨cs,rfl⟩:=k;simp only [bare] at h;obtain ⟨s,m,rfl⟩:=zM.1 h;obtain ⟨t,rfl,n⟩:=r.qf4;obtain ⟨d,b⟩:=qvt ok2 f j n m;exact ⟨.qt9 d,.agg λy a=>(b y a).1,.agg λy a=>(b y a).2.1,λy a=>(b y a).2.2⟩
 .have e:bare (ql X tbl inv meas) p=q7p (ql X tbl inv meas) p:=by
   cases p with
   | agg cs=>exact absurd ⟨cs,rfl⟩ k
   | _=>rfl
  rw [e] at h;obtain ⟨d,b,l,o⟩:=qvs ok2 f j r h;refine ⟨d,b,.one l,λy a=>?_⟩;have:q.cellsOf=[q]:=by
   cases l<;>rfl
  rw [this] at a;rw [List.mem_singleton.1 a];exact o
theorem qou (ok2:CfgOk2 X C) {w w':Wd} (e:w'.g=w.g) (f:∀ nm x,w.g nm=some x->¬ w.M nm->¬ w'.M nm):∀ {ps a:List (PV K)} {d:List V},qj X sz w ps d->qx1 (ql X tbl inv meas) ps=some a->
  qj X sz w' a d/\∀ q ∈ a,Plain q/\Form1 q/\∀ y ∈ q.cellsOf,∀ c x i,y≠.list c x (some i)
 | [],a,d,r,h=>by
  simp only [qx1,zS] at h;subst h;rw [r.ka];exact ⟨.nil,λq b=>by cases b⟩
 | p::ps,a,d,r,h=>by
  obtain ⟨v,j,rfl,r1,k⟩:=r.zt;simp only [qx1] at h;obtain ⟨q,l,m⟩:=zI.1 h;obtain ⟨n,o,rfl⟩:=zM.1 m;obtain ⟨s,t⟩:=qx2 ok2 e f r1 l;obtain ⟨u,z⟩:=qou ok2 e f k o;refine ⟨.cons s u,λA b=>?_⟩;rcases zD.1 b with rfl | b
  .exact t
  .exact z A b
theorem qpt:∀ {l:List (PV K)},(∀ y ∈ l,∀ c x i,y≠.list c x (some i))->qb6 l=[]
 | [],_=>rfl
 | p::l,h=>by
  have a:=qpt (l:=l) λy b=>h y (zG _ b);cases p with
  | list c x o=>
   cases o with
   | none=>exact a
   | some i=>exact absurd rfl (h _ zC c x i)
  | _=>exact a
theorem q7q (ok2:CfgOk2 X C) {w w':Wd} (f:w'.g=w.g) (i:∀ nm x,w.g nm=some x->¬ w.M nm->¬ w'.M nm) {p q:PV K} {v:V} (r:Rep X sz w p v) (h:zd1 (ql X tbl inv meas) p=some q) :
  Rep X sz w' q v/\Form q/\qb6 q.flat=[]:=by
 by_cases j:∃ l,p=.tuple l
 .obtain ⟨l,rfl⟩:=j;simp only [zd1] at h;obtain ⟨u,m,rfl⟩:=zM.1 h;obtain ⟨A,rfl,n⟩:=r.qil;obtain ⟨a,b⟩:=qou ok2 f i n m;refine ⟨.tuple' a,.tuple λy c=>(b y c).2.1,qpt λy c=>?_⟩;obtain ⟨z,o,d⟩:=List.mem_flatMap.1 c;exact (b z o).2.2 y d
 .have e:zd1 (ql X tbl inv meas) p=bare (ql X tbl inv meas) p:=by
   cases p with
   | tuple l=>exact absurd ⟨l,rfl⟩ j
   | _=>rfl
  rw [e] at h;obtain ⟨a,b,k,s⟩:=qx2 ok2 f i r h;refine ⟨a,.one k,?_⟩;have:q.flat=q.cellsOf:=by
   cases k with
   | one t=>cases t<;>rfl
   | agg _=>rfl
  rw [this];exact qpt s
theorem zcw (ok:CfgOk X sz C) (ok2:CfgOk2 X C) {inl:ZI K} (q:qoe X sz C inl) (R:RelH X sz C base st H w) {g:Nat} {args:List (PV K)} {t:List V} {k:PV K->StV K->Prop} {H1:Heap} (cut:Cut X sz C base H H1 w)
  (L:qj X sz {w with g:=H1.get} args t) (h:q6n (ql X tbl inv meas) inl (.func g) args st k) :
  qc5 C.E (.func g) t H1 λv H'=>∃ r w',Form r/\Answer X sz C H1 w.M r (qo9 (qb6 r.flat)) v H' w'/\k (qdf st r).1 (qdf st r).2:=by
 unfold q6n at h;simp only at h;split at h
 .rename_i I u;obtain ⟨y,_⟩:=qou (w:={w with g:=H1.get}) (w':=wd0 H1 w.M C.codec) ok2 rfl (λ_ _ _ h=>h) L u;have e:Le (wd0 H1 w.M C.codec) {wd0 H1 w.M C.codec with n:=1}:=Le.ext (w:=wd0 H1 w.M C.codec) (m:=1) (nu':=λ_=>false) (Nat.zero_le _) (λ_ _=>rfl);obtain ⟨nu',g1,N,O⟩:=qfb ok.len (y.mono ok.len e) (zN 1);let w0:Wd:={wd0 H1 w.M C.codec with n:=(qap I 1).2,nu:=nu'};have f:Le (wd0 H1 w.M C.codec) w0:=Le.ext (w:=wd0 H1 w.M C.codec) (Nat.zero_le _) (λid hi=>by have:id<0:=hi;omega);have S:=cut.start ok2 R;have P:RelH X sz C H1 {tmps:=.nil,n:=0,cells:=[],owns:=[],next:=(qap I 1).2,known:=[]} H1 w0:=by
   refine ⟨S.wf,S.ro,rfl,rfl,rfl,S.Mlt,rfl,N,.refl H1,λ_ z=>False.elim z,λ_ _ z=>False.elim z,λid ps a=>(by cases a),λ_=>rfl,λi s a=>(by cases a),λi s nm a=>(by cases a),λi j s s' nm a=>(by cases a),rfl,λid b a=>(by cases a),λgn ps A=>?_⟩;obtain ⟨Q,B,T,fl,fz,ex',U,W,Y⟩:=S.globs gn ps A;exact ⟨Q,B,T,fl,fz,ex',U,W,Y.mono ok.len f⟩
  refine (q (.func g) _ _ _ h H1 H1 w0 t P O).mono λv H' Z=>?_;obtain ⟨p,a1,w',D,_,_,l,F,rp⟩:=Z;split at D
  .rename_i r hr;let w2:Wd:={g:=H'.get,M:=λn=>if n<H1.next then w.M n else w'.M n,c:=λ_=>0,nu:=λ_=>false,n:=0,owns:=λ_=>some 0,eta:=λ_=>none,ce:=C.codec,cl:=λ_=>False,nx:=H'.next,b:=H1.next,lp:=λ_=>none,fl:=0};obtain ⟨b1,b2,b3⟩:=q7q ok2 (w':=w2) l.g.symm (λnm x _ J=>by
    show ¬ (if nm<H1.next then w.M nm else w'.M nm);split
    .rename_i d;exact λh0=>J (F.Mu nm d h0)
    .exact J) rp hr
   refine ⟨r,w2,b2,⟨l.keeps,l.wf,rfl,λn G=>?_,λn G=>?_,rfl,by rw [b3];rfl,λ_=>rfl,λj nm he=>(by cases he),λj1 j2 nm e1=>(by cases e1),b1⟩,D⟩
   .show (if n<H1.next then w.M n else w'.M n)↔w.M n;rw [zT G]
   .have o:(if n<H1.next then w.M n else w'.M n):=G;split at o
    .rename_i d;exact zL d l.keeps.next
    .exact l.Mlt n o
  .exact absurd D id
 .exact absurd h id
theorem qvw (ok:CfgOk X sz C) (ok2:CfgOk2 X C) (tok:qjh X sz C tbl) {inl:ZI K} (e:qoe X sz C inl) (R:RelH X sz C base st H w) {f:PV K} {x:V} {args:List (PV K)} {i:List V} {k:PV K->StV K->Prop}
  (y:Rep X sz w f x) (z:qj X sz w args i) (h:q7x (ql X tbl inv meas) inl f args st k) :
  ∃ t us,qe9 x i=some (.call t us)/\qc5 C.E t us H λv H'=>∃ p b w',k p b/\b.tmps=st.tmps/\b.n=st.n/\RelH X sz C base b H' w'/\Le w w'/\Rep X sz w' p v:=by
 unfold q7x at h;split at h
 .rename_i g first cap
  cases y with
  | @func Y a c A B F G I L=>
  have j:qj X sz w (first++args++cap) (A++i++B):=qj.append (qj.append (ps:=first) ⟨F,I⟩ z) ⟨G,L⟩;refine ⟨.func g,A++i++B,rfl,?_⟩;split at h
  .rename_i M r o;cases D:distinct (qb6 r.flat) with
   | false=>rw [D] at h;exact absurd h id
   | true=>
    rw [D] at h;simp only [zO] at h;obtain ⟨l,N⟩:=h;have q:H.ro<=H.next:=by rw [R.keeps.ro];exact zR R.rob.1 R.keeps.next
    have O:({w with g:=H.get}:Wd)=w:=by rw [<-R.g]
    obtain ⟨m,d⟩:=q22 ok2 tok R (H1:=H) (.same R (λ_=>rfl) rfl rfl q) (by rw [O];exact j) o l;refine d.mono λv H' P=>?_;obtain ⟨w',a⟩:=P;obtain ⟨s,Q,S,T,u,U⟩:=qoz ok ok2 R m (H1:=H) rfl a (J:=H') a.keeps.old (λ_ _ h=>h) (λ_ _=>rfl) rfl a.keeps.ro a.keeps.zf;exact ⟨_,_,s,N,Q,S,T,u,U⟩
  .exact e (.func g) _ st k h base H w _ R j
 .rename_i id;cases y with
  | yield W=>exact ⟨.round (w.c id),i,rfl,e (.round id) _ st k h base H w _ R z⟩
 .exact absurd h id
end
end Go.E3
/- E3: REGIONS in the order of the text. -/
namespace Go.E3
open Go Go.E2
variable {K:Nat->Type}
section
variable {X:Codecs K} {sz:Nat->Nat} {C:ZC K} {base H:Heap} {st:StV K} {fr:Fr} {w:Wd}
variable {tbl:Tbl K} {inv:Nat->List (NV K)->Prop} {meas:Nat->List (NV K)->Nat} {inl:ZI K}
variable {nd:Bool} {all:Array Oper} {Q:Ex->Fr->Heap->Prop}
theorem Rel.put (R:Rel X sz C base st fr H w) {dst:Option Tmp} {p:PV K} {v:V} (r:Rep X sz w p v):Rel X sz C base (st.put dst p) (fr.put dst v) H w:=by
 obtain ⟨h,f,n,e⟩:=R;cases dst with
 | none=>exact ⟨h,f,n,e⟩
 | some d=>
  obtain ⟨t,m,c,o,x,s⟩:=st;obtain ⟨u,j,k⟩:=fr;have l:j=m:=n;subst l;simp only [St.put,Fr.put];cases y:Nat.blt d j with
  | false=>simp only [zQ];exact ⟨h,f,rfl,e⟩
  | true=>
   simp only [zO];refine ⟨⟨h.wf,h.rob,h.g,h.nx,h.b,h.Mlt,h.n,h.one,h.keeps,h.cl,h.cinj,h.cells,h.owns,h.ownn,h.eta,h.einj,h.ce,h.known,h.globs⟩,λi q a=>?_,rfl,e⟩;simp only [Tree.kv] at a;simp only [Fr.tmp,Tree.kv];by_cases hi:i=d
   .rw [zT hi] at a ⊢;cases a;exact ⟨v,rfl,r⟩
   .rw [zF hi] at a ⊢;exact f i q a
theorem Rel.step (ok:CfgOk X sz C) (R:Rel X sz C base st fr H w) {a:StV K} {H':Heap} {w':Wd} (c:a.tmps=st.tmps) (d:a.n=st.n) (e:RelH X sz C base a H' w') (hle:Le w w'):Rel X sz C base a fr H' w':=
 ⟨e,λi p b=>by
  rw [c] at b;obtain ⟨v,g,h⟩:=R.f i p b;exact ⟨v,g,h.mono ok.len hle⟩,by rw [d];exact R.n,R.ds.mono hle⟩
theorem qwr (R:Rel X sz C base st fr H w) {o:Oper} {k:Bool->StV K->Prop} (h:zgi (ql X tbl inv meas) o all st k) :
  ∃ b a,qdh o all fr=some b/\k b a/\Near st a/\a.next=st.next/\RelH X sz C base a H w:=by
 unfold zgi at h;split at h
 .rename_i e;exact ⟨true,st,qkk e,h,.refl st,rfl,R.h⟩
 .rename_i j c e;split at h
  .rename_i g;exact ⟨false,st,by simp only [qdh,e,g],h,.refl st,rfl,R.h⟩
  .rename_i d g;split at h
   .rename_i b i;obtain ⟨v,l,m⟩:=R.f d _ i;cases m;exact ⟨b == c,st,zgj e g l,h,.refl st,rfl,R.h⟩
   .rename_i id neg b y z i;obtain ⟨v,l,m⟩:=R.f d _ i;cases m with
    | sb n p q=>
     obtain ⟨a,r,s,t,u⟩:=qx8 R.h (.sb n p q) h;exact ⟨b == c,a,zgj e g l,r,s,t,u⟩
   .rename_i i;obtain ⟨v,l,m⟩:=R.f d _ i;obtain ⟨A,rfl,x⟩:=m.qil;have:=x.ka;subst this;exact ⟨false,st,zdp e g l,h,.refl st,rfl,R.h⟩
   .exact absurd h id
theorem qym {H:Heap} {s:List UInt8}:k7 H 1 (.str s)=some (s.length,s.map λb=>.int .u8 b.toNat):=by
 simp only [k7,V.qd1,qcm,Nat.beq_refl,zO]
theorem q4f (ok:CfgOk X sz C) (s:List UInt8):(X.u8 ▸ s:List (K 0)).length=s.length/\qj X sz w ((X.u8 ▸ s:List (K 0)).flatMap (X.cells 0)) (s.map λb=>V.int .u8 b.toNat):=by
 have a:∀ (l:List (K 0)),qj X sz w (l.flatMap (X.cells 0)) ((X.u8 ▸ l:List UInt8).map λb=>V.int .u8 b.toNat):=by
  intro l;rw [qp3]
  induction l with
  | nil=>exact .nil
  | cons x l c=>
   rw [List.flatMap_cons,ok.u8,List.singleton_append,List.map_cons,List.map_cons];exact .cons (.int λm d=>by cases d) c
 have e:(X.u8 ▸ (X.u8 ▸ s:List (K 0)):List UInt8)=s:=by
  have:∀ {α β:Type} (h:α=β) (s:List β),(h ▸ (h ▸ s:List α):List β)=s:=by intro α β h s;subst h;rfl
  exact this X.u8 s
 have f:∀ {α β:Type} (h:α=β) (s:List β),(h ▸ s:List α).length=s.length:=by intro α β h s;subst h;rfl
 refine ⟨f X.u8 s,?_⟩;have:=a (X.u8 ▸ s);rw [e] at this;exact this
theorem zlt (ok:CfgOk X sz C) (ok2:CfgOk2 X C) (tok:qjh X sz C tbl) (ah:qoe X sz C inl) (R:Rel X sz C base st fr H w) {o:Oper} {l:List Oper} {k:PV K->StV K->Prop} (hd:qsw o.op=false) (hw:qdh o all fr=some true) (h:qcd (ql X tbl inv meas) C inl o st k)
  (next:∀ p i v H' w',k p i->i.tmps=st.tmps->i.n=st.n->RelH X sz C base i H' w'->Le w w'->Rep X sz w' p v->WpO C.E nd all l (fr.put o.dst v) H' Q):WpO C.E nd all (o::l) fr H Q:=by
 have j:qlx o=false:=hd;by_cases hp:qfs o.op=true
 .obtain ⟨p,i,v,w',d,G,L,U,h5,h6⟩:=qp5 ok R hp (λ_ _=>rfl) (λ_ _ _ _=>.inl rfl) h;exact qke j hw h6 (next p i v H w' d G.tmps G.n L U h5)
 by_cases hn:qpn o.op=true
 .obtain ⟨p,i,v,row,w',d,G,L,U,h5,h6,h7⟩:=q8k ok R hn h;exact qke j hw (h7 fr H rfl (λ_ _=>rfl)) (next p i v _ w' d G L U h5 h6)
 cases A:o.op with
 | load t x=>
  simp only [qcd,A] at h;obtain ⟨ti,F,d⟩:=qa h;obtain ⟨p,ai,G⟩:=qa d;obtain ⟨v,ev,rv⟩:=qq R ai;obtain ⟨q,L,nm,gn,off,lim,rfl,_,hl,_⟩:=qpi ok R.h rv G;obtain ⟨u,hu,ru⟩:=hl H rfl;obtain ⟨w',M,W,D,r'⟩:=qjt ok R.h ru;refine qke j hw (v:=u) (H':=H) ?_ (next _ _ u H w' L M.tmps M.n W D r');simp only [kc,A,F,zB,ev,hu,zH]
 | store t a x=>
  simp only [qcd,A] at h;obtain ⟨ti,F,d⟩:=qa h;obtain ⟨pa,aj,G⟩:=qa d;obtain ⟨px,I,L⟩:=qa G;obtain ⟨va,ea,ra⟩:=qq R aj;obtain ⟨vx,ex,rx⟩:=qq R I;obtain ⟨i,id,gn,off,lim,H',w',U,_,_,_,_,_,_,_,hs,e1,e2,_,W,D,_⟩:=qtv ok R.h ra rx L;refine q1e j hw (H':=H') ?_ (next _ _ je H' w' U e1 e2 W D .undef);simp only [kc,A,F,zB,ea,ex,hs,zH]
 | lookup t m x ax=>
  simp only [qcd,A] at h;obtain ⟨pm,N,d⟩:=qa h;obtain ⟨px,I,G⟩:=qa d;obtain ⟨vm,em,rm⟩:=qq R N;obtain ⟨vx,ex,rx⟩:=qq R I;obtain ⟨id,p,i,v,w',_,rfl,_,_,_,L,M,W,D,r',O⟩:=qq1 ok R.h rm rx G;exact qke j hw (O o m x fr H A em ex rfl) (next p i v H w' L M.tmps M.n W D r')
 | mapUpdate t m x y=>
  simp only [qcd,A] at h;obtain ⟨pm,N,d⟩:=qa h;obtain ⟨px,I,G⟩:=qa d;obtain ⟨py,ad,L⟩:=qa G;obtain ⟨vm,em,rm⟩:=qq R N;obtain ⟨vx,ex,rx⟩:=qq R I;obtain ⟨vy,ey,ry⟩:=qq R ad;obtain ⟨id,i,row,w',_,rfl,_,B,_,_,U,e1,e2,W,D,_,O⟩:=qmd ok R.h rm rx ry L;exact q1e j hw (O o m x y fr H (.inl A) em ex ey rfl (by rw [R.h.keeps.ro];exact zR R.h.rob.1 B)) (next _ _ je _ w' U e1 e2 W D .undef)
 | insert t m x y=>
  simp only [qcd,A] at h;obtain ⟨pm,N,d⟩:=qa h;obtain ⟨px,I,G⟩:=qa d;obtain ⟨py,ad,L⟩:=qa G;obtain ⟨vm,em,rm⟩:=qq R N;obtain ⟨vx,ex,rx⟩:=qq R I;obtain ⟨vy,ey,ry⟩:=qq R ad;obtain ⟨id,i,row,w',_,rfl,_,B,_,_,U,e1,e2,W,D,_,O⟩:=qmd ok R.h rm rx ry L;exact q1e j hw (O o m x y fr H (.inr A) em ex ey rfl (by rw [R.h.keeps.ro];exact zR R.h.rob.1 B)) (next _ _ je _ w' U e1 e2 W D .undef)
 | call c=>
  simp only [qcd,A] at h;obtain ⟨ps,ak,d⟩:=qa h;obtain ⟨vs,ev,rv⟩:=qdq R ak;split at d
  .rename_i f hf;obtain ⟨pf,al,G⟩:=qa d;obtain ⟨vf,ef,rf⟩:=qq R al;obtain ⟨g,us,Y,ae⟩:=qvw ok ok2 tok ah R.h rf rv G;refine zpw j hw (t:=g) (args:=us) (H1:=H) ?_ (ae.mono λv H' hA=>?_)
   .simp only [kc,A,hf,ef,ev,zB,Y,zH]
   .obtain ⟨p,i,w',a1,a2,a3,Z,a5,a6⟩:=hA;exact next p i v H' w' a1 a2 a3 Z a5 a6
  .rename_i b hf;have a8:qfs o.op=false:=by simpa using hp
   simp only [qfs,A,hf] at a8;unfold qks at d;split at d
   .simp at a8
   .rename_i s x t u J;obtain ⟨ay,az,rfl,r1,r2⟩:=rv.zt;obtain ⟨vx,aw,rfl,r3,r4⟩:=r2.zt;have:=r4.ka;subst this;split at d
    .rename_i ti ui F aa;split at d
     .rename_i e e' P S;split at d
      .rename_i c' T Y z;cases B:(Nat.ble T.bytes 1024&&!Nat.beq T.size 0) with
       | false=>rw [B] at d;exact absurd d id
       | true=>
        rw [B] at d;simp only [zO] at d;simp only [zA,Nat.ble_eq] at B;split at d
        .rename_i r an;obtain ⟨p,i,v,H',w',a1,a2,a3,Z,a5,a6,a7⟩:=q8y ok R.h Y z B.1 r1 r3 an d;refine qke j hw (v:=v) (H':=H') ?_ (next p i v H' w' a1 a2 a3 a5 a6 a7);simp only [kc,A,hf,ev,zB,jj,J,F,aa,P,S,z,Z,zH]
        .split at d
         .rename_i l' hl;have rl:=qeb r3 hl;have ao:=ok.size e c' T Y z;obtain ⟨aq,ab,af⟩:=qiy ok.len R.h.g rl (ok.pos e c' Y);rw [<-ao] at ab;obtain ⟨p,i,v,H',w',a1,a2,a3,Z,a5,a6,a7⟩:=qe8 ok R.h Y z B.1 r1 ab af d;refine qke j hw (v:=v) (H':=H') ?_ (next p i v H' w' a1 a2 a3 a5 a6 a7);simp only [kc,A,hf,ev,zB,jj,J,F,aa,P,S,z,Z,zH]
         .exact absurd d id
      .rename_i T Y z;split at d
       .rename_i es n cs ar m fx au;cases B:(Nat.beq es ar&&Nat.beq es T.size&&Nat.blt 0 m&&Nat.ble T.bytes 1024&&Nat.ble (n+m) 100000&&au.all jn) with
        | false=>rw [B] at d;exact d.elim
        | true=>
         rw [B] at d;simp only [zA,Nat.ble_eq] at B;obtain ⟨⟨⟨⟨⟨b1,b2⟩,b3⟩,b4⟩,b5⟩,b6⟩:=B;have b1:=zE b1;have b2:=zE b2;subst b1;subst b2;obtain ⟨v,H',w',Z,a5,a6,a7⟩:=q0b (e:=e) ok R.h b4 r1 r3 (Nat.le_of_ble_eq_true b3) b5 b6;refine qke j hw (v:=v) (H':=H') ?_ (next _ _ v H' w' d rfl rfl a5 a6 a7);simp only [kc,A,hf,ev,zB,jj,J,F,aa,P,S,z,Z,zH]
       .exact d.elim
      .exact absurd d id
     .rename_i e P S;split at d
      .rename_i T y Y z;cases B:(Nat.ble T.bytes 1024&&Nat.beq T.size 1) with
       | false=>rw [B] at d;exact absurd d id
       | true=>
        rw [B] at d;simp only [zO] at d;simp only [zA,Nat.ble_eq] at B;cases r3;have av:=zE B.2;obtain ⟨ag,af⟩:=q4f (w:=w) ok y;have ab:k7 H T.size (.str y)=some ((X.u8 ▸ y:List (K 0)).length,y.map λb=>V.int .u8 b.toNat):=by rw [av,qym,ag]
        obtain ⟨p,i,v,H',w',a1,a2,a3,Z,a5,a6,a7⟩:=qe8 ok R.h Y z B.1 r1 ab af d;refine qke j hw (v:=v) (H':=H') ?_ (next p i v H' w' a1 a2 a3 a5 a6 a7);simp only [kc,A,hf,ev,zB,jj,J,F,aa,P,S,z,Z,zH]
      .exact absurd d id
     .exact absurd d id
    .exact absurd d id
   .simp at a8
   .simp at a8
   .exact absurd d id
  .exact absurd d id
 | _=>first
  | (simp [qfs,A] at hp;done)
  | (simp [qpn,A] at hn;done)
  | (simp only [qcd,A] at h;exact absurd h id)
theorem qp2 (ok:CfgOk X sz C) (ok2:CfgOk2 X C) (tok:qjh X sz C tbl) (a:qoe X sz C inl):∀ {l:List Oper} {st:StV K} {fr:Fr} {H:Heap} {w:Wd} {k:StV K->Prop},Rel X sz C base st fr H w->wpOps (ql X tbl inv meas) C inl all l st k->
  WpO C.E nd all l fr H λex fr' H'=>ex=.normal/\∃ c w',k c/\Rel X sz C base c fr' H' w'/\Le w w'
 | [],st,fr,H,w,k,R,h=>zgm ⟨rfl,st,w,h,R,.refl w⟩
 | o::l,st,fr,H,w,k,R,h=>by
  simp only [wpOps] at h;cases i:qsw o.op with
  | true=>rw [i] at h;exact h.elim
  | false=>
   rw [i] at h;simp only [zQ] at h;obtain ⟨b,st1,r,j,s,t,u⟩:=qwr R h;have d:Rel X sz C base st1 fr H w:=R.step ok s.tmps s.n u (.refl w);cases b with
   | true=>
    simp only [zO] at j;refine zlt ok ok2 tok a d i r j λp c v H' w' x y m z f A=>?_;have B:=((d.step ok y m z f).put (dst:=o.dst) A);exact (qp2 ok ok2 tok a B x).mono λex fr' D F=>by
     obtain ⟨e,g,q,G,I,J⟩:=F;exact ⟨e,g,q,G,I,f.trans J⟩
   | false=>
    simp only [zQ] at j;exact zts i r (qp2 ok ok2 tok a (d.put (dst:=o.dst) .undef) j)
end
end Go.E3
/- E3: REGIONS that draw their order: footprints. -/
namespace Go.E3
open Go Go.E2
variable {K:Nat->Type}
section
variable {X:Codecs K} {sz:Nat->Nat} {C:ZC K} {base H:Heap} {st:StV K} {fr:Fr} {w:Wd}
variable {tbl:Tbl K} {inv:Nat->List (NV K)->Prop} {meas:Nat->List (NV K)->Nat} {inl:ZI K}
variable {nd:Bool} {all:Array Oper} {Q:Ex->Fr->Heap->Prop} {b:Array Nat} {i:Nat}
theorem RelH.congr (R:RelH X sz C base st H w) {J:Heap} (d:∀ n,J.get n=H.get n) (c:J.next=H.next) (e:J.ro=H.ro) (f:J.zf=H.zf):RelH X sz C base st J w:=by
 have j:J.get=H.get:=funext d;exact ⟨λn a=>by rw [d];exact R.wf n (by omega),R.rob,R.g.trans j.symm,R.nx.trans c.symm,R.b,λn a=>by rw [c];exact R.Mlt n a,R.n,R.one,
  ⟨by rw [c];exact R.keeps.next,by rw [e];exact R.keeps.ro,by rw [f];exact R.keeps.zf,λnm a=>by rw [d];exact R.keeps.old nm a⟩,
  λid h=>by rw [c];exact R.cl id h,R.cinj,λid ps h=>by rw [d];exact R.cells id ps h,R.owns,R.ownn,λi s nm h a=>by rw [c];exact R.eta i s nm h a,R.einj,R.ce,R.known,R.globs⟩
theorem qtx {E:Env} {o:Oper} (h:z6 E o.op=false) (i:qfs o.op=true∨qpn o.op=true):∀ x ∈ o.op.operands.toList,∀ g,x≠.global g:=by
 have d:∀ l:List Operand,(l.any λx=>match x with | .global _=>true | _=>false)=false->∀ x ∈ l,∀ g,x≠.global g:=by
  intro l j x n g p;subst p;rw [<-Bool.not_eq_true,List.any_eq_true] at j;exact j ⟨_,n,rfl⟩
 cases a:o.op with
 | load=>simp [z6,a] at h
 | store=>simp [z6,a] at h
 | lookup=>simp [z6,a] at h
 | mapUpdate=>simp [z6,a] at h
 | insert=>simp [z6,a] at h
 | next=>simp [z6,a] at h
 | convert=>simp [z6,a] at h
 | slice t x lo hi r=>
  rw [a] at h;simp only [z6,Bool.or_eq_false_iff] at h;refine d _ ?_;rw [<-Array.any_toList] at h;exact h.2
 | call c=>
  rw [a] at h i;have f:(c.args.any λx=>match x with | .global _=>true | _=>false)=false/\∃ k,c.callee=.builtin k:=by
   simp only [qfs,qpn,Bool.false_eq_true,or_false] at i;simp only [z6] at h;split at i
   .rename_i b;simp only [b] at h;refine ⟨?_,_,b⟩;split at h
    .split at h
     .cases h
     .cases h
     .exact h
    .cases h
   .rename_i b;simp only [b] at h;exact ⟨h,_,b⟩
   .rename_i b;simp only [b] at h;exact ⟨h,_,b⟩
   .cases i
  obtain ⟨m,k,q⟩:=f;have e:(Op.call c).operands.toList=c.args.toList:=by
   simp only [Op.operands,Call.operands,q];simp
  rw [e];refine d _ ?_;rw [<-Array.any_toList] at m;exact m
 | _=>
  first
   | (simp [a,qfs,qpn] at i;done)
   | (rw [a] at h
      refine d _ ?_;simp only [z6] at h;rw [<-Array.any_toList] at h;exact h)
theorem qgj {o:Oper} {H':Heap} {x:Operand} (a:x ∈ o.op.operands.toList) (b:∀ g,x≠.global g):opd {fr with tmps:=ke fr.tmps (o.looksAt all) .nil} H' x=opd fr H x:=by
 cases x with
 | tmp t=>
  simp only [opd];refine qcu ?_;simp only [Oper.looksAt,List.mem_append,List.mem_filterMap];exact .inl ⟨_,a,rfl⟩
 | const v=>rfl
 | global g=>exact absurd rfl (b g)
 | func f=>rfl
def qqw (B:Nat) (done:List Done) (n:Nat):Src->Prop
 | .any=>True
 | .calm=>n<B
 | .own j=>∃ d ∈ done,d.i=j/\d.lo<=n/\n<d.hi
theorem qqw.more {B n:Nat} {done done':List Done} (h:∀ d ∈ done,d ∈ done') {s:Src} (a:qqw B done n s):qqw B done' n s:=by
 cases s with
 | any=>trivial
 | calm=>exact a
 | own j=>obtain ⟨d,b,c⟩:=a;exact ⟨d,h d b,c⟩
def Still (w:Wd) (n:Nat):Prop:=¬ w.M n/\∃ cs e gen a b ex,w.g n=some (.row cs e gen a b ex)
def fpR (B:Nat) (done:List Done) (lo:Nat) (w:Wd):FP3->FP->Prop
 | .none,fp=>fp=.none
 | .read id,fp=>fp=.reads [w.c id]/\w.cl id
 | .write id,fp=>fp=.writes [w.c id]/\w.cl id
 | .stable a,fp=>∃ l,fp=.reads l/\∀ n ∈ l,Still w n/\∃ s ∈ a,qqw B done n s
 | .call _,fp=>fp=.call
 | .lone,fp=>fp=.lone∨∃ l,(fp=.writes l∨fp=.reads l)/\∀ n ∈ l,n<lo
theorem Still.mono {w w':Wd} (h:Le w w') {n:Nat} (i:Still w n):Still w' n:=by
 obtain ⟨j,cs,e,gen,a,b,ex,k⟩:=i;obtain ⟨c,cs2,f,g,ex',d⟩:=h.mem n cs e gen a b ex k j;exact ⟨c,_,_,_,_,_,_,d⟩
structure DR (B:Nat) (all:List Done) (w:Wd) (d3:Done3) (d:Done):Prop where
 i:d.i=d3.i
 lo:B<=d.lo
 le:d.lo<=d.hi
 no:d3.makes=false->d.hi=d.lo
 fp:fpR B all d.lo w d3.fp d.fp
theorem fpR.mono {B lo:Nat} {done done':List Done} {w w':Wd} (h:Le w w') (j:∀ d ∈ done,d ∈ done') (a:∀ id,w.cl id->id<w.n) {f:FP3} {fp:FP} (e:fpR B done lo w f fp):fpR B done' lo w' f fp:=by
 cases f with
 | none=>exact e
 | read id=>
  obtain ⟨g,b⟩:=e;exact ⟨by rw [h.c id (a id b)];exact g,(h.cl id (a id b)).2 b⟩
 | write id=>
  obtain ⟨g,b⟩:=e;exact ⟨by rw [h.c id (a id b)];exact g,(h.cl id (a id b)).2 b⟩
 | stable p=>
  obtain ⟨l,g,b⟩:=e;refine ⟨l,g,λn k=>?_⟩;obtain ⟨m,s,o,i⟩:=b n k;exact ⟨m.mono h,s,o,i.more j⟩
 | call=>exact e
 | lone=>exact e
inductive DRs (B:Nat) (all:List Done) (w:Wd):List Done3->List Done->Prop
 | nil:DRs B all w [] []
 | cons {d3:Done3} {d:Done} {l3:List Done3} {l:List Done} (h:DR B all w d3 d) (hs:∀ d' ∈ l,d'.hi<=d.lo/\d'.i<d.i) (h':DRs B all w l3 l):DRs B all w (d3::l3) (d::l)
theorem DRs.mono {B:Nat} {b a:List Done} {w w':Wd} (h:Le w w') (g:∀ d ∈ b,d ∈ a) (e:∀ id,w.cl id->id<w.n) {f:List Done3} {l:List Done} (j:DRs B b w f l):DRs B a w' f l:=by
 induction j with
 | nil=>exact .nil
 | cons c k _ m=>exact .cons ⟨c.i,c.lo,c.le,c.no,c.fp.mono h g e⟩ k m
theorem DRs.free {B:Nat} {all:List Done} {g:List Done3} {l:List Done} (f:DRs B all w g l) {P:Done3->Prop} (e:∀ d ∈ g.filter (λd=>!(b.getD i 0).testBit d.i),P d):∀ d ∈ zl b i l,∃ j,DR B all w j d/\P j:=by
 unfold zl
 induction f with
 | nil=>intro d f;simp at f
 | @cons h a g l k _ _ m=>
  intro d c;rw [List.filter_cons] at c e;rw [k.i] at c;by_cases n:(!(b.getD i 0).testBit h.i)=true
  .rw [zT n] at c e;rcases zD.1 c with rfl | c
   .exact ⟨h,k,e h zC⟩
   .exact m (λd f=>e d (zG _ f)) d c
  .rw [zF n] at c e;exact m e d c
theorem DRs.sorted {B:Nat} {all:List Done} {j:List Done3} {l:List Done} (b:DRs B all w j l):∀ d ∈ l,∀ c ∈ l,d.i<c.i->d.hi<=c.lo:=by
 induction b with
 | nil=>intro d b;cases b
 | @cons n a j l o k _ m=>
  intro d b c g h;rcases zD.1 b with rfl | e<;>rcases zD.1 g with rfl | f
  .omega
  .have:=(k c f).2;omega
  .exact (k d e).1
  .exact m d e c f h
theorem DRs.same {B:Nat} {all:List Done} {h:List Done3} {l:List Done} (b:DRs B all w h l):∀ d ∈ l,∀ c ∈ l,d.i=c.i->d=c:=by
 induction b with
 | nil=>intro d b;cases b
 | @cons n a h l o j _ k=>
  intro d b c g m;rcases zD.1 b with rfl | e<;>rcases zD.1 g with rfl | f
  .rfl
  .have:=(j c f).2;omega
  .have:=(j d e).2;omega
  .exact k d e c f m
theorem qy4 {l:List Done} {d:Done} (h:d ∈ zl b i l):d ∈ l:=(List.mem_filter.1 h).1
theorem qe2 {B old lo:Nat} (R:RelH X sz C base st H w) {F:List Done3} {l:List Done} (y:DRs B l w F l) {f:FP3} {fp:FP} (G:∀ d ∈ F,∀ id,d.fp=.write id->w.M (w.c id)) (I:∀ id,f=.write id->w.M (w.c id)) (h:fpR B l lo w f fp)
  (V:(F.filter λd=>!(b.getD i 0).testBit d.i).all (λd=>qkq old d f)=true) {dels:List Nat}:((zl b i l).any λd=>qcp d dels fp)=false:=by
 rw [<-Bool.not_eq_true,List.any_eq_true];rintro ⟨d,z,e⟩;obtain ⟨⟨j,g,mk⟩,t,a,J⟩:=y.free (P:=λd=>qkq old d f=true/\d ∈ F) (λd y=>⟨List.all_eq_true.1 V d y,(List.mem_filter.1 y).1⟩) d z;have K:=qy4 z;have o:=t.fp;have L:=G _ J;have N:=t.le;have A:=t.i;simp only at o A;simp only [qkq,zA] at a;obtain ⟨a,_⟩:=a;have D:=y.sorted d K;have k:qcp d dels .none=false:=qri;obtain ⟨di,W,O,Y,dd⟩:=d;simp only at o A N D;cases g with
 | none=>simp only [fpR] at o;subst o;simp [qcp] at e
 | read Z=>
  obtain ⟨rfl,v⟩:=o;cases f with
  | none=>simp only [fpR] at h;rw [h,k] at e;cases e
  | read u=>obtain ⟨rfl,_⟩:=h;simp [qcp] at e
  | stable=>obtain ⟨E,rfl,_⟩:=h;simp [qcp] at e
  | call=>simp only [fpR] at h;subst h;simp [qcp] at e
  | write u=>
   obtain ⟨rfl,p⟩:=h;simp only [goes,Bool.not_eq_true',<-Bool.not_eq_true,Nat.beq_eq] at a;simp only [qcp,List.any_cons,List.any_nil,Bool.or_false,Nat.beq_eq] at e;exact a (R.cinj _ _ v p e.symm)
  | lone=>simp [goes] at a
 | write Z=>
  obtain ⟨rfl,v⟩:=o;cases f with
  | none=>simp only [fpR] at h;rw [h,k] at e;cases e
  | read u=>
   obtain ⟨rfl,p⟩:=h;simp only [goes,Bool.not_eq_true',<-Bool.not_eq_true,Nat.beq_eq] at a;simp only [qcp,List.any_cons,List.any_nil,Bool.or_false,Nat.beq_eq] at e;exact a (R.cinj _ _ v p e)
  | stable=>
   obtain ⟨E,rfl,p⟩:=h;simp only [qcp,List.any_cons,List.any_nil,Bool.or_false,List.any_eq_true] at e;obtain ⟨n,q,x⟩:=e;have:=zE x;subst this;exact (p _ q).1.1 (L _ rfl)
  | call=>simp [goes] at a
  | write u=>
   obtain ⟨rfl,p⟩:=h;simp only [goes,Bool.not_eq_true',<-Bool.not_eq_true,Nat.beq_eq] at a;simp only [qcp,List.any_cons,List.any_nil,Bool.or_false,Nat.beq_eq] at e;exact a (R.cinj _ _ v p e)
  | lone=>simp [goes] at a
 | stable=>
  obtain ⟨l1,rfl,v⟩:=o;cases f with
  | none=>simp only [fpR] at h;rw [h,k] at e;cases e
  | read u=>obtain ⟨rfl,_⟩:=h;simp [qcp] at e
  | stable=>obtain ⟨E,rfl,_⟩:=h;simp [qcp] at e
  | call=>simp only [fpR] at h;subst h;simp [qcp] at e
  | write u=>
   obtain ⟨rfl,p⟩:=h;simp only [qcp,List.any_cons,List.any_nil,Bool.or_false,List.any_eq_true] at e;obtain ⟨n,q,x⟩:=e;have:=zE x;subst this;exact (v _ q).1.1 (I _ rfl)
  | lone=>simp [goes] at a
 | call=>
  simp only [fpR] at o;subst o;cases f with
  | none=>simp only [fpR] at h;rw [h,k] at e;cases e
  | read u=>obtain ⟨rfl,_⟩:=h;simp [qcp] at e
  | stable=>obtain ⟨E,rfl,_⟩:=h;simp [qcp] at e
  | call=>simp only [fpR] at h;subst h;simp [qcp] at e
  | write u=>simp [goes] at a
  | lone=>simp [goes] at a
 | lone=>
  cases f with
  | none=>simp only [fpR] at h;rw [h,k] at e;cases e
  | stable ss=>
   obtain ⟨E,rfl,p⟩:=h;simp only [goes,List.all_eq_true] at a;have r:∀ n ∈ E,O<=n:=by
    intro n q;obtain ⟨_,s,hs,Q⟩:=p n q;have S:=a s hs;cases s with
    | own j'=>
     simp only [Nat.blt_eq] at S;obtain ⟨d',T,e1,e2,e3⟩:=Q;have:=D d' T (by rw [e1];omega);omega
    | _=>simp at S
   rcases o with rfl | ⟨l1,rfl | rfl,U⟩
   .simp only [qcp,List.any_eq_true,zA,Nat.blt_eq] at e;obtain ⟨n,q,x,_⟩:=e;have:=r n q;omega
   .simp only [qcp,List.any_eq_true] at e;obtain ⟨n,q,m,hm,x⟩:=e;have:=zE x;subst this;have S:=r _ hm;have h2:=U _ q;omega
   .simp [qcp] at e
  | _=>simp [goes] at a
theorem qj8 {B old nm:Nat} {q:List Done3} {l:List Done} (h:DRs B l w q l) {f:FP3} (v:(q.filter λd=>!(b.getD i 0).testBit d.i).all (λd=>qkq old d f)=true)
  (x:(∃ j,(f=.read j∨f=.write j)/\(j<old->nm<B))∨(∃ n,f=.stable n/\∃ s ∈ n,qqw B l nm s)∨f=.lone∨f=.call false):nm ∉ (zl b i l).flatMap Done.names:=by
 intro y;obtain ⟨d,e,z⟩:=List.mem_flatMap.1 y;obtain ⟨⟨j,g,mk⟩,c,a⟩:=h.free (λd h=>List.all_eq_true.1 v d h) d e;simp only [qkq,zA] at a;obtain ⟨_,a⟩:=a;have D:=List.mem_range'_1.1 z;have o:=c.i;simp only at o;cases mk with
 | false=>
  have:=c.no rfl;omega
 | true=>
  simp only [Bool.not_true,Bool.false_or] at a;rcases x with ⟨r,A,p⟩ | ⟨n,rfl,s,C,k⟩ | rfl | rfl
  .have:r<old:=by
    rcases A with rfl | rfl<;>simpa [fits,Nat.blt_eq] using a
   have:=p this;have:=c.lo;omega
  .simp only [fits,List.all_eq_true] at a;have t:=a s C;cases s with
   | any=>simp at t
   | calm=>have:=c.lo;simp only [qqw] at k;omega
   | own r=>
    simp only [Bool.not_eq_true',<-Bool.not_eq_true,Nat.beq_eq] at t;obtain ⟨u,m,E,F,G⟩:=k;have H:=h.sorted d (qy4 e) u m;have I:=h.sorted u m d (qy4 e);omega
  .simp [fits] at a
  .simp [fits] at a
theorem qpo {B nm:Nat} {all:List Done} {e:List Done3} {l:List Done} (f:DRs B all w e l) (h:nm<B):nm ∉ (zl b i l).flatMap Done.names:=by
 intro k;obtain ⟨d,a,m⟩:=List.mem_flatMap.1 k;obtain ⟨⟨j,g,mk⟩,c,_⟩:=f.free (P:=λ_=>True) (λ_ _=>trivial) d a;have n:=List.mem_range'_1.1 m;have:=c.lo;omega
theorem qsy {B old:Nat} {a:List Done3} {l:List Done} (c:DRs B l w a l) {f:FP3} (e:(a.filter λd=>!(b.getD i 0).testBit d.i).all (λd=>qkq old d f)=true) (g:f=.lone∨f=.call false):(zl b i l).flatMap Done.names=[]:=by
 rw [List.eq_nil_iff_forall_not_mem];intro nm;exact qj8 c e (.inr (.inr g))
end
end Go.E3
/- E3: REGIONS that draw their order. -/
namespace Go.E3
open Go Go.E2
variable {K:Nat->Type}
section
variable {E:Env} {all:Array Oper} {fr:Fr} {H:Heap} {Q:Ex->Fr->Heap->Prop} {b:Array Nat} {i:Nat} {l:List Oper} {done:List Done} {o:Oper}
theorem za3 {fp:FP} {t:Tgt} {args:List V} {K0:Heap} (hw:qdh o all fr=some true) (h:qha E o fr=.call) (c:fp=bif quv E all b i then .lone else .call) (e:((zl b i done).any λd=>qcp d ((zl b i done).flatMap Done.names) fp)=false)
  (j:kc E o {fr with tmps:=ke fr.tmps (o.looksAt all) .nil} (zo H fp ((zl b i done).flatMap Done.names))=some (.call t args,K0))
  (m:qc5 E t args K0 λv a=>H.next<=a.next/\WpD E all b (i+1) l (⟨i,fp,H.next,a.next,(zl b i done).flatMap Done.names⟩::done) (fr.put o.dst v) (qb4 H a fp ((zl b i done).flatMap Done.names)) Q):WpD E all b i (o::l) done fr H Q:=by
 obtain ⟨v,a,⟨n,p⟩,q,⟨x,⟨r,s⟩,u⟩⟩:=m;refine ⟨x,⟨max r n,λk y=>?_⟩,u⟩;have w:Nat.blt a.next H.next=false:=by
  rw [<-Bool.not_eq_true,Nat.blt_eq];omega
 have f:qft E (qax E k) all o {fr with tmps:=ke fr.tmps (o.looksAt all) .nil} (zo H fp ((zl b i done).flatMap Done.names))=some (.ret v,a):=by
  simp only [qft,qsb,hw,j,p k (by omega)]
 have g:=s k (by omega);subst c;simp only [zl] at g e f;simp only [qc6,hw,zB,zO,h,e,zQ,f,w];exact g
theorem qjq {H H1:Heap} {sz:Nat} {x:V} (b:∀ n ∈ x.nm,H1.get n=H.get n):k7 H1 sz x=k7 H sz x:=by
 cases x with
 | slice nm g off len a cap=>
  have:=b nm (by simp [V.nm]);unfold k7;rcases V.qe3 (nm:=nm) (g:=g) (off:=off) (len:=len) (z:=a) (sz:=sz) (cap:=cap) with e | ⟨_,e⟩<;>rw [e]<;>simp only [qcm,jb,this]
 | _=>rfl
theorem qvl {H H1 H':Heap} {a:List V} {nm g off lim:Nat} (b:H1.ro=H.ro) (i:H1.get nm=H.get nm) (h:qb1 H a (.ptr nm g off lim)=some H'):∃ row,H.get nm≠none/\qb1 H1 a (.ptr nm g off lim)=some (H1.put nm row)/\H'=H.put nm row:=by
 simp only [qb1,i] at h ⊢;split at h
 .rename_i cells e gen c d ex j;cases f:(Nat.beq g gen&&Nat.ble (off+a.length) lim&&Nat.ble lim cells.length&&Nat.ble d off&&a.all V.j7) with
  | false=>rw [f] at h;cases h
  | true=>
   rw [f] at h;simp only [zO] at h;obtain ⟨k,rfl⟩:=qi9 h;refine ⟨_,by rw [j];simp,?_,rfl⟩;simp only [zO];exact qb3 (by rw [b];exact k)
 .cases h
theorem qxz {H H1 H':Heap} {e sz a:Nat} {s x v:V} (B:H1.next=H.next) (f:H1.ro=H.ro) (o:∀ n,n ∈ s.nm∨n ∈ x.nm->H1.get n=H.get n) (h:qbi H e sz a s x=some (v,H')) :
  ∃ m,qbi H1 e sz a s x=some (v,m)/\((m=H1/\H'=H)∨(∃ row,m=H1.new row/\H'=H.new row)∨(∃ nm row,nm ∈ s.nm/\H.get nm≠none/\m=H1.put nm row/\H'=H.put nm row)):=by
 have ex:k7 H1 sz x=k7 H sz x:=qjq λn h=>o n (.inr h);have C:k7 H1 sz s=k7 H sz s:=qjq λn h=>o n (.inl h);unfold qbi at h ⊢;rw [ex,C,B];obtain ⟨⟨n,b⟩,D,h⟩:=zI.1 h;rw [D];simp only [zB];cases s with
 | nils=>
  simp only at h ⊢;cases i:Nat.beq n 0 with
  | true=>
   rw [i] at h;simp only [zO,zS,zP] at h;obtain ⟨rfl,rfl⟩:=h;exact ⟨H1,rfl,.inl ⟨rfl,rfl⟩⟩
  | false=>
   rw [i] at h;simp only [zQ] at h ⊢;cases w:(Nat.ble (n * a) room&&Nat.ble n room) with
   | false=>rw [w] at h;cases h
   | true=>
    rw [w] at h;simp only [zO,zS,zP] at h;obtain ⟨rfl,rfl⟩:=h;exact ⟨_,rfl,.inr (.inl ⟨_,rfl,rfl⟩)⟩
 | slice nm g off len p cap=>
  have j:=o nm (.inl (by simp [V.nm]));simp only [j] at h ⊢;cases y:(!Nat.beq sz p) with
  | true=>rw [y] at h;cases h
  | false=>
   rw [y] at h;simp only [zQ] at h ⊢;cases i:Nat.beq n 0 with
   | true=>
    rw [i] at h;simp only [zO,zS,zP] at h;obtain ⟨rfl,rfl⟩:=h;exact ⟨H1,rfl,.inl ⟨rfl,rfl⟩⟩
   | false=>
    rw [i] at h;simp only [zQ] at h ⊢;cases z:(!(Nat.ble ((len+n) * a) room&&Nat.ble (len+n) room)) with
    | true=>rw [z] at h;cases h
    | false=>
     rw [z] at h;simp only [zQ] at h ⊢;cases A:(!b.all V.j7) with
     | true=>rw [A] at h;cases h
     | false=>
      rw [A] at h;simp only [zQ] at h ⊢;split at h
      .rename_i cells E gen d q F G;cases cap with
       | some c=>
        simp only at h ⊢;cases k:Nat.ble (len+n) c with
        | true=>
         rw [k] at h;simp only [zO] at h ⊢;obtain ⟨I,r,l⟩:=zM.1 h;cases l;obtain ⟨row,t,u,rfl⟩:=qvl f j r;exact ⟨_,by rw [u];rfl,.inr (.inr ⟨nm,row,by simp [V.nm],t,rfl,rfl⟩)⟩
        | false=>
         rw [k] at h;simp only [zQ] at h ⊢;obtain ⟨⟨L,old⟩,r,l⟩:=zM.1 h;cases l;exact ⟨_,by rw [r];rfl,.inr (.inl ⟨_,rfl,rfl⟩)⟩
       | none=>
        simp only at h ⊢;cases k:(Nat.beq g gen&&Nat.beq (off+len * sz) cells.length&&Nat.ble q cells.length&&Nat.ble d gen&&!Nat.beq sz 0&&Nat.beq E e) with
        | false=>rw [k] at h;cases h
        | true=>
         rw [k] at h;simp only [zO] at h ⊢;obtain ⟨I,J,l⟩:=zM.1 h;cases l;obtain ⟨K,rfl⟩:=qi9 J;rw [qb3 (by rw [f];exact K)];exact ⟨_,rfl,.inr (.inr ⟨nm,_,by simp [V.nm],by rw [G];simp,rfl,rfl⟩)⟩
      .cases h
 | _=>simp only at h;cases h
theorem q1o {H H1 H':Heap} {e sz a:Nat} {s x v:V} (d:H1.next=H.next) (c:H1.ro=H.ro) (f:∀ n,n ∈ s.nm∨n ∈ x.nm->H1.get n=H.get n) (h:qbs H e sz a s x=some (v,H')) :
  ∃ b,qbs H1 e sz a s x=some (v,b)/\((b=H1/\H'=H)∨(∃ row,b=H1.new row/\H'=H.new row)∨(∃ nm row,nm ∈ s.nm/\H.get nm≠none/\b=H1.put nm row/\H'=H.put nm row)):=by
 have:=qxz d c (s:=s.qd1 sz) (by rw [V.q6s];exact f) h;rw [V.q6s] at this;exact this
def q8z (m:Nat):V->Bool
 | .nils=>true
 | .slice _ _ _ len _ (some c)=>Nat.beq m 0 || !Nat.ble (len+m) c
 | _=>false
theorem q1n {H H1 H':Heap} {e sz d:Nat} {s x v:V} (z:H1.next=H.next) (l:∀ n,n ∈ s.nm∨n ∈ x.nm->H1.get n=H.get n)
  (o:s=.nils∨∃ nm g off len f c n,s=.slice nm g off len f (some c)/\x.many=some n/\(Nat.beq n 0 || !Nat.ble (len+n) c)=true) (h:qbi H e sz d s x=some (v,H')) :
  ∃ p,qbi H1 e sz d s x=some (v,p)/\((p=H1/\H'=H)∨(∃ row,p=H1.new row/\H'=H.new row)):=by
 have ex:k7 H1 sz x=k7 H sz x:=qjq λn h=>l n (.inr h);have A:k7 H1 sz s=k7 H sz s:=qjq λn h=>l n (.inl h);have j:∀ n a m,k7 H sz x=some (n,a)->x.many=some m->n=m:=by
  intro n a m b k;cases x with
  | nils=>
   simp only [k7,V.qd1,qcm,zS,zP] at b;simp only [V.many,zS] at k;omega
  | slice nm g off len f cap=>
   simp only [V.many,zS] at k;have:=qrm b;omega
  | str s=>
   simp only [V.many,zS] at k;simp only [k7,V.qd1,qcm] at b;cases i:Nat.beq sz 1 with
   | false=>rw [i] at b;cases b
   | true=>
    rw [i] at b;simp only [zO,zS,zP] at b;omega
  | _=>cases k
 unfold qbi at h ⊢;rw [ex,A,z];obtain ⟨⟨n,a⟩,u,h⟩:=zI.1 h;rw [u];simp only [zB];rcases o with rfl | ⟨nm,g,off,len,f,c,m,rfl,B,q⟩
 .simp only at h ⊢;cases i:Nat.beq n 0 with
  | true=>
   rw [i] at h;simp only [zO,zS,zP] at h;obtain ⟨rfl,rfl⟩:=h;exact ⟨H1,rfl,.inl ⟨rfl,rfl⟩⟩
  | false=>
   rw [i] at h;simp only [zQ] at h ⊢;cases w:(Nat.ble (n * d) room&&Nat.ble n room) with
   | false=>rw [w] at h;cases h
   | true=>
    rw [w] at h;simp only [zO,zS,zP] at h;obtain ⟨rfl,rfl⟩:=h;exact ⟨_,rfl,.inr ⟨_,rfl,rfl⟩⟩
 .have r:=l nm (.inl (by simp [V.nm]));have:=j n a m u B;subst this;simp only [r] at h ⊢;cases b:(!Nat.beq sz f) with
  | true=>rw [b] at h;cases h
  | false=>
   rw [b] at h;simp only [zQ] at h ⊢;cases i:Nat.beq n 0 with
   | true=>
    rw [i] at h;simp only [zO,zS,zP] at h;obtain ⟨rfl,rfl⟩:=h;exact ⟨H1,rfl,.inl ⟨rfl,rfl⟩⟩
   | false=>
    rw [i] at h q;simp only [zQ,Bool.false_or,Bool.not_eq_true'] at h q ⊢;cases k:(!(Nat.ble ((len+n) * d) room&&Nat.ble (len+n) room)) with
    | true=>rw [k] at h;cases h
    | false=>
     rw [k] at h;simp only [zQ] at h ⊢;cases y:(!a.all V.j7) with
     | true=>rw [y] at h;cases h
     | false=>
      rw [y] at h;simp only [zQ] at h ⊢;split at h
      .rename_i cells G gen t C D I;simp only [q,zQ] at h ⊢;obtain ⟨⟨J,old⟩,E,F⟩:=zM.1 h;cases F;exact ⟨_,by rw [E];rfl,.inr ⟨_,rfl,rfl⟩⟩
      .cases h
theorem q45 {H H1 H':Heap} {e sz b:Nat} {s x v:V} (k:H1.next=H.next) (l:∀ n,n ∈ s.nm∨n ∈ x.nm->H1.get n=H.get n)
  (d:s=.nils∨∃ nm g off len a c n,s=.slice nm g off len a (some c)/\x.many=some n/\(Nat.beq n 0 || !Nat.ble (len+n) c)=true) (h:qbs H e sz b s x=some (v,H')) :
  ∃ f,qbs H1 e sz b s x=some (v,f)/\((f=H1/\H'=H)∨(∃ row,f=H1.new row/\H'=H.new row)):=by
 refine q1n k (s:=s.qd1 sz) (by rw [V.q6s];exact l) ?_ h;rcases d with rfl | ⟨nm,g,off,len,a,c,n,rfl,i,j⟩
 .exact .inl rfl
 .rcases V.qe3 (nm:=nm) (g:=g) (off:=off) (len:=len) (z:=a) (sz:=sz) (cap:=some c) with e | ⟨_,e⟩
  .exact .inr ⟨_,_,_,_,_,_,_,e,i,j⟩
  .exact .inr ⟨_,_,_,_,_,_,_,e,i,j⟩
theorem qwx {a:Heap} {l dels:List Nat} {n:Nat}:(qb4 H a (.reads l) dels).get n=if n ∈ List.range' H.next (a.next-H.next) then a.get n else H.get n:=by
 simp only [qb4,Heap.get,js]
theorem qh9 {a:Heap} {l dels:List Nat} {n:Nat}:(qb4 H a (.writes l) dels).get n=if n ∈ (l.filter λn=>Nat.blt n H.next&&!dels.any λm=>Nat.beq n m)++List.range' H.next (a.next-H.next) then a.get n else H.get n:=by
 simp only [qb4,Heap.get,js]
theorem qzo {a:Heap} {dels:List Nat} {n:Nat}:(qb4 H a .call dels).get n=if n ∈ List.range' H.next (a.next-H.next) then a.get n else H.get n:=by
 simp only [qb4,Heap.get,js]
end
end Go.E3
/- E3: REGIONS that draw their order: the theorem. -/
namespace Go.E3
open Go Go.E2
variable {K:Nat->Type}
section
variable {X:Codecs K} {sz:Nat->Nat} {C:ZC K} {base:Heap}
variable {tbl:Tbl K} {inv:Nat->List (NV K)->Prop} {meas:Nat->List (NV K)->Nat} {inl:ZI K}
variable {all:Array Oper} {b:Array Nat} {B old:Nat}
structure Mid (X:Codecs K) (sz:Nat->Nat) (C:ZC K) (base:Heap) (B old i:Nat) (w0:Wd) (l3:List Done3) (done:List Done) (st:StV K) (fr:Fr) (H:Heap) (w:Wd):Prop where
 R:Rel X sz C base st fr H w
 D:DRs B done w l3 done
 hB:B<=H.next
 hold:old<=st.next
 lt:∀ id,id<old->w.cl id->w.c id<B
 live:∀ d ∈ l3,∀ id,d.fp=.write id->(look st.cells id).isSome=true
 top:∀ d ∈ done,d.hi<=H.next/\d.i<i
 z:Le w0 w
 z0:∃ st0 H0,RelH X sz C base st0 H0 w0/\H0.next=B
theorem RelH.live {st:StV K} {H:Heap} {w:Wd} (R:RelH X sz C base st H w) {id:Nat} (h:(look st.cells id).isSome=true):w.M (w.c id):=by
 obtain ⟨ct,a⟩:=Option.isSome_iff_exists.1 h;exact (R.cells id ct a).2.1
theorem RelH.lts {st:StV K} {H:Heap} {w:Wd} (R:RelH X sz C base st H w) {nm:Nat} {x:O} (h:w.g nm=some x):nm<H.next:=by
 rw [R.g] at h;by_cases a:nm<H.next
 .exact a
 .rw [R.wf nm (by omega)] at h;cases h
theorem Mid.wr {i:Nat} {w0:Wd} {a:List Done3} {done:List Done} {st:StV K} {fr:Fr} {H:Heap} {w:Wd} (m:Mid X sz C base B old i w0 a done st fr H w):∀ d ∈ a,∀ id,d.fp=.write id->w.M (w.c id):=
 λd b id e=>m.R.h.live (m.live d b id e)
theorem Mid.lt0 {i:Nat} {w0:Wd} {a:List Done3} {done:List Done} {st:StV K} {fr:Fr} {H:Heap} {w:Wd} (m:Mid X sz C base B old i w0 a done st fr H w) {nm:Nat} {x:O} (h:w0.g nm=some x):nm<B:=by
 obtain ⟨st0,H0,b,e⟩:=m.z0;rw [<-e];exact b.lts h
theorem Mid.go (ok:CfgOk X sz C) {i:Nat} {w0:Wd} {I:List Done3} {done:List Done} {st b:StV K} {fr:Fr} {H J:Heap} {w w':Wd} (m:Mid X sz C base B old i w0 I done st fr H w) {f:FP3} {mk:Bool} {fp:FP} {hi:Nat} {dels:List Nat} {dst:Option Tmp} {p:PV K} {v:V}
  (N:b.tmps=st.tmps) (O:b.n=st.n) (u:RelH X sz C base b J w') (hle:Le w w') (P:Rep X sz w' p v) (L:H.next<=J.next) (g:H.next<=hi/\hi<=J.next) (y:mk=false->hi=H.next) (A:fpR B done H.next w' f fp)
  (e:∀ j,(look st.cells j).isSome=true->(look b.cells j).isSome=true) (k:∀ id,f=.write id->(look b.cells id).isSome=true) :
  Mid X sz C base B old (i+1) w0 (⟨i,f,mk⟩::I) (⟨i,fp,H.next,hi,dels⟩::done) (b.put dst p) (fr.put dst v) J w':=by
 have E:∀ id,w.cl id->id<w.n:=λid h=>by rw [m.R.h.n];exact (m.R.h.cl id h).1
 have l:∀ id,w'.cl id->id<w'.n:=λid h=>by rw [u.n];exact (u.cl id h).1
 have F:∀ (s:StV K),(s.put dst p).next=s.next:=by
  intro s;unfold St.put;split
  .obtain ⟨t,n,c,o,x,Q⟩:=s;simp only;cases Nat.blt _ n<;>rfl
  .rfl
 have G:∀ (s:StV K),(s.put dst p).cells=s.cells:=by
  intro s;unfold St.put;split
  .obtain ⟨t,n,c,o,x,Q⟩:=s;simp only;cases Nat.blt _ n<;>rfl
  .rfl
 refine ⟨(m.R.step ok N O u hle).put P,.cons ⟨rfl,m.hB,g.1,y,A.mono (.refl w') (λd a=>zG _ a) l⟩ (λd a=>m.top d a) (m.D.mono hle (λd a=>zG _ a) E),zR m.hB L,?_,λid q S=>?_,λd a id M=>?_,λd a=>?_,m.z.trans hle,m.z0⟩
 .rw [F];have:=hle.n;rw [m.R.h.n,u.n] at this;exact zR m.hold this
 .have r:id<w.n:=by rw [m.R.h.n];exact zL q m.hold
  rw [hle.c id r];exact m.lt id q ((hle.cl id r).1 S)
 .rw [G];rcases zD.1 a with rfl | a
  .exact k id M
  .exact e id (m.live d a id M)
 .rcases zD.1 a with rfl | a
  .exact ⟨g.2,Nat.lt_succ_self _⟩
  .exact ⟨zR (m.top d a).1 L,Nat.lt_succ_of_lt (m.top d a).2⟩
def q8c:PV K->Bool
 | .eptr ..=>true
 | .list ..=>true
 | _=>false
def Whole (v:V):Prop:=∃ nm len z,v=.slice nm 0 0 len z (some len)
structure Cm (X:Codecs K) (sz:Nat->Nat) (B:Nat) (w0:Wd) (done:List Done) (dt:Dirt) (st:StV K) (fr:Fr):Prop where
 calm:∀ t p v,dt.dirty.any (Nat.beq t)=false->st.tmps.get t=some p->q8c p=true->fr.tmp t=some v->∀ n ∈ v.nm,n<B
 rep:∀ t c l own v,dt.dirty.any (Nat.beq t)=false->st.tmps.get t=some (.list c l own)->fr.tmp t=some v->Rep X sz w0 (.list c l none) v
 fresh:∀ t j wh v,look dt.fresh t=some (j,wh)->fr.tmp t=some v->(∀ n ∈ v.nm,qqw B done n (.own j))/\(wh=true->Whole v)
structure NewV (X:Codecs K) (sz:Nat->Nat) (B:Nat) (w0:Wd) (done:List Done) (cb:Bool) (fb:Option (Nat×Bool)) (p:PV K) (v:V):Prop where
 calm:cb=true->q8c p=true->∀ n ∈ v.nm,n<B
 rep:∀ c l own,cb=true->p=.list c l own->Rep X sz w0 (.list c l none) v
 fresh:∀ j wh,fb=some (j,wh)->(∀ n ∈ v.nm,qqw B done n (.own j))/\(wh=true->Whole v)
theorem NewV.no {w0:Wd} {done:List Done} {p:PV K} {v:V}:NewV X sz B w0 done false none p v:=⟨λh=>by (cases h),λ_ _ _ h=>by (cases h),λ_ _ h=>by (cases h)⟩
theorem qro {fr:Fr} {dst:Option Tmp} {v u:V} {t:Nat} (h:(fr.put dst v).tmp t=some u):(dst=some t/\u=v)∨fr.tmp t=some u:=by
 cases dst with
 | none=>exact .inr h
 | some d=>
  obtain ⟨c,n,e⟩:=fr;simp only [Fr.put] at h;cases b:Nat.blt d n with
  | false=>rw [b] at h;exact .inr h
  | true=>
   rw [b] at h;simp only [zO,Fr.tmp,Tree.kv] at h;by_cases a:t=d
   .rw [zT a] at h;cases h;exact .inl ⟨by rw [a],rfl⟩
   .rw [zF a] at h;exact .inr h
theorem q0v {st:StV K} {dst:Option Tmp} {p q:PV K} {t:Nat} (h:(st.put dst p).tmps.get t=some q):dst=some t∨st.tmps.get t=some q:=by
 cases dst with
 | none=>exact .inr h
 | some d=>
  obtain ⟨e,n,c,f,x,g⟩:=st;simp only [St.put] at h;cases a:Nat.blt d n with
  | false=>rw [a] at h;exact .inr h
  | true=>
   rw [a] at h;simp only [zO,Tree.kv] at h;by_cases b:t=d
   .exact .inl (by rw [b])
   .rw [zF b] at h;exact .inr h
theorem qug {fr:Fr} {t:Nat} {v:V} (h:Nat.blt t fr.n=true):(fr.put (some t) v).tmp t=some v:=by
 obtain ⟨a,m,b⟩:=fr;simp only at h;simp only [Fr.put,h,zO,Fr.tmp,Tree.kv,zT]
theorem q4c {st:StV K} {t:Nat} {p:PV K} (h:Nat.blt t st.n=true):(st.put (some t) p).tmps.get t=some p:=by
 obtain ⟨a,m,c,b,x,d⟩:=st;simp only at h;simp only [St.put,h,zO,Tree.kv,zT]
theorem zl0 {fr:Fr} {t:Nat} {v:V} (h:Nat.blt t fr.n=false):(fr.put (some t) v)=fr:=by
 obtain ⟨a,m,b⟩:=fr;simp only at h;simp only [Fr.put,h,zQ]
theorem zo3 {st:StV K} {t:Nat} {p:PV K} (h:Nat.blt t st.n=false):(st.put (some t) p)=st:=by
 obtain ⟨a,m,c,b,x,d⟩:=st;simp only at h;simp only [St.put,h,zQ]
theorem ql0 {α:Type}:∀ {l:List (Nat×α)} {d t:Nat} {x:α},look (qb2 l d) t=some x->t≠d/\look l t=some x
 | [],d,t,x,h=>by simp [qb2,look] at h
 | (i,y)::l,d,t,x,h=>by
  simp only [qb2,cond_eq_ite,Nat.beq_eq] at h;by_cases hi:i=d
  .rw [zT hi] at h;obtain ⟨b,c⟩:=ql0 h;refine ⟨b,?_⟩;simp only [look,cond_eq_ite,Nat.beq_eq];rw [zF (by omega)];exact c
  .rw [zF hi] at h;simp only [look,cond_eq_ite,Nat.beq_eq] at h ⊢;by_cases a:i=t
   .rw [zT a] at h ⊢;exact ⟨by omega,h⟩
   .rw [zF a] at h ⊢;exact ql0 h
theorem Cm.put {w0:Wd} {done done':List Done} {C:Dirt} {st w:StV K} {fr:Fr} {D:Bool} {y:Option (Nat×Bool)} {dst:Option Tmp} {p:PV K} {v:V} (h:Cm X sz B w0 done C st fr) (J:∀ d ∈ done,d ∈ done') (E:w.tmps=st.tmps) (z:fr.n=w.n) (L:∀ x d,y=some x->dst=some d->Nat.blt d fr.n=true)
  (M:NewV X sz B w0 done' D y p v):Cm X sz B w0 done' (zdb C D y dst) (w.put dst p) (fr.put dst v):=by
 cases dst with
 | none=>
  refine ⟨λt q u f b i A=>?_,λt c l own u f b i=>?_,λt j m u f b=>?_⟩
  .exact h.calm t q u f (by rw [<-E];exact b) i A
  .exact h.rep t c l own u f (by rw [<-E];exact b) i
  .obtain ⟨F,G⟩:=h.fresh t j m u f b;exact ⟨λn H=>(F n H).more J,G⟩
 | some d=>
  have a:∀ t,(zdb C D y (some d)).dirty.any (Nat.beq t)=false->C.dirty.any (Nat.beq t)=false/\(t=d->D=true):=by
   intro t e;simp only [zdb] at e;cases N:D with
   | true=>rw [N] at e;exact ⟨e,λ_=>rfl⟩
   | false=>
    rw [N] at e;simp only [zQ,List.any_cons,Bool.or_eq_false_iff] at e;refine ⟨e.2,λg=>?_⟩;rw [g] at e;simp at e
  have I:∀ t j m,look (zdb C D y (some d)).fresh t=some (j,m)->(t=d/\y=some (j,m))∨(t≠d/\look C.fresh t=some (j,m)):=by
   intro t j m e;simp only [zdb] at e;cases o:y with
   | none=>
    rw [o] at e;exact .inr (ql0 e)
   | some x=>
    rw [o] at e;simp only [look,cond_eq_ite,Nat.beq_eq] at e;by_cases g:d=t
    .rw [zT g] at e;simp only [zS,zP] at e;exact .inl ⟨g.symm,by rw [<-e.1,<-e.2]⟩
    .rw [zF g] at e;exact .inr (ql0 e)
  cases r:Nat.blt d fr.n with
  | false=>
   rw [zl0 r,zo3 (by rw [<-z];exact r)];refine ⟨λt q u f b i A=>?_,λt c l own u f b i=>?_,λt j m u f b=>?_⟩
   .exact h.calm t q u (a t f).1 (by rw [<-E];exact b) i A
   .exact h.rep t c l own u (a t f).1 (by rw [<-E];exact b) i
   .rcases I t j m f with ⟨rfl,o⟩ | ⟨_,o⟩
    .exfalso;rw [L _ _ o rfl] at r;cases r
    .obtain ⟨F,G⟩:=h.fresh t j m u o b;exact ⟨λn H=>(F n H).more J,G⟩
  | true=>
   refine ⟨λt q u f b i A=>?_,λt c l own u f b i=>?_,λt j m u f b=>?_⟩
   .by_cases g:t=d
    .subst g;rw [qug r] at A;rw [q4c (by rw [<-z];exact r)] at b;cases A;cases b;exact M.calm ((a t f).2 rfl) i
    .rcases qro A with ⟨k,_⟩ | k
     .simp only [zS] at k;exact absurd k.symm g
     .rcases q0v b with s | s
      .simp only [zS] at s;exact absurd s.symm g
      .exact h.calm t q u (a t f).1 (by rw [<-E];exact s) i k
   .by_cases g:t=d
    .subst g;rw [qug r] at i;rw [q4c (by rw [<-z];exact r)] at b;cases i;exact M.rep c l own ((a t f).2 rfl) (Option.some.inj b)
    .rcases qro i with ⟨k,_⟩ | k
     .simp only [zS] at k;exact absurd k.symm g
     .rcases q0v b with s | s
      .simp only [zS] at s;exact absurd s.symm g
      .exact h.rep t c l own u (a t f).1 (by rw [<-E];exact s) k
   .rcases I t j m f with ⟨rfl,o⟩ | ⟨g,o⟩
    .rw [qug r] at b;cases b;exact M.fresh j m o
    .rcases qro b with ⟨k,_⟩ | k
     .simp only [zS] at k;exact absurd k.symm g
     .obtain ⟨F,G⟩:=h.fresh t j m u o k;exact ⟨λn H=>(F n H).more J,G⟩
theorem q9w {o:Oper} {fr:Fr} {H H':Heap} (a:∀ x ∈ o.op.operands.toList,∀ g,x≠.global g):∀ x ∈ o.op.operands.toList,opd {fr with tmps:=ke fr.tmps (o.looksAt all) .nil} H' x=opd fr H x:=
 λx b=>qgj b (a x b)
theorem Rel.cm {st:StV K} {fr:Fr} {H:Heap} {w:Wd} (R:Rel X sz C base st fr H w):Cm X sz H.next w [] ⟨[],[]⟩ st fr:=by
 refine ⟨λt p v _ i m k n a=>?_,λt c l own v _ i k=>?_,λt j z v h=>by simp [look] at h⟩
 .obtain ⟨u,b,r⟩:=R.f t p i;rw [k] at b;cases b;cases r with
  | eptr d=>simp only [V.nm,List.mem_singleton] at a;subst a;exact R.h.lts d
  | list d=>simp only [V.nm,List.mem_singleton] at a;subst a;exact R.h.lts d
  | nlist=>simp [V.nm] at a
  | _=>simp [q8c] at m
 .obtain ⟨u,b,r⟩:=R.f t _ i;rw [k] at b;cases b;cases r with
  | nlist h=>exact .nlist trivial
  | list d o q e s x g y A=>exact .list d o q e s x g y trivial
theorem qet {α:Type} {c:Bool} {x:Option α} {r:α} (h:(bif c then x else none)=some r):c=true/\x=some r:=by
 cases c with
 | false=>cases h
 | true=>exact ⟨rfl,h⟩
theorem zs0 {fr fr':Fr} {H' J:Heap} {o:Oper} {v:V} {t:Nat} (p:(∃ ty i,o.op=.indexAddr ty (.tmp t) i)∨(∃ ty i,o.op=.fieldAddr ty (.tmp t) i))
  (k:∀ x ∈ o.op.operands.toList,opd fr' H' x=opd fr J x) (e:kc C.E o fr' H'=some (.val v,H')):(∃ a b c d,v=.ptr a b c d)/\∃ u,fr.tmp t=some u/\∀ n ∈ v.nm,n ∈ u.nm:=by
 rcases p with ⟨ty,i,l⟩ | ⟨ty,i,l⟩
 .simp only [kc,l] at e;obtain ⟨ti,_,e⟩:=zI.1 e;obtain ⟨u,h,e⟩:=zI.1 e;obtain ⟨j,_,e⟩:=zI.1 e;rw [k _ (by simp [l,Op.operands])] at h;split at e
  .obtain ⟨q,_,e⟩:=zI.1 e;obtain ⟨z,g,e⟩:=zM.1 e;simp only [zP,Out.val.injEq,and_true] at e;subst e;unfold qgf at g;split at g
   .split at g
    .cases g;exact ⟨⟨_,_,_,_,rfl⟩,_,h,λn m=>m⟩
    .cases g
   .cases g
  .obtain ⟨q,_,e⟩:=zI.1 e;split at e
   .split at e
    .cases e;exact ⟨⟨_,_,_,_,rfl⟩,_,h,λn m=>m⟩
    .cases e
   .cases e
  .cases e
 .simp only [kc,l] at e;obtain ⟨ti,_,e⟩:=zI.1 e;obtain ⟨f,_,e⟩:=zI.1 e;obtain ⟨r,_,e⟩:=zI.1 e;cases g:Nat.beq r.size 0 with
  | true=>rw [g] at e;cases e
  | false=>
   rw [g] at e;simp only [zQ] at e;obtain ⟨u,h,e⟩:=zI.1 e;rw [k _ (by simp [l,Op.operands])] at h;split at e
   .cases e;exact ⟨⟨_,_,_,_,rfl⟩,_,h,λn m=>m⟩
   .cases e
theorem q8b {st:StV K} {t:Nat} (h:elemAt st t=true):∃ p,st.tmps.get t=some p/\q8c p=true:=by
 unfold elemAt at h;split at h
 .rename_i a;exact ⟨_,a,rfl⟩
 .rename_i a;exact ⟨_,a,rfl⟩
 .cases h
theorem q3q {w0:Wd} {done done':List Done} {e:Dirt} {st:StV K} {fr fr':Fr} {H' J:Heap} {o:Oper} {p:PV K} {v:V} {i:Nat} {w':Wd} (h:Cm X sz B w0 done e st fr) (I:∀ d ∈ done,d ∈ done') (r:Rep X sz w' p v)
  (s:qfs o.op=true) (y:∀ t,o.op≠.move (.tmp t)) (z:∀ x ∈ o.op.operands.toList,opd fr' H' x=opd fr J x) (he:kc C.E o fr' H'=some (.val v,H')) :
  NewV X sz B w0 done' (qh2 e st o.op) (qay e st i o) p v:=by
 have m:∀ t,((∃ ty i,o.op=.indexAddr ty (.tmp t) i)∨(∃ ty i,o.op=.fieldAddr ty (.tmp t) i))->NewV X sz B w0 done' (!e.dirty.any (Nat.beq t)&&elemAt st t) (match o.dst with | some d=>bif Nat.blt d st.n then (bif elemAt st t then (look e.fresh t).map λx=>(x.1,false) else none) else none | none=>none) p v:=by
  intro t a;obtain ⟨⟨A,Q,R,S,rfl⟩,u,D,F⟩:=zs0 a z he;refine ⟨λw _ n g=>?_,λc l own w s=>?_,λj T b=>?_⟩
  .simp only [zA,Bool.not_eq_true'] at w;obtain ⟨q,L,f⟩:=q8b w.2;exact h.calm t q u w.1 L f D n (F n g)
  .subst s;cases r
  .split at b
   .rename_i d _;cases G:Nat.blt d st.n with
    | false=>rw [G] at b;cases b
    | true=>
     rw [G] at b;cases f:elemAt st t with
     | false=>rw [f] at b;cases b
     | true=>
      rw [f] at b;simp only [zO] at b;obtain ⟨⟨U,M⟩,N,H⟩:=zM.1 b;simp only [zP] at H;obtain ⟨rfl,rfl⟩:=H;obtain ⟨A,_⟩:=h.fresh t _ _ u N D;exact ⟨λn g=>(A n (F n g)).more I,λO=>by cases O⟩
   .cases b
 cases a:o.op with
 | indexAddr ty x P=>
  cases x with
  | tmp t=>
   have:=m t (.inl ⟨_,_,a⟩);simp only [qay,a,qin,qh2];exact this
  | _=>
   have k:qay e st i o=none:=by
    unfold qay;split
    .simp only [a,qin];cases Nat.blt _ st.n<;>rfl
    .rfl
   rw [k];exact .no
 | fieldAddr ty x P=>
  cases x with
  | tmp t=>
   have:=m t (.inr ⟨_,_,a⟩);simp only [qay,a,qin,qh2];exact this
  | _=>
   have k:qay e st i o=none:=by
    unfold qay;split
    .simp only [a,qin];cases Nat.blt _ st.n<;>rfl
    .rfl
   rw [k];exact .no
 | move x=>
  cases x with
  | tmp t=>exact absurd a (y t)
  | _=>
   have k:qay e st i o=none:=by
    unfold qay;split
    .simp only [a,qin];cases Nat.blt _ st.n<;>rfl
    .rfl
   rw [k];exact .no
 | buildSlice=>rw [a] at s;simp [qfs] at s
 | _=>
  have k:qay e st i o=none:=by
   unfold qay;split
   .simp only [a,qin];cases Nat.blt _ st.n<;>rfl
   .rfl
  rw [k];exact .no
theorem zci {w0:Wd} {done:List Done} {c:Dirt} {st:StV K} {o:Oper} {p:PV K} {v:V} {i:Nat} {fr':Fr} {T l:Heap} {t:TypeId} {n:Nat} {parts:Array (Nat×Operand)} (e:o.op=.buildSlice t n parts)
  (a:kc C.E o fr' T=some (.val v,l)) (q:∃ d ∈ done,d.i=i/\d.lo<=T.next/\T.next<d.hi):NewV X sz B w0 done (qh2 c st o.op) (qay c st i o) p v:=by
 have r:∃ len z,v=.slice T.next 0 0 len z (some len):=by
  simp only [kc,e] at a;obtain ⟨ti,_,a⟩:=zI.1 a;obtain ⟨w,_,a⟩:=zI.1 a;split at a
  .obtain ⟨s,_,a⟩:=zI.1 a;cases g:Nat.ble (n * s.size) 16777216 with
   | false=>rw [g] at a;cases a
   | true=>
    rw [g] at a;simp only [zO] at a;obtain ⟨cells,_,a⟩:=zM.1 a;simp only [zP,Out.val.injEq] at a;exact ⟨_,_,a.1.symm⟩
  .cases a
 obtain ⟨len,z,rfl⟩:=r;have u:qh2 c st o.op=false:=by rw [e];rfl
 rw [u];refine ⟨λf=>(by cases f),λ_ _ _ f=>(by cases f),λj x b=>?_⟩;unfold qay at b;split at b
 .rw [e] at b;rcases qet b with ⟨_,h⟩
  simp only [qin,zS,zP] at h;obtain ⟨rfl,rfl⟩:=h;refine ⟨λm k=>?_,λ_=>⟨_,_,_,rfl⟩⟩;simp only [V.nm,List.mem_singleton] at k;subst k;exact q
 .cases b
theorem zgb {w0:Wd} {done:List Done} {a:Dirt} {st:StV K} {fr:Fr} (h:Cm X sz B w0 done a st fr) {t:Nat} {p:PV K} {v:V} (d:st.tmps.get t=some p) (he:q8c p=true) (b:fr.tmp t=some v):∀ n ∈ v.nm,qqw B done n (ztd a t):=by
 intro n c;unfold ztd;cases e:a.dirty.any (Nat.beq t) with
 | false=>exact h.calm t p v e d he b n c
 | true=>
  simp only [Bool.not_true,zQ];split
  .rename_i j f g;exact (h.fresh t j f v g b).1 n c
  .trivial
theorem q3v {st:StV K}:∀ {l:List Operand} {ps:List (PV K)},qgw (ql X tbl inv meas) C st l=some ps->∀ x ∈ l,∃ p,ju (ql X tbl inv meas) C st x=some p
 | [],_,_,x,a=>by cases a
 | y::l,ps,h,x,a=>by
  simp only [qgw] at h;obtain ⟨q,b,c⟩:=zI.1 h;obtain ⟨e,d,_⟩:=zM.1 c;rcases zD.1 a with rfl | a
  .exact ⟨q,b⟩
  .exact q3v d x a
theorem q70 (ok:CfgOk X sz C) (ok2:CfgOk2 X C) {w w0:Wd} {done:List Done} {D:Dirt} {st:StV K} {fr:Fr} {H:Heap} (j:Cm X sz B w0 done D st fr) {g1:Nat->Option O}
  (k:∀ nm cs e gen a b ex,w0.g nm=some (.row cs e gen a b ex)->¬ w0.M nm->¬ ({w with g:=g1}:Wd).M nm/\∃ cs2 m n ex',({w with g:=g1}:Wd).g nm=some (.row (cs++cs2) e m a n ex'))
  (d:∀ nm,nm<B->g1 nm=w.g nm) {x:Operand} {p:PV K} {v:V} (f:qsq (ql X tbl inv meas) C D st x=true) (N:ju (ql X tbl inv meas) C st x=some p) (R:opd fr H x=some v) (r:Rep X sz w p v):Rep X sz {w with g:=g1} p v:=by
 unfold qsq at f;rw [N] at f;cases p with
 | int=>cases r with | int h=>exact .int h
 | str=>cases r;exact .str
 | lit=>cases r;exact .lit
 | sb=>cases r with | sb E F G=>exact .sb E F G
 | nils=>cases r;exact .nils
 | list c l own=>
  simp only at f;split at f
  .rename_i t;have P:D.dirty.any (Nat.beq t)=false:=by simpa using f
   have o:st.tmps.get t=some (.list c l own):=N;have q:fr.tmp t=some v:=R;have S:=(j.rep t c l own v P o q).zof ok.len ok2.plain k .list;have I:=j.calm t _ v P o rfl q;have Q:qoi w sz c own v->qoi {w with g:=g1} sz c own v:=by
    intro h;cases own with
    | none=>trivial
    | some y=>
     obtain ⟨i,s⟩:=y;obtain ⟨E,F,G,T⟩:=h;refine ⟨E,F,λU=>?_,T⟩;have:=G U;cases v with
     | slice nm gn off len z cap=>
      simp only [qws] at this ⊢;rcases this with J | ⟨J,W,cs,e,a,b,ex,Y,Z⟩
      .exact .inl J
      .exact .inr ⟨J,W,cs,e,a,b,ex,by rw [d nm (I nm (by simp [V.nm]))];exact Y,Z⟩
     | _=>exact this
   cases S with
   | nlist _=>
    cases r with
    | nlist h=>exact .nlist (Q h)
   | list hg hf hM u hb hz A L _=>
    cases r with
    | list _ _ _ _ _ _ _ _ h=>exact .list hg hf hM u hb hz A L (Q h)
  .cases f
 | _=>simp at f
theorem qsr (ok:CfgOk X sz C) (ok2:CfgOk2 X C) {w w0:Wd} {done:List Done} {o:Dirt} {st:StV K} {fr:Fr} {H:Heap} (d:Cm X sz B w0 done o st fr) {g1:Nat->Option O}
  (c:∀ nm cs e gen a k ex,w0.g nm=some (.row cs e gen a k ex)->¬ w0.M nm->¬ ({w with g:=g1}:Wd).M nm/\∃ cs2 f h ex',({w with g:=g1}:Wd).g nm=some (.row (cs++cs2) e f a h ex'))
  (b:∀ nm,nm<B->g1 nm=w.g nm):∀ {l:List Operand} {ps:List (PV K)} {i:List V},l.all (qsq (ql X tbl inv meas) C o st)=true->qgw (ql X tbl inv meas) C st l=some ps->qcy fr H l=some i->qj X sz w ps i->qj X sz {w with g:=g1} ps i
 | [],ps,i,_,j,m,r=>by
  simp only [qgw,zS] at j;subst j;rw [r.ka];exact .nil
 | x::l,ps,i,n,j,m,r=>by
  simp only [List.all_cons,zA] at n;simp only [qgw] at j;obtain ⟨p,s,t⟩:=zI.1 j;obtain ⟨u,y,rfl⟩:=zM.1 t;simp only [qcy] at m;obtain ⟨v,z,A⟩:=zI.1 m;obtain ⟨D,E,rfl⟩:=zM.1 A;obtain ⟨I,q,F,r1,G⟩:=r.zt;cases F;exact .cons (q70 ok ok2 d c b n.1 s z r1) (qsr ok ok2 d c b n.2 y E G)
theorem qc3 {w0:Wd} {done:List Done} {a:Dirt} {st:StV K} {o:Oper} {p:PV K} {v:V} {i:Nat} (h:(match o.op with | .move _ | .indexAddr .. | .fieldAddr .. | .buildSlice ..=>false | _=>true)=true) :
  NewV X sz B w0 done (qh2 a st o.op) (qay a st i o) p v:=by
 have c:qay a st i o=none:=by
  unfold qay;split
  .cases b:o.op<;>simp [b] at h<;>simp only [qin]<;>cases Nat.blt _ st.n<;>rfl
  .rfl
 have d:qh2 a st o.op=false:=by
  cases b:o.op<;>simp [b] at h<;>rfl
 rw [c,d];exact .no
theorem qnu {st:StV K} {fr:Fr} {H:Heap} {o:Oper} {x:Operand} {v:V} (b:x ∈ o.op.operands.toList) (a:(qge x).isEmpty=true) (c:opd fr H x=some v) (H0:Heap):opd {fr with tmps:=ke fr.tmps (o.looksAt all) .nil} H0 x=some v:=by
 have:opd {fr with tmps:=ke fr.tmps (o.looksAt all) .nil} H0 x=opd fr H x:=qgj b (by intro g d;subst d;simp [qge] at a);rw [this];exact c
theorem zm3 (ok:CfgOk X sz C) {i:Nat} {w0:Wd} {P:List Done3} {done:List Done} {st:StV K} {fr:Fr} {H:Heap} {w:Wd} (m:Mid X sz C base B old i w0 P done st fr H w) {dt:Dirt} {o:Oper} {l:List Oper} {Q:Ex->Fr->Heap->Prop}
  {k:PV K->StV K->Prop} {f:FP3} (hw:qdh o all fr=some true) (ha:(P.filter λd=>!(b.getD i 0).testBit d.i).all (λd=>qkq old d f)=true)
  (S:∀ p e,k p e->∀ j,(look st.cells j).isSome=true->(look e.cells j).isSome=true)
  {t:TypeId} {m0 x:Operand} {u:Bool} (y:o.op=.lookup t m0 x u) (z:∃ d id,m0=.tmp d/\st.tmps.get d=some (.map id)/\(bif (qge x).isEmpty then some (FP3.read id) else none)=some f) {pm px:PV K} (A:ju (ql X tbl inv meas) C st m0=some pm) (T:ju (ql X tbl inv meas) C st x=some px) (h:qxc (ql X tbl inv meas) C t u pm px st k)
  (next:∀ p e v J w' a,k p e->(e.tmps=st.tmps/\e.n=st.n)->(∀ d ∈ done,d ∈ a)->NewV X sz B w0 a (qh2 dt st o.op) (qay dt st i o) p v->Le w w'->Mid X sz C base B old (i+1) w0 (⟨i,f,makes o.op⟩::P) a (e.put o.dst p) (fr.put o.dst v) J w'->WpD C.E all b (i+1) l a (fr.put o.dst v) J Q):WpD C.E all b i (o::l) done fr H Q:=by
 have more:∀ (d:Done),∀ x ∈ done,x ∈ d::done:=λd x hx=>zG _ hx;have R:=m.R;obtain ⟨vm,em,rm⟩:=qq R A;obtain ⟨vx,ex,rx⟩:=qq R T;obtain ⟨id,p,e,v,w',rfl,rfl,U,F,W,h3,q,R',s,r',Y⟩:=qq1 ok R.h rm rx h;obtain ⟨d,a8,rfl,Z,z⟩:=z;have r:st.tmps.get d=some (.map id):=A;rw [Z] at r;cases r;obtain ⟨G,z⟩:=qet z;cases z;have hd:d ∈ o.looksAt all:=by simp [Oper.looksAt,y,Op.operands]
 have a1:fr.tmp d=some (.map (w.c id)):=em;have a6:qav fr [x]=[]:=by
  cases x with
  | tmp t'=>
   have:fr.tmp t'=some vx:=ex;simp only [qav,List.flatMap_cons,List.flatMap_nil,qnq,this,W,zJ]
  | global g=>simp [qge] at G
  | _=>rfl
 have a7:qha C.E o fr=.reads [w.c id]:=by
  simp only [qha,y,z6,Op.operands];refine congrArg FP.reads ?_;show qnq fr (.tmp d)++qav fr [x]=_;rw [a6];simp only [qnq,a1,V.nm,zJ]
 have I:=qj8 (nm:=w.c id) m.D ha (.inl ⟨id,.inl rfl,λL=>m.lt id L F⟩);have M:=qi8 (H:=H) (l:=[w.c id]) (dels:=(zl b i done).flatMap Done.names) (List.mem_singleton.2 rfl) U I;have N:fpR B done H.next w (.read id) (.reads [w.c id]):=⟨rfl,F⟩
 have O:∀ id,w.cl id->id<w.n:=λid h=>by rw [R.h.n];exact (R.h.cl id h).1
 refine qcl (fp:=.reads [w.c id]) (out:=.val v) (v:=v) (K:=zo H (.reads [w.c id]) ((zl b i done).flatMap Done.names)) hw a7 (by simp) (qe2 R.h m.D m.wr (λid he=>by cases he) N ha) ?_ (.inl rfl) (zN _) ?_
 .refine Y o (.tmp d) x _ _ y ?_ (qnu (st:=st) (by simp [y,Op.operands]) G ex _) M;simp only [opd,qcu hd];exact em
 .rw [qi2];exact next _ _ v H w' _ h3 ⟨q.tmps,q.n⟩ (more _) (qc3 (by rw [y])) s (m.go ok q.tmps q.n R' s r' (zN _) ⟨zN _,zN _⟩ (λ_=>rfl) (N.mono s (λ_ h=>h) O) (S _ _ h3) (λid he=>by cases he))
theorem q3j (ok:CfgOk X sz C) {i:Nat} {w0:Wd} {Z:List Done3} {done:List Done} {st:StV K} {fr:Fr} {H:Heap} {w:Wd} (m:Mid X sz C base B old i w0 Z done st fr H w) {dt:Dirt} {o:Oper} {l:List Oper} {Q:Ex->Fr->Heap->Prop}
  {k:PV K->StV K->Prop} {f:FP3} (hw:qdh o all fr=some true) (ha:(Z.filter λd=>!(b.getD i 0).testBit d.i).all (λd=>qkq old d f)=true)
  (a1:∀ p e,k p e->∀ j,(look st.cells j).isSome=true->(look e.cells j).isSome=true)
  {t:TypeId} {m0 x y:Operand} (a:o.op=.mapUpdate t m0 x y∨o.op=.insert t m0 x y) (I:∃ d id,m0=.tmp d/\st.tmps.get d=some (.map id)/\(bif (qge x).isEmpty&&(qge y).isEmpty then some (FP3.write id) else none)=some f) {pm px py:PV K} (L:ju (ql X tbl inv meas) C st m0=some pm) (a6:ju (ql X tbl inv meas) C st x=some px) (a7:ju (ql X tbl inv meas) C st y=some py) (h:qs9 (ql X tbl inv meas) C t pm px py st k)
  (next:∀ p e v J w' g,k p e->(e.tmps=st.tmps/\e.n=st.n)->(∀ d ∈ done,d ∈ g)->NewV X sz B w0 g (qh2 dt st o.op) (qay dt st i o) p v->Le w w'->Mid X sz C base B old (i+1) w0 (⟨i,f,makes o.op⟩::Z) g (e.put o.dst p) (fr.put o.dst v) J w'->WpD C.E all b (i+1) l g (fr.put o.dst v) J Q):WpD C.E all b i (o::l) done fr H Q:=by
 have more:∀ (d:Done),∀ x ∈ done,x ∈ d::done:=λd x hx=>zG _ hx;have R:=m.R;obtain ⟨vm,em,rm⟩:=qq R L;obtain ⟨vx,ex,rx⟩:=qq R a6;obtain ⟨vy,ey,ry⟩:=qq R a7;obtain ⟨id,e,row,w',rfl,rfl,N,F,O,s,h4,e1,e2,R',G,a8,aa⟩:=qmd ok R.h rm rx ry h;obtain ⟨d,aj,rfl,ab,I⟩:=I;have u:st.tmps.get d=some (.map id):=L;rw [ab] at u;cases u;obtain ⟨q,I⟩:=qet I;cases I;simp only [zA] at q;have P:qge x=[]:=by simpa using q.1
 have S:qge y=[]:=by simpa using q.2
 have z:Operand.tmp d ∈ o.op.operands.toList/\x ∈ o.op.operands.toList/\y ∈ o.op.operands.toList:=by rcases a with a | a<;>simp [a,Op.operands]
 have hd:d ∈ o.looksAt all:=by rcases a with a | a<;>simp [Oper.looksAt,a,Op.operands]
 have ad:fr.tmp d=some (.map (w.c id)):=em;have ae:∀ r,FP3.write id=FP3.write r->w.M (w.c r):=by
  intro r he;cases he;exact R.h.live s
 have af:qha C.E o fr=.writes [w.c id]:=by
  rcases a with a | a<;>simp only [qha,a,z6,Bool.not_true,zQ,qnq,ad,V.nm,P,S,zJ]
 have T:fpR B done H.next w (.write id) (.writes [w.c id]):=⟨rfl,O⟩
 have U:∀ id,w.cl id->id<w.n:=λid h=>by rw [R.h.n];exact (R.h.cl id h).1
 have A:=qj8 (nm:=w.c id) m.D ha (.inl ⟨id,.inr rfl,λW=>m.lt id W O⟩);have Y:=qn2 (H:=H) (l:=[w.c id]) (dels:=(zl b i done).flatMap Done.names) (List.mem_singleton.2 rfl) N A;have ag:(zo H (.writes [w.c id]) ((zl b i done).flatMap Done.names)).ro<=w.c id:=by
  show H.ro<=w.c id;rw [R.h.keeps.ro];exact zR R.h.rob.1 F
 have ak:makes o.op=false:=by rcases a with a | a<;>rw [a]<;>rfl
 refine qcl (fp:=.writes [w.c id]) (out:=.skip) (v:=je) (K:=(zo H (.writes [w.c id]) ((zl b i done).flatMap Done.names)).put (w.c id) row) hw af (by simp) (qe2 R.h m.D m.wr ae T ha) ?_ (.inr ⟨rfl,rfl⟩) (zN _) ?_
 .refine aa o (.tmp d) x y _ _ a ?_ (qnu (st:=st) z.2.1 q.1 ex _) (qnu (st:=st) z.2.2 q.2 ey _) Y ag;simp only [opd,qcu hd];exact em
 .have RJ:RelH X sz C base e (qb4 H ((zo H (.writes [w.c id]) ((zl b i done).flatMap Done.names)).put (w.c id) row) (.writes [w.c id]) ((zl b i done).flatMap Done.names)) w':=by
   refine R'.congr (λn=>?_) ?_ ?_ ?_
   .rw [qh9];have ah:((zo H (.writes [w.c id]) ((zl b i done).flatMap Done.names)).put (w.c id) row).next-H.next=0:=Nat.sub_self _
    rw [ah];simp only [List.range'_zero,zJ,List.mem_filter,List.mem_singleton];have ai:(Nat.blt (w.c id) H.next&&!((zl b i done).flatMap Done.names).any λm=>Nat.beq (w.c id) m)=true:=qr0 N A;by_cases hn:n=w.c id
    .subst hn;rw [zT ⟨rfl,ai⟩,qaf,qaf]
    .rw [zF (λhh=>hn hh.1),qb8 hn]
   .rfl
   .rfl
   .rfl
  exact next _ _ je _ w' _ h4 ⟨e1,e2⟩ (more _) (qc3 (by rcases a with a | a<;>rw [a])) G (m.go ok e1 e2 RJ G .undef (zN _) ⟨zN _,zN _⟩ (λ_=>rfl) (T.mono G (λ_ h=>h) U) (a1 _ _ h4) (by intro r he;cases he;rw [a8];exact s))
theorem zre (ok:CfgOk X sz C) (ok2:CfgOk2 X C) (tok:qjh X sz C tbl) (c1:qoe X sz C inl) {i:Nat} {w0:Wd} {l3:List Done3} {done:List Done} {st:StV K} {fr:Fr} {H:Heap} {w:Wd} (m:Mid X sz C base B old i w0 l3 done st fr H w) {dt:Dirt} (aI:Cm X sz B w0 done dt st fr) {o:Oper} {l:List Oper} {Q:Ex->Fr->Heap->Prop}
  {k:PV K->StV K->Prop} {f:FP3} (hw:qdh o all fr=some true) (G:fp3 (ql X tbl inv meas) C all b i o dt st=some f) (ha:(l3.filter λd=>!(b.getD i 0).testBit d.i).all (λd=>qkq old d f)=true)
  (ah:∀ p L,k p L->∀ j,(look st.cells j).isSome=true->(look L.cells j).isSome=true)
  (h:qcd (ql X tbl inv meas) C (zmh (ql X tbl inv meas) inl f) o st k)
  (next:∀ p L v J w' aJ,k p L->(L.tmps=st.tmps/\L.n=st.n)->(∀ d ∈ done,d ∈ aJ)->NewV X sz B w0 aJ (qh2 dt st o.op) (qay dt st i o) p v->Le w w'->Mid X sz C base B old (i+1) w0 (⟨i,f,makes o.op⟩::l3) aJ (L.put o.dst p) (fr.put o.dst v) J w'->WpD C.E all b (i+1) l aJ (fr.put o.dst v) J Q):WpD C.E all b i (o::l) done fr H Q:=by
 have more:∀ (d:Done),∀ x ∈ done,x ∈ d::done:=λd x hx=>zG _ hx;have R:=m.R;unfold fp3 at G;cases ht:z6 C.E o.op with
 | false=>
  rw [ht] at G;simp only [Bool.not_false,zO] at G;cases G;have U:qha C.E o fr=.none:=by simp only [qha,ht,Bool.not_false,zO]
  have b3:=qe2 (fp:=.none) (lo:=H.next) (dels:=(zl b i done).flatMap Done.names) R.h m.D (f:=.none) m.wr (by simp) rfl ha;by_cases c3:∃ t,o.op=.move (.tmp t)
  .obtain ⟨t,I⟩:=c3;simp only [qcd,I] at h;obtain ⟨p,ai,hk⟩:=qa h;obtain ⟨v,ev,rv⟩:=qq R ai;have bq:fr.tmp t=some v:=ev;have a7:st.tmps.get t=some p:=ai;have hd:t ∈ o.looksAt all:=by simp [Oper.looksAt,I,Op.operands]
   refine qcl (fp:=.none) (K:=zo H .none ((zl b i done).flatMap Done.names)) (out:=.val v) (v:=v) hw U (by simp) b3 ?_ (.inl rfl) (zN _) ?_
   .simp only [kc,I,opd,qcu hd,bq,zH]
   .rw [qkz];refine next p st v H w _ hk ⟨rfl,rfl⟩ (more _) ⟨λZ W=>?_,λc l' own Z W=>?_,λj wh b7=>?_⟩ (.refl w) (m.go ok rfl rfl R.h (.refl w) rv (zN _) ⟨zN _,zN _⟩ (λ_=>rfl) rfl (λ_ h=>h) (by simp))
    .simp only [I,qh2,zA,Bool.not_eq_true'] at Z;exact aI.calm t p v Z.1 a7 W bq
    .simp only [I,qh2,zA,Bool.not_eq_true'] at Z;subst W;exact aI.rep t c l' own v Z.1 a7 bq
    .unfold qay at b7;split at b7
     .rw [I] at b7;have F:=(qet b7).2;simp only [qin] at F;obtain ⟨a1,a2⟩:=aI.fresh t j wh v F bq;exact ⟨λn A=>(a1 n A).more (more _),a2⟩
     .cases b7
  have c4:∀ t,o.op≠.move (.tmp t):=λt ht=>c3 ⟨t,ht⟩;by_cases hp:qfs o.op=true
  .have aV:=qtx ht (.inl hp);obtain ⟨p,L,v,w',F,N,h3,h4,h5,h6⟩:=qp5 (fr':={fr with tmps:=ke fr.tmps (o.looksAt all) .nil}) (H':=zo H .none ((zl b i done).flatMap Done.names)) ok R hp (q9w aV)
    (λs d x I=>by rw [I] at ht;simp [z6] at ht) h
   refine qcl (fp:=.none) (K:=zo H .none _) hw U (by simp) b3 h6 (.inl rfl) (zN _) ?_;rw [qkz];exact next p L v H w' _ F ⟨N.tmps,N.n⟩ (more _) (q3q (J:=H) aI (more _) h5 hp c4 (q9w aV) h6) h4 (m.go ok N.tmps N.n h3 h4 h5 (zN _) ⟨zN _,zN _⟩ (λ_=>rfl) rfl (ah _ _ F) (by simp))
  by_cases A:qpn o.op=true
  .have aV:=qtx ht (.inr A);obtain ⟨p,L,v,row,w',F,N,h3,h4,h5,h6,h7⟩:=q8k ok R A h;have ab:makes o.op=true:=by
    cases I:o.op<;>simp [qpn,I] at A<;>rfl
   refine qcl (fp:=.none) (out:=.val v) (v:=v) (K:=(zo H .none ((zl b i done).flatMap Done.names)).new row) hw U (by simp) b3 (h7 _ _ rfl (q9w aV)) (.inl rfl) (by rw [qw];exact Nat.le_succ _) ?_;rw [zh3];refine next p L v _ w' _ F ⟨N,h3⟩ (more _) ?_ h5 (m.go ok N h3 h4 h5 h6 (by rw [qw];exact Nat.le_succ _) ⟨by rw [qw];exact Nat.le_succ _,by rw [qw,qw];exact zN _⟩ (λZ=>by rw [ab] at Z;cases Z) rfl (ah _ _ F) (by simp))
   cases I:o.op with
   | buildSlice t' n' cD=>
    rw [<-I];exact zci (fr':={fr with tmps:=ke fr.tmps (o.looksAt all) .nil}) I (h7 _ (zo H .none ((zl b i done).flatMap Done.names)) rfl (q9w aV)) ⟨_,zC,rfl,zN _,by rw [qw];exact Nat.lt_succ_self _⟩
   | _=>rw [<-I];exact qc3 (by first | (simp [qpn,I] at A;done) | (simp [I];done))
  exfalso;cases I:o.op with
  | load=>rw [I] at ht;simp [z6] at ht
  | store=>rw [I] at ht;simp [z6] at ht
  | lookup=>rw [I] at ht;simp [z6] at ht
  | mapUpdate=>rw [I] at ht;simp [z6] at ht
  | insert=>rw [I] at ht;simp [z6] at ht
  | next=>rw [I] at ht;simp [z6] at ht
  | call c=>
   rw [I] at ht;simp only [qcd,I] at h;obtain ⟨ps,b4,F⟩:=qa h;split at F
   .rename_i f Z;simp [z6,Z] at ht
   .rename_i bi Z;simp only [z6,Z] at ht;simp only [qfs,I,Z] at hp;unfold qks at F;split at F
    all_goals first
     | (simp at hp;done)
     | (simp at ht;done)
     | (exact absurd F id)
   .exact absurd F id
  | _=>first
   | (simp [qfs,I] at hp;done)
   | (simp [qpn,I] at A;done)
   | (simp only [qcd,I] at h;exact absurd h id)
 | true=>
  rw [ht] at G;simp only [Bool.not_true,zQ] at G;cases I:o.op with
  | load t x=>
   rw [I] at G;simp only [qcd,I] at h;obtain ⟨ti,aD,F⟩:=qa h;obtain ⟨p,ai,N⟩:=qa F;obtain ⟨v,ev,rv⟩:=qq R ai;have ab:makes (.load t x)=false:=rfl;have run:∀ nm,v.nm=[nm]->qav fr [x]=[nm]->nm ∉ (zl b i done).flatMap Done.names->fpR B done H.next w f (.reads [nm])->(∀ id,f≠.write id)->(∀ H1:Heap,H1.zf=H.zf->H1.get nm=H.get nm->opd {fr with tmps:=ke fr.tmps (o.looksAt all) .nil} H1 x=some v)->WpD C.E all b i (o::l) done fr H Q:=by
    intro nm aq aO P ad c5 aE;have U:qha C.E o fr=.reads [nm]:=by
     simp only [qha,I,Op.operands];exact congrArg FP.reads aO
    obtain ⟨q,h3,b8,gn,off,lim,rfl,Y,hl,_⟩:=qpi ok R.h rv N;simp only [V.nm,List.cons.injEq,and_true] at aq;subst aq;have aG:=qi8 (H:=H) (l:=[b8]) (dels:=(zl b i done).flatMap Done.names) (List.mem_singleton.2 rfl) Y P;obtain ⟨u,hu,ru⟩:=hl _ aG;obtain ⟨w',b5,R',a8,r'⟩:=qjt ok R.h ru;have ae:∀ id,w.cl id->id<w.n:=λid h=>by rw [R.h.n];exact (R.h.cl id h).1
    refine qcl (fp:=.reads [b8]) (out:=.val u) (v:=u) (K:=zo H (.reads [b8]) ((zl b i done).flatMap Done.names)) hw U (by simp) (qe2 R.h m.D m.wr (λid W=>absurd W (c5 id)) ad ha) ?_ (.inl rfl) (zN _) ?_
    .simp only [kc,I,aD,zB,aE (zo H (.reads [b8]) ((zl b i done).flatMap Done.names)) rfl aG,hu,zH]
    .rw [qi2];exact next _ _ u H w' _ h3 ⟨b5.tmps,b5.n⟩ (more _) (qc3 (by rw [I])) a8 (m.go ok b5.tmps b5.n R' a8 r' (zN _) ⟨zN _,zN _⟩ (λ_=>rfl) (ad.mono a8 (λ_ h=>h) ae) (ah _ _ h3) (λid W=>absurd W (c5 id)))
   obtain ⟨q,_,nm,gn,off,lim,hv,Y,_,ar⟩:=qpi ok R.h rv N;subst hv;cases x with
   | tmp d=>
    simp only at G;have hd:d ∈ o.looksAt all:=by simp [Oper.looksAt,I,Op.operands]
    have aE:∀ H1:Heap,H1.zf=H.zf->H1.get nm=H.get nm->opd {fr with tmps:=ke fr.tmps (o.looksAt all) .nil} H1 (.tmp d)=some (.ptr nm gn off lim):=by
     intro H1 _ _;simp only [opd,qcu hd];exact ev
    have aO:qav fr [.tmp d]=[nm]:=by
     have:fr.tmp d=some (.ptr nm gn off lim):=ev;simp only [qav,List.flatMap_cons,List.flatMap_nil,qnq,this,V.nm,zJ]
    split at G
    .rename_i id o' l' hg;have a7:st.tmps.get d=some p:=ai;rw [hg] at a7;cases a7;cases G;rcases ar with ⟨aP,W,aq,ct,hl⟩ | ⟨cs,o2,W,_⟩
     .have bM:aP=id:=by
       rcases W with ⟨_,_,W⟩ | ⟨_,_,_,_,W⟩
       .cases W;rfl
       .cases W
      subst bM;have Z:=(R.h.cells _ ct hl).1;refine run nm rfl aO (qj8 m.D ha (.inl ⟨_,.inl rfl,λaQ=>?_⟩)) ⟨by rw [aq],Z⟩ (by simp) aE;rw [aq];exact m.lt _ aQ Z
     .cases W
    .rename_i id c' i' n' o' hg;have a7:st.tmps.get d=some p:=ai;rw [hg] at a7;cases a7;cases G;rcases ar with ⟨aP,W,aq,ct,hl⟩ | ⟨cs,o2,W,_⟩
     .have bM:aP=id:=by
       rcases W with ⟨_,_,W⟩ | ⟨_,_,_,_,W⟩
       .cases W
       .cases W;rfl
      subst bM;have Z:=(R.h.cells _ ct hl).1;refine run nm rfl aO (qj8 m.D ha (.inl ⟨_,.inl rfl,λaQ=>?_⟩)) ⟨by rw [aq],Z⟩ (by simp) aE;rw [aq];exact m.lt _ aQ Z
     .cases W
    .rename_i du o' hg;have a7:st.tmps.get d=some p:=ai;rw [hg] at a7;cases a7;cases G;cases rv with
     | eptr q1 q2 q3 q4 q5 q6=>
      have au:=zgb aI hg rfl ev nm (by simp [V.nm]);have P:nm ∉ (zl b i done).flatMap Done.names:=qj8 m.D ha (.inr (.inl ⟨_,rfl,_,List.mem_singleton.2 rfl,au⟩));refine run nm rfl aO P ⟨[nm],rfl,λn A=>?_⟩ (by simp) aE;rw [List.mem_singleton.1 A];exact ⟨⟨q3,_,_,_,_,_,_,q1⟩,_,List.mem_singleton.2 rfl,au⟩
    .cases G
   | global gl=>
    simp only [zS] at G;subst G;have aW:∃ ps,C.zf gl=some ps/\p=.eptr ps 0:=by
     simp only [ju] at ai;obtain ⟨ps,b9,aj⟩:=zM.1 ai;exact ⟨ps,b9,aj.symm⟩
    obtain ⟨ps,aK,rfl⟩:=aW;obtain ⟨g0,vs,e,fl,fz,ex,g1,g2,g3⟩:=R.h.globs gl ps aK;have bs:H.get gl=some (.row vs e 0 fl fz ex):=by rw [R.h.keeps.old gl g2];exact g1
    have hb:Nat.blt gl H.zf=true:=by rw [Nat.blt_eq,R.h.keeps.zf];exact g0
    have hv:V.ptr nm gn off lim=.ptr gl 0 0 vs.length:=by
     have:=ev;simp only [opd,hb,zO,bs,zS] at this;exact this.symm
    cases hv;cases rv with
    | eptr q1 q2 q3 q4 q5 q6=>
     have av:nm<B:=by
      obtain ⟨st0,H0,R0,e0⟩:=m.z0;have:=R0.keeps.next
      omega
     refine run nm rfl (by simp [qav,qnq]) (qpo m.D av) ⟨[nm],rfl,λn A=>?_⟩ (by simp) ?_
     .rw [List.mem_singleton.1 A];exact ⟨⟨q3,_,_,_,_,_,_,q1⟩,_,List.mem_singleton.2 rfl,av⟩
     .intro H1 ao bN;simp only [opd,ao,hb,zO,bN,bs]
   | _=>simp at G
  | indexAddr ty x ix=>
   rw [I] at G;cases x with
   | global gl=>
    simp only at G;have hp:qfs o.op=true:=by rw [I];rfl
    have h0:=h;simp only [qcd,I] at h0;obtain ⟨ti,aD,F⟩:=qa h0;obtain ⟨pg,bO,_⟩:=qa F;obtain ⟨vg,eg,rg⟩:=qq R bO;split at G
    .rename_i cE;obtain ⟨bD,G⟩:=qet G;simp only [zS] at G;subst G;obtain ⟨vi,ei,ri⟩:=qq R cE;have cF:vi.nm=[]:=by cases ri<;>rfl
     have cG:qav fr [ix]=[]:=by
      cases ix with
      | tmp t'=>
       have:fr.tmp t'=some vi:=ei;simp only [qav,List.flatMap_cons,List.flatMap_nil,qnq,this,cF,zJ]
      | global g=>simp [qge] at bD
      | _=>rfl
     have aW:∃ ps,C.zf gl=some ps/\pg=.eptr ps 0:=by
      simp only [ju] at bO;obtain ⟨ps,b9,aj⟩:=zM.1 bO;exact ⟨ps,b9,aj.symm⟩
     obtain ⟨ps,aK,rfl⟩:=aW;obtain ⟨g0,vs,e,fl,fz,ex,g1,g2,g3⟩:=R.h.globs gl ps aK;have bs:H.get gl=some (.row vs e 0 fl fz ex):=by rw [R.h.keeps.old gl g2];exact g1
     have hb:Nat.blt gl H.zf=true:=by rw [Nat.blt_eq,R.h.keeps.zf];exact g0
     have hv:vg=.ptr gl 0 0 vs.length:=by
      have:=eg;simp only [opd,hb,zO,bs,zS] at this;exact this.symm
     subst hv;cases rg with
     | eptr q1 q2 q3 q4 q5 q6=>
      have av:gl<B:=by
       obtain ⟨st0,H0,R0,e0⟩:=m.z0;have:=R0.keeps.next
       omega
      have Y:gl<H.next:=by
       have:=R.h.keeps.next
       omega
      have U:qha C.E o fr=.reads [gl]:=by
       have aF:=ht;rw [I] at aF;simp only [qha,I,aF,Bool.not_true,zQ,Op.operands];refine congrArg FP.reads ?_;show qnq fr (.global gl)++qav fr [ix]=_;rw [cG];rfl
      have ad:fpR B done H.next w (.stable [.calm]) (.reads [gl]):=⟨[gl],rfl,λn A=>by
       rw [List.mem_singleton.1 A];exact ⟨⟨q3,_,_,_,_,_,_,q1⟩,_,List.mem_singleton.2 rfl,av⟩⟩
      have P:=qpo (nm:=gl) m.D (b:=b) (i:=i) av;have aG:=qi8 (H:=H) (l:=[gl]) (dels:=(zl b i done).flatMap Done.names) (List.mem_singleton.2 rfl) Y P;have aE:∀ y ∈ o.op.operands.toList,opd {fr with tmps:=ke fr.tmps (o.looksAt all) .nil} (zo H (.reads [gl]) ((zl b i done).flatMap Done.names)) y=opd fr H y:=by
       intro y hy;have c6:=hy;simp only [I,Op.operands,zD,List.not_mem_nil,or_false] at c6;rcases c6 with rfl | rfl
       .have ao:(zo H (.reads [gl]) ((zl b i done).flatMap Done.names)).zf=H.zf:=rfl;simp only [opd,ao,aG]
       .rw [qnu (st:=st) hy bD ei,ei]
      have ae:∀ id,w.cl id->id<w.n:=λid h=>by rw [R.h.n];exact (R.h.cl id h).1
      obtain ⟨p,L,v,w',k1,k2,k3,k4,k5,k6⟩:=qp5 (fr':={fr with tmps:=ke fr.tmps (o.looksAt all) .nil}) (H':=zo H (.reads [gl]) ((zl b i done).flatMap Done.names)) ok R hp aE
       (λs d x hh=>by rw [I] at hh;cases hh) h
      refine qcl (fp:=.reads [gl]) (K:=zo H (.reads [gl]) ((zl b i done).flatMap Done.names)) hw U (by simp) (qe2 R.h m.D m.wr (λid W=>by cases W) ad ha) k6 (.inl rfl) (zN _) ?_;rw [qi2];exact next p L v H w' _ k1 ⟨k2.tmps,k2.n⟩ (more _) (q3q (J:=H) aI (more _) k5 hp (λt hh=>by rw [I] at hh;cases hh) aE k6) k4 (m.go ok k2.tmps k2.n k3 k4 k5 (zN _) ⟨zN _,zN _⟩ (λ_=>rfl) (ad.mono k4 (λ_ h=>h) ae) (ah _ _ k1) (λid W=>by cases W))
    .cases G
   | _=>simp at G
  | store t a x=>
   rw [I] at G;simp only [qcd,I] at h;obtain ⟨ti,aD,F⟩:=qa h;obtain ⟨pa,c7,N⟩:=qa F;obtain ⟨px,ak,h3⟩:=qa N;obtain ⟨va,ea,ra⟩:=qq R c7;obtain ⟨vx,ex,rx⟩:=qq R ak;obtain ⟨L,id,gn,off,lim,H',w',h4,ba,rfl,Y,dv,b3,bP,c8,hs,e1,e2,_,R',a8,cH,bE⟩:=qtv ok R.h ra rx h3;cases a with
   | tmp d=>
    simp only at G;have aX:st.tmps.get d=some pa:=c7;rw [aX] at G;have G:(bif (qge x).isEmpty then some (FP3.write id) else none)=some f:=by
     rcases ba with ⟨_,_,rfl⟩ | ⟨_,_,_,_,rfl⟩
     .exact G
     .exact G
    cases aK:(qge x).isEmpty with
    | false=>rw [aK] at G;cases G
    | true=>
     rw [aK] at G;simp only [zO,zS] at G;subst G;have cI:∀ aP,FP3.write id=FP3.write aP->w.M (w.c aP):=by
      intro aP W;cases W;exact R.h.live bE
     have aR:qge x=[]:=by simpa using aK
     have hd:d ∈ o.looksAt all:=by simp [Oper.looksAt,I,Op.operands]
     have cJ:fr.tmp d=some (.ptr (w.c id) gn off lim):=ea;have U:qha C.E o fr=.writes [w.c id]:=by
      have aF:=ht;rw [I] at aF;simp only [qha,I,aF,Bool.not_true,zQ,qnq,cJ,V.nm,aR,zJ]
     have ad:fpR B done H.next w (.write id) (.writes [w.c id]):=⟨rfl,b3⟩
     have ae:∀ id,w.cl id->id<w.n:=λid h=>by rw [R.h.n];exact (R.h.cl id h).1
     have P:=qj8 (nm:=w.c id) m.D ha (.inl ⟨id,.inr rfl,λaQ=>m.lt id aQ b3⟩);have aG:=qn2 (H:=H) (l:=[w.c id]) (dels:=(zl b i done).flatMap Done.names) (List.mem_singleton.2 rfl) Y P;have cK:(zo H (.writes [w.c id]) ((zl b i done).flatMap Done.names)).ro<=w.c id:=by
      show H.ro<=w.c id;rw [R.h.keeps.ro];exact zR R.h.rob.1 bP
     obtain ⟨row,bt,c9⟩:=c8 _ aG cK;have ab:makes (.store t (.tmp d) x)=false:=rfl;have cL:∀ H0,opd {fr with tmps:=ke fr.tmps (o.looksAt all) .nil} H0 x=some vx:=by
      intro H0;have:opd {fr with tmps:=ke fr.tmps (o.looksAt all) .nil} H0 x=opd fr H x:=qgj (by simp [I,Op.operands]) (by intro g hg;subst hg;simp [qge] at aR);rw [this];exact ex
     refine qcl (fp:=.writes [w.c id]) (out:=.skip) (v:=je) (K:=(zo H (.writes [w.c id]) ((zl b i done).flatMap Done.names)).put (w.c id) row) hw U (by simp) (qe2 R.h m.D m.wr cI ad ha) ?_ (.inr ⟨rfl,rfl⟩) (zN _) ?_
     .have aE:opd {fr with tmps:=ke fr.tmps (o.looksAt all) .nil} (zo H (.writes [w.c id]) ((zl b i done).flatMap Done.names)) (.tmp d)=some (.ptr (w.c id) gn off lim):=by
       simp only [opd,qcu hd];exact ea
      simp only [kc,I,aD,zB,aE,cL,c9,zH]
     .have RJ:RelH X sz C base L (qb4 H ((zo H (.writes [w.c id]) ((zl b i done).flatMap Done.names)).put (w.c id) row) (.writes [w.c id]) ((zl b i done).flatMap Done.names)) w':=by
       refine R'.congr (λn=>?_) ?_ ?_ ?_
       .rw [qh9,bt];have aa:((zo H (.writes [w.c id]) ((zl b i done).flatMap Done.names)).put (w.c id) row).next-H.next=0:=Nat.sub_self _
        rw [aa];simp only [List.range'_zero,zJ,List.mem_filter,List.mem_singleton];have cM:(Nat.blt (w.c id) H.next&&!((zl b i done).flatMap Done.names).any λm=>Nat.beq (w.c id) m)=true:=qr0 Y P;by_cases A:n=w.c id
        .subst A;rw [zT ⟨rfl,cM⟩,qaf,qaf]
        .rw [zF (λhh=>A hh.1),qb8 A]
       .rw [bt];rfl
       .rw [bt];rfl
       .rw [bt];rfl
      exact next _ _ je _ w' _ h4 ⟨e1,e2⟩ (more _) (qc3 (by rw [I])) a8 (m.go ok e1 e2 RJ a8 .undef (zN _) ⟨zN _,zN _⟩ (λ_=>rfl) (ad.mono a8 (λ_ h=>h) ae) (ah _ _ h4) (by intro aP W;cases W;rw [cH];exact bE))
   | _=>simp at G
  | lookup t m0 x dw=>
   rw [I] at G;simp only [qcd,I] at h;obtain ⟨pm,bb,F⟩:=qa h;obtain ⟨px,ak,N⟩:=qa F;exact zm3 ok m hw ha ah I (by
    cases m0 with
    | tmp d=>
     simp only at G;split at G
     .rename_i id aX;exact ⟨d,id,rfl,aX,G⟩
     .cases G
    | _=>simp at G) bb ak N next
  | mapUpdate t m0 x y=>
   rw [I] at G;simp only [qcd,I] at h;obtain ⟨pm,bb,F⟩:=qa h;obtain ⟨px,ak,N⟩:=qa F;obtain ⟨py,bQ,h3⟩:=qa N;exact q3j ok m hw ha ah (.inl I) (by
    cases m0 with
    | tmp d=>
     simp only at G;split at G
     .rename_i id aX;exact ⟨d,id,rfl,aX,G⟩
     .cases G
    | _=>simp at G) bb ak bQ h3 next
  | insert t m0 x y=>
   rw [I] at G;simp only [qcd,I] at h;obtain ⟨pm,bb,F⟩:=qa h;obtain ⟨px,ak,N⟩:=qa F;obtain ⟨py,bQ,h3⟩:=qa N;exact q3j ok m hw ha ah (.inr I) (by
    cases m0 with
    | tmp d=>
     simp only at G;split at G
     .rename_i id aX;exact ⟨d,id,rfl,aX,G⟩
     .cases G
    | _=>simp at G) bb ak bQ h3 next
  | convert s d x=>
   rw [I] at G;simp only at G;have bR:∃ p,ju (ql X tbl inv meas) C st x=some p/\((∃ k l n,p=.int k l n)∨∃ s,p=.str s)/\(qge x).isEmpty=true/\f=.stable []:=by
    split at G
    .rename_i k' l' n' hx;cases hg:(qge x).isEmpty with
     | false=>rw [hg] at G;cases G
     | true=>rw [hg] at G;cases G;exact ⟨_,hx,.inl ⟨_,_,_,rfl⟩,rfl,rfl⟩
    .rename_i s' hx;cases hg:(qge x).isEmpty with
     | false=>rw [hg] at G;cases G
     | true=>rw [hg] at G;cases G;exact ⟨_,hx,.inr ⟨_,rfl⟩,rfl,rfl⟩
    .cases G
   obtain ⟨p,ak,ar,aK,rfl⟩:=bR;have aR:qge x=[]:=by simpa using aK
   obtain ⟨v,ev,rv⟩:=qq R ak;have cN:v.nm=[]:=by
    rcases ar with ⟨k',l',n',rfl⟩ | ⟨s',rfl⟩<;>cases rv<;>rfl
   have aV:∀ y ∈ o.op.operands.toList,∀ g,y≠.global g:=by
    intro y hy g W;subst W;simp [I,Op.operands] at hy;subst hy;simp [qge] at aR
   have U:qha C.E o fr=.reads []:=by
    simp only [qha,I,Op.operands];refine congrArg FP.reads ?_;cases x with
    | tmp t=>
     have:fr.tmp t=some v:=ev;simp [qav,qnq,this,cN]
    | global g=>simp [qge] at aR
    | _=>simp [qav,qnq]
   have ad:fpR B done H.next w (.stable []) (.reads []):=⟨[],rfl,λn A=>by cases A⟩
   have ae:∀ id,w.cl id->id<w.n:=λid h=>by rw [R.h.n];exact (R.h.cl id h).1
   obtain ⟨q,L,u,w',F,N,h3,h4,h5,h6⟩:=qp5 (fr':={fr with tmps:=ke fr.tmps (o.looksAt all) .nil}) (H':=zo H (.reads []) ((zl b i done).flatMap Done.names)) ok R (by rw [I];rfl) (q9w aV)
    (λs' d' x' ca=>by rw [I] at ca;cases ca;exact .inr ⟨p,ak,ar⟩) h
   refine qcl (fp:=.reads []) (out:=.val u) (v:=u) (K:=zo H (.reads []) _) hw U (by simp) (qe2 R.h m.D m.wr (by simp) ad ha) h6 (.inl rfl) (zN _) ?_;rw [qi2];exact next q L u H w' _ F ⟨N.tmps,N.n⟩ (more _) (qc3 (by rw [I])) h4 (m.go ok N.tmps N.n h3 h4 h5 (zN _) ⟨zN _,zN _⟩ (λ_=>rfl) (ad.mono h4 (λ_ h=>h) ae) (ah _ _ F) (by simp))
  | call c=>
   rw [I] at G;simp only [qcd,I] at h;obtain ⟨ps,b4,F⟩:=qa h;obtain ⟨vs,ev,rv⟩:=qdq R b4;have aF:=ht;rw [I] at aF;have bc:H.ro=base.ro:=R.h.keeps.ro;split at F
   .rename_i f' Z;obtain ⟨pf,ba,N⟩:=qa F;obtain ⟨vf,ef,rf⟩:=qq R ba;simp only [Z] at G;have U:qha C.E o fr=.call:=by
     simp only [qha,I,aF,Bool.not_true,zQ,Z]
    have bF:∀ (H1:Heap),(∀ n,H1.get n=H.get n)->H1.zf=H.zf->∀ x ∈ o.op.operands.toList,opd {fr with tmps:=ke fr.tmps (o.looksAt all) .nil} H1 x=opd fr H x:=by
     intro H1 ao bN x hx;cases x with
     | global g=>simp only [opd,ao,bN]
     | tmp t=>exact qgj hx (by simp)
     | const v=>rfl
     | func f=>rfl
    have aS:∀ x ∈ c.args.toList,x ∈ o.op.operands.toList:=by
     intro x hx;simp only [I,Op.operands,Call.operands,Array.toList_append,List.mem_append];exact .inr hx
    have bd:f' ∈ o.op.operands.toList:=by
     simp only [I,Op.operands,Call.operands,Array.toList_append,List.mem_append,Z];exact .inl (by simp)
    cases aL:quv C.E all b i with
    | true=>
     rw [aL] at G;simp only [zO,zS] at G;subst G;obtain ⟨g,us,cO,aw⟩:=qvw ok ok2 tok c1 R.h rf rv N;have P:=qsy m.D ha (.inl rfl);have hH:zo H .lone []=H:=by cases H;rfl
     refine za3 (fp:=.lone) (t:=g) (args:=us) (K0:=H) hw U (by rw [aL];rfl) (qe2 (fp:=.lone) (lo:=H.next) R.h m.D (f:=.lone) m.wr (by simp) (.inl rfl) ha) ?_ ?_
     .rw [P,hH];have e1:qcy {fr with tmps:=ke fr.tmps (o.looksAt all) .nil} H c.args.toList=some vs:=by
       rw [qgx λx hx=>bF H (λ_=>rfl) rfl x (aS x hx)];exact ev
      have e2:=(bF H (λ_=>rfl) rfl f' bd).trans ef;simp only [kc,I,Z,e1,e2,zB,cO,zH]
     .refine aw.mono λv H1 hA=>?_;obtain ⟨p,L,w',a1,a2,a3,a4,a5,a6⟩:=hA;have aa:H.next<=H1.next:=by have:=a5.nx;rw [R.h.nx,a4.nx] at this;exact this
      rw [P];have hJ:RelH X sz C base L (qb4 H H1 .lone []) w':=by
       refine a4.congr (λn=>?_) rfl ?_ ?_
       .simp only [qb4,Heap.get,ke]
       .rw [a4.keeps.ro];exact bc
       .rw [a4.keeps.zf];exact R.h.keeps.zf
      exact ⟨aa,next p L v _ w' _ a1 ⟨a2,a3⟩ (more _) (qc3 (by rw [I])) a5 (m.go ok a2 a3 hJ a5 a6 aa ⟨aa,zN _⟩ (λab=>by rw [I] at ab;simp [makes,Z] at ab) (.inl rfl) (ah _ _ a1) (by simp))⟩
    | false=>
     rw [aL] at G;simp only [zQ,ba,b4] at G;split at G
     .rename_i g first cap args cc cd
      cases cc;cases cd;obtain ⟨_,G⟩:=qet G;cases G;cases rf with
      | @func f2 a c2 va vc cf cg q1 q2=>
      generalize bS:(first.isEmpty&&cap.isEmpty&&c.args.toList.all (qsq (ql X tbl inv meas) C dt st))=cb at *;let D:=(zl b i done).flatMap Done.names;let H1:Heap:=zo H .call D;have ao:∀ n,H1.get n=if n ∈ D then none else H.get n:=λn=>by
       simp only [H1,zo,Heap.get,js]
       split<;>rfl
      have bu:∀ n ∈ D,B<=n:=by
       intro n A;rcases Nat.lt_or_ge n B with F | F
       .exact absurd A (qpo m.D F)
       .exact F
      obtain ⟨st0,H0,R0,e0⟩:=m.z0;have dx:base.next<=B:=by have:=R0.keeps.next;omega
      have bG:∀ nm cs e gen al bf ex,w0.g nm=some (.row cs e gen al bf ex)->¬ w0.M nm->¬ ({w with g:=H1.get}:Wd).M nm/\∃ cs2 bg bh ex',({w with g:=H1.get}:Wd).g nm=some (.row (cs++cs2) e bg al bh ex'):=by
       intro nm cs e gen al bf ex F N;obtain ⟨h3,cs2,bg,bh,ex',h4⟩:=m.z.mem nm cs e gen al bf ex F N;refine ⟨h3,cs2,bg,bh,ex',?_⟩;show H1.get nm=_;have Y:=m.lt0 F;rw [ao,zF (λhd=>by have:=bu nm hd;omega),<-R.h.g];exact h4
      have bT:Cut X sz C base H H1 w:=by
       refine ⟨λn x hx=>?_,λn A=>?_,rfl,rfl,zN _,λgn ch cP e' dy dz ex' F N h3=>?_⟩
       .rw [ao] at hx;split at hx
        .cases hx
        .exact hx
       .rw [ao,zF (λhd=>by have:=bu n hd;omega)]
       .obtain ⟨_,dA,e2,dB,dC,dD,cj,dE,cQ⟩:=R0.globs gn ch F;rw [N] at cj;cases cj;exact cQ.zof ok.len ok2.plain bG (.eptr (ok2.zf gn ch F))
      have bU:cb=false->D=[]:=by
       intro cR;rw [cR] at ha;exact qsy m.D ha (.inr rfl)
      have ck:qj X sz {w with g:=H1.get} (first++ps++cap) (va++vs++vc):=by
       cases bH:cb with
       | false=>
        have cS:({w with g:=H1.get}:Wd)=w:=by
         have:H1.get=w.g:=by
          rw [R.h.g];funext n;rw [ao,bU bH,zF (by simp)]
         rw [this]
        rw [cS];exact qj.append (qj.append (ps:=first) ⟨cf,q1⟩ rv) ⟨cg,q2⟩
       | true=>
        rw [bH] at bS;simp only [zA,List.isEmpty_iff] at bS;obtain ⟨⟨rfl,rfl⟩,aH⟩:=bS;have cT:va=[]:=by cases va with | nil=>rfl | cons=>simp at cf
        have cU:vc=[]:=by cases vc with | nil=>rfl | cons=>simp at cg
        subst cT;subst cU;simp only [List.nil_append,zJ];exact qsr ok ok2 aI bG (λnm Y=>by show H1.get nm=w.g nm;rw [ao,zF (λhd=>by have:=bu nm hd;omega),R.h.g]) aH b4 ev rv
      have fin:(qc5 C.E (.func g) (va++vs++vc) H1 λv H'=>∃ r w',Form r/\Answer X sz C H1 w.M r (qo9 (qb6 r.flat)) v H' w'/\k (qdf st r).1 (qdf st r).2)->WpD C.E all b i (o::l) done fr H Q:=by
       intro aw;refine za3 (fp:=.call) (t:=.func g) (args:=va++vs++vc) (K0:=H1) hw U (by rw [aL];rfl) (qe2 (fp:=.call) (lo:=H.next) R.h m.D (f:=.call cb) m.wr (by simp) rfl ha) ?_ ?_
       .have bI:∀ x p,x ∈ o.op.operands.toList->ju (ql X tbl inv meas) C st x=some p->opd {fr with tmps:=ke fr.tmps (o.looksAt all) .nil} H1 x=opd fr H x:=by
         intro x p hx ak;cases x with
         | global gl=>
          simp only [ju] at ak;obtain ⟨gs,cV,_⟩:=zM.1 ak;obtain ⟨_,_,_,_,_,_,_,Y,_⟩:=R.h.globs gl gs cV;have:H1.get gl=H.get gl:=by rw [ao,zF (λhd=>by have:=bu gl hd;omega)]
          simp only [opd,this];rfl
         | tmp t=>exact qgj hx (by simp)
         | const v=>rfl
         | func f=>rfl
        have e1:qcy {fr with tmps:=ke fr.tmps (o.looksAt all) .nil} H1 c.args.toList=some vs:=by
         rw [qgx λx hx=>by obtain ⟨p,hp⟩:=q3v b4 x hx;exact bI x p (aS x hx) hp];exact ev
        have e2:=(bI f' _ bd ba).trans ef;show kc C.E o _ H1=_;simp only [kc,I,Z,e1,e2,zB,qe9,zH]
       .refine aw.mono λv H2 hA=>?_;obtain ⟨r,w',ax,a,hk⟩:=hA;have aa:H.next<=H2.next:=a.keeps.next
        have aY:∀ n,(qb4 H H2 .call D).get n=if n ∈ List.range' H.next (H2.next-H.next) then H2.get n else H.get n:=λn=>qzo
        obtain ⟨cW,e1,e2,R',a8,r'⟩:=qoz ok ok2 R.h ax (H1:=H1) rfl a (J:=qb4 H H2 .call D) (λn A=>by
          rw [aY,zF (λhh=>by have:=(List.mem_range'_1.1 hh).1;omega)]) (λn x hx=>by
          rw [aY];split
          .exact hx
          .rename_i A;by_cases Y:n<H.next
           .rw [a.keeps.old n Y] at hx;exact bT.sub n x hx
           .exfalso;have bV:H2.next<=n:=by
             rcases Nat.lt_or_ge n H2.next with F | F
             .exact absurd (List.mem_range'_1.2 ⟨by omega,by omega⟩) A
             .exact F
            rw [a.wf n bV] at hx;cases hx) (λn A=>by
          rw [aY];split
          .rfl
          .rename_i b5;have bV:H2.next<=n:=by
            rcases Nat.lt_or_ge n H2.next with F | F
            .exact absurd (List.mem_range'_1.2 ⟨by omega,by omega⟩) b5
            .exact F
           rw [R.h.wf n A,a.wf n bV]) rfl rfl rfl
        exact ⟨aa,next _ _ v _ cW _ hk ⟨e1,e2⟩ (more _) (qc3 (by rw [I])) a8 (m.go ok e1 e2 R' a8 r' aa ⟨aa,zN _⟩ (λab=>by rw [I] at ab;simp [makes,Z] at ab) rfl (ah _ _ hk) (by simp))⟩
      cases bW:fnP (ql X tbl inv meas) st g (first++ps++cap) with
      | none=>
       simp only [q7x,bW] at N;exact fin (zcw ok ok2 c1 R.h bT ck N)
      | some x=>
       obtain ⟨dF,r⟩:=x;simp only [q7x,bW] at N;cases hd:distinct (qb6 r.flat) with
       | false=>rw [hd] at N;exact absurd N id
       | true=>
        rw [hd] at N;simp only [zO] at N;obtain ⟨cn,hk⟩:=N;obtain ⟨ax,aw⟩:=q22 ok2 tok R.h bT ck bW cn;exact fin (aw.mono λv H' ⟨w',a⟩=>⟨r,w',ax,a,hk⟩)
     .cases G
   .rename_i bi Z;have cX:bi=.append:=by
     cases bi<;>first | rfl | (simp [Z] at G;done)
    subst cX;simp only [Z] at G;have cp:∃ x y,c.args.toList=[x,y]/\(qkr (ql X tbl inv meas) C st x || qkr (ql X tbl inv meas) C st y)=false:=by
     split at G
     .rename_i x y bj;cases an:(qkr (ql X tbl inv meas) C st x || qkr (ql X tbl inv meas) C st y) with
      | true=>rw [an] at G;cases G
      | false=>exact ⟨x,y,bj,an⟩
     .cases G
    have bw:(f=.lone/\(∃ x y,c.args.toList=[x,y]/\qza (ql X tbl inv meas) C dt st x=false))∨∃ x y,c.args.toList=[x,y]/\qza (ql X tbl inv meas) C dt st x=true/\f=.stable (q0w dt x++q0w dt y):=by
     split at G
     .rename_i x y bj;obtain ⟨x',y',aT,an⟩:=cp;rw [bj] at aT;cases aT;rw [an] at G;simp only [zQ] at G;cases af:qza (ql X tbl inv meas) C dt st x with
      | true=>rw [af] at G;cases G;exact .inr ⟨x,y,bj,af,rfl⟩
      | false=>rw [af] at G;obtain ⟨_,N⟩:=qet G;cases N;exact .inl ⟨rfl,x,y,bj,af⟩
     .cases G
    have aS:∀ x ∈ c.args.toList,x ∈ o.op.operands.toList:=by
     intro x hx;simp only [I,Op.operands,Call.operands,Array.toList_append,List.mem_append];exact .inr hx
    have aq:∀ x (p:PV K) v,ju (ql X tbl inv meas) C st x=some p->opd fr H x=some v->Rep X sz w p v->((∃ s,p=.str s)∨p=.nils∨∃ c l own,p=.list c l own)->qnq fr x=v.nm/\q6i fr x=some v:=by
     intro x p v F N h3 h4;cases x with
     | tmp t=>
      have aj:fr.tmp t=some v:=N;simp only [qnq,aj,q6i];exact ⟨trivial,trivial⟩
     | const cv=>
      have ai:(qoq 1000 cv).bind (qrj (ql X tbl inv meas))=some p:=F;obtain ⟨u,ay,S⟩:=zI.1 ai;have aj:qoq 1000 cv=some v:=N;rw [ay] at aj;cases aj;refine ⟨?_,ay⟩;unfold qrj at S;split at S
      .rfl
      .rfl
      .cases bl:qif v with
       | false=>rw [bl] at S;cases S
       | true=>cases v<;>simp [qif] at bl<;>rfl
     | global g=>
      simp only [ju] at F;obtain ⟨q,_,rfl⟩:=zM.1 F;rcases h4 with ⟨_,h4⟩ | h4 | ⟨_,_,_,h4⟩<;>cases h4
     | func f=>
      simp only [ju,zS] at F;subst F;rcases h4 with ⟨_,h4⟩ | h4 | ⟨_,_,_,h4⟩<;>cases h4
    have au:∀ x (p:PV K) v,ju (ql X tbl inv meas) C st x=some p->opd fr H x=some v->Rep X sz w p v->((∃ s,p=.str s)∨p=.nils∨∃ c l own,p=.list c l own)->∀ n ∈ v.nm,Still w n/\∃ s ∈ q0w dt x,qqw B done n s:=by
     intro x p v F N h3 h4 n A;rcases h4 with ⟨s',rfl⟩ | rfl | ⟨c',l',own,rfl⟩
     .cases h3;simp [V.nm] at A
     .cases h3;simp [V.nm] at A
     .have cY:Still w n:=by
       cases h3 with
       | nlist=>simp [V.nm] at A
       | list hg G hM=>
        simp only [V.nm,List.mem_singleton] at A;subst A;exact ⟨hM,_,_,_,_,_,_,hg⟩
      refine ⟨cY,?_⟩;cases x with
      | tmp t=>
       exact ⟨_,List.mem_singleton.2 rfl,zgb aI (p:=.list c' l' own) F rfl N n A⟩
      | const cv=>
       exfalso;have ai:(qoq 1000 cv).bind (qrj (ql X tbl inv meas))=some (.list c' l' own):=F;obtain ⟨u,ay,S⟩:=zI.1 ai;have aj:qoq 1000 cv=some v:=N;rw [ay] at aj;cases aj;unfold qrj at S;split at S
       .simp [V.nm] at A
       .simp [V.nm] at A
       .cases bl:qif v with
        | false=>rw [bl] at S;cases S
        | true=>cases v<;>simp [qif] at bl<;>simp [V.nm] at A
      | global g=>
       simp only [ju] at F;obtain ⟨q,_,F⟩:=zM.1 F;cases F
      | func f=>simp [ju] at F
    have fin:∀ (a1 a2:Operand) (s x:PV K) (v1 v2:V) (t u:TypeId) (ti ui:TI) (e:TypeId) (ei:TI) (p:PV K) (L:StV K) (v:V) (H':Heap) (w':Wd),c.args.toList=[a1,a2]->ju (ql X tbl inv meas) C st a1=some s->ju (ql X tbl inv meas) C st a2=some x->
      opd fr H a1=some v1->opd fr H a2=some v2->Rep X sz w s v1->Rep X sz w x v2->((∃ s',s=.str s')∨s=.nils∨∃ c l own,s=.list c l own)->((∃ s',x=.str s')∨x=.nils∨∃ c l own,x=.list c l own)->
      c.argTypes.toList=[t,u]->C.E.types t=some ti->C.E.types u=some ui->ti.under=.slice e->((∃ e',ui.under=.slice e')∨ui.under=.string)->C.E.types e=some ei->
      qbs H e ei.size ei.bytes v1 v2=some (v,H')->k p L->L.tmps=st.tmps->L.n=st.n->RelH X sz C base L H' w'->Le w w'->Rep X sz w' p v->WpD C.E all b i (o::l) done fr H Q:=by
     intro a1 a2 s x v1 v2 t u ti ui e ei p L v H' w' O o1 o2 e1 e2 r1 r2 k1 k2 aU aD bm ay S aM bJ hk g1 g2 R' a8 hr;obtain ⟨n1,y1⟩:=aq a1 s v1 o1 e1 r1 k1;obtain ⟨n2,y2⟩:=aq a2 x v2 o2 e2 r2 k2;have ag:qav fr c.args.toList=v1.nm++v2.nm:=by
      rw [O];simp only [qav,List.flatMap_cons,List.flatMap_nil,zJ,n1,n2]
     have bn:∀ n ∈ v1.nm,n ∈ qav fr c.args.toList:=λn A=>by rw [ag];exact List.mem_append.2 (.inl A)
     have bK:∀ n ∈ v2.nm,n ∈ qav fr c.args.toList:=λn A=>by rw [ag];exact List.mem_append.2 (.inr A)
     have Y:∀ (q:PV K) v0,Rep X sz w q v0->((∃ s',q=.str s')∨q=.nils∨∃ c l own,q=.list c l own)->∀ n ∈ v0.nm,n<H.next:=by
      intro q v0 hq hk n A;rcases hk with ⟨s',rfl⟩ | rfl | ⟨c',l',own,rfl⟩
      .cases hq;simp [V.nm] at A
      .cases hq;simp [V.nm] at A
      .rcases j3 hq with ⟨_,rfl⟩ | ⟨nm,gn,off,z,cap,cs,e',gen,al,bf,ex,rfl,hg,_⟩
       .simp [V.nm] at A
       .simp only [V.nm,List.mem_singleton] at A;subst A;exact R.h.lts hg
     have aH:∀ n ∈ qav fr c.args.toList,n<H.next:=by
      intro n A;rw [ag] at A;rcases List.mem_append.1 A with A | A
      .exact Y s v1 r1 k1 n A
      .exact Y x v2 r2 k2 n A
     have cq:∀ g,a1≠.global g:=by
      intro g hg;subst hg;simp only [ju] at o1;obtain ⟨q,_,rfl⟩:=zM.1 o1;rcases k1 with ⟨_,h4⟩ | h4 | ⟨_,_,_,h4⟩<;>cases h4
     have cr:∀ g,a2≠.global g:=by
      intro g hg;subst hg;simp only [ju] at o2;obtain ⟨q,_,rfl⟩:=zM.1 o2;rcases k2 with ⟨_,h4⟩ | h4 | ⟨_,_,_,h4⟩<;>cases h4
     have cZ:∀ T,opd {fr with tmps:=ke fr.tmps (o.looksAt all) .nil} T a1=some v1:=λT=>(qgj (aS a1 (by rw [O];simp)) cq).trans e1;have da:∀ T,opd {fr with tmps:=ke fr.tmps (o.looksAt all) .nil} T a2=some v2:=λT=>(qgj (aS a2 (by rw [O];simp)) cr).trans e2;have cu:∀ (T K1:Heap),qbs T e ei.size ei.bytes v1 v2=some (v,K1)->kc C.E o {fr with tmps:=ke fr.tmps (o.looksAt all) .nil} T=some (.val v,K1):=by
      intro T K1 b6;have ea:qcy {fr with tmps:=ke fr.tmps (o.looksAt all) .nil} T c.args.toList=some [v1,v2]:=by
       rw [O];exact qu3 (cZ T) (qu3 (da T) znp)
      rcases S with ⟨e',S⟩ | S
      .simp only [kc,I,Z,ea,zB,jj,aU,aD,bm,ay,S,aM,b6,zH]
      .simp only [kc,I,Z,ea,zB,jj,aU,aD,bm,ay,S,aM,b6,zH]
     have aa:H.next<=H'.next:=by have:=a8.nx;rw [R.h.nx,R'.nx] at this;exact this
     have ae:∀ id,w.cl id->id<w.n:=λid h=>by rw [R.h.n];exact (R.h.cl id h).1
     have bX:∃ m,v2.many=some m:=by
      rcases k2 with ⟨s',rfl⟩ | rfl | ⟨c',l',own,rfl⟩
      .cases r2;exact ⟨_,rfl⟩
      .cases r2;exact ⟨_,rfl⟩
      .rcases j3 r2 with ⟨_,rfl⟩ | ⟨nm,gn,off,z,cap,cs,e',gen,al,bf,ex,rfl,_⟩
       .exact ⟨_,rfl⟩
       .exact ⟨_,rfl⟩
     obtain ⟨m2,cw⟩:=bX;have az:qs6 fr c.args.toList=q8z m2 v1:=by
      rw [O];simp only [qs6,y1,y2,zB,cw];cases v1 with
      | slice nm g off len z cap=>cases cap<;>rfl
      | _=>rfl
     cases bz:qs6 fr c.args.toList with
     | true=>
      have U:qha C.E o fr=.reads (qav fr c.args.toList):=by
       simp only [qha,I,aF,Bool.not_true,zQ,Z,bz,zO]
      have db:∀ n ∈ qav fr c.args.toList,n ∉ (zl b i done).flatMap Done.names:=by
       intro n A;rcases bw with ⟨rfl,_⟩ | ⟨x1,x2,aA,_,rfl⟩
       .rw [qsy m.D ha (.inl rfl)];simp
       .rw [O] at aA;simp only [List.cons.injEq,and_true] at aA;obtain ⟨rfl,rfl⟩:=aA;rw [ag] at A;rcases List.mem_append.1 A with A | A
        .obtain ⟨_,s',aZ,aB⟩:=au a1 s v1 o1 e1 r1 k1 n A;exact qj8 m.D ha (.inr (.inl ⟨_,rfl,s',List.mem_append.2 (.inl aZ),aB⟩))
        .obtain ⟨_,s',aZ,aB⟩:=au a2 x v2 o2 e2 r2 k2 n A;exact qj8 m.D ha (.inr (.inl ⟨_,rfl,s',List.mem_append.2 (.inr aZ),aB⟩))
      have ad:fpR B done H.next w f (.reads (qav fr c.args.toList)):=by
       rcases bw with ⟨rfl,_⟩ | ⟨x1,x2,aA,_,rfl⟩
       .exact .inr ⟨_,.inr rfl,aH⟩
       .rw [O] at aA;simp only [List.cons.injEq,and_true] at aA;obtain ⟨rfl,rfl⟩:=aA;refine ⟨_,rfl,λn A=>?_⟩;rw [ag] at A;rcases List.mem_append.1 A with A | A
        .obtain ⟨F,s',aZ,aB⟩:=au a1 s v1 o1 e1 r1 k1 n A;exact ⟨F,s',List.mem_append.2 (.inl aZ),aB⟩
        .obtain ⟨F,s',aZ,aB⟩:=au a2 x v2 o2 e2 r2 k2 n A;exact ⟨F,s',List.mem_append.2 (.inr aZ),aB⟩
      have cx:∀ id,f≠.write id:=by
       intro id;rcases bw with ⟨rfl,_⟩ | ⟨_,_,_,_,rfl⟩<;>simp
      generalize hD:(zl b i done).flatMap Done.names=D at *;let T:=zo H (.reads (qav fr c.args.toList)) D;have hT:∀ n,n ∈ qav fr c.args.toList->T.get n=H.get n:=λn A=>qi8 A (aH n A) (db n A);obtain ⟨K1,b6,aC⟩:=q45 (H:=H) (H1:=T) rfl (λn A=>by
       rcases A with A | A
       .exact hT n (bn n A)
       .exact hT n (bK n A)) (by
       rw [bz] at az;cases v1 with
       | nils=>exact .inl rfl
       | slice nm g off len z cap=>
        cases cap with
        | none=>simp [q8z] at az
        | some c'=>exact .inr ⟨_,_,_,_,_,_,_,rfl,cw,az.symm⟩
       | _=>simp [q8z] at az) bJ
      have aN:K1.next=H'.next:=by
       rcases aC with ⟨rfl,rfl⟩ | ⟨row,rfl,rfl⟩
       .rfl
       .rw [qw,qw];rfl
      refine qcl (fp:=.reads (qav fr c.args.toList)) (out:=.val v) (v:=v) (K:=K1) hw U (by simp) (by rw [hD];exact qe2 (fp:=.reads (qav fr c.args.toList)) (lo:=H.next) R.h m.D m.wr (λid W=>absurd W (cx id)) ad ha) ?_ (.inl rfl) (by rw [aN];exact aa) ?_
      .rw [hD];exact cu _ _ b6
      .rw [hD];have RJ:RelH X sz C base L (qb4 H K1 (.reads (qav fr c.args.toList)) D) w':=by
        refine R'.congr (λn=>?_) aN ?_ ?_
        .rw [qwx];rcases aC with ⟨rfl,rfl⟩ | ⟨row,rfl,rfl⟩
         .rw [zF];intro A;have:=List.mem_range'_1.1 A;have bo:T.next=H'.next:=rfl
          omega
         .have bo:(T.new row).next=H.next+1:=qw
          split
          .rename_i A;have:=List.mem_range'_1.1 A;have:n=H.next:=by omega
           subst this;rw [qbb];exact qbb (H:=T)
          .rename_i A;by_cases N:n=H.next
           .exfalso;apply A;exact List.mem_range'_1.2 ⟨by omega,by omega⟩
           .obtain ⟨t0,dc,dd,de⟩:=H;simp only [Heap.new,Heap.get,Tree.kv];rw [zF N]
        .rw [R'.keeps.ro];exact bc
        .rw [R'.keeps.zf];exact R.h.keeps.zf
       exact next p L v _ w' _ hk ⟨g1,g2⟩ (more _) (qc3 (by rw [I])) a8 (m.go ok g1 g2 RJ a8 hr (by show H.next<=K1.next;rw [aN];exact aa) ⟨by rw [aN];exact aa,zN _⟩ (λab=>by rw [I] at ab;simp [makes,Z] at ab) (ad.mono a8 (λ_ h=>h) ae) (ah _ _ hk) (λid W=>absurd W (cx id)))
     | false=>
      have U:qha C.E o fr=.writes (qav fr c.args.toList):=by
       simp only [qha,I,aF,Bool.not_true,zQ,Z,bz,zQ]
      have df:f=.lone:=by
       rcases bw with ⟨rfl,_⟩ | ⟨x1,x2,aA,af,rfl⟩
       .rfl
       .exfalso;rw [O] at aA;simp only [List.cons.injEq,and_true] at aA;obtain ⟨rfl,rfl⟩:=aA;unfold qza at af;rw [o1] at af;rw [bz] at az;rcases k1 with ⟨s',rfl⟩ | rfl | ⟨c',l',own,rfl⟩
        .simp at af
        .cases r1;simp [q8z] at az
        .simp only at af;split at af
         .rename_i t';split at af
          .rename_i j wh hl;subst af;obtain ⟨b8,len,z,dg⟩:=(aI.fresh t' j true v1 hl e1).2 rfl;subst dg;have h0:=az.symm;simp only [q8z,Bool.or_eq_false_iff,Bool.not_eq_false',Nat.ble_eq] at h0;have F:=h0.1;rw [<-Bool.not_eq_true,Nat.beq_eq] at F;omega
          .cases af
         .cases af
      subst df;have P:=qsy m.D ha (.inl rfl);have b1:∀ n,n ∈ qav fr c.args.toList->n<H.next->(zo H (.writes (qav fr c.args.toList)) []).get n=H.get n:=λn F N=>qn2 F N (by simp)
      let T:=zo H (.writes (qav fr c.args.toList)) [];obtain ⟨K1,b6,aC⟩:=q1o (H:=H) (H1:=T) rfl rfl (λn A=>by
       rcases A with A | A
       .exact b1 n (bn n A) (Y s v1 r1 k1 n A)
       .exact b1 n (bK n A) (Y x v2 r2 k2 n A)) bJ
      have aN:K1.next=H'.next:=by
       rcases aC with ⟨rfl,rfl⟩ | ⟨row,rfl,rfl⟩ | ⟨nm,row,_,_,rfl,rfl⟩
       .rfl
       .rw [qw,qw];rfl
       .rfl
      refine qcl (fp:=.writes (qav fr c.args.toList)) (out:=.val v) (v:=v) (K:=K1) hw U (by simp) (qe2 (fp:=.writes (qav fr c.args.toList)) (lo:=H.next) R.h m.D (f:=.lone) m.wr (by simp) (.inr ⟨_,.inl rfl,aH⟩) ha) ?_ (.inl rfl) (by rw [aN];exact aa) ?_
      .rw [P];exact cu _ _ b6
      .rw [P];have RJ:RelH X sz C base L (qb4 H K1 (.writes (qav fr c.args.toList)) []) w':=by
        refine R'.congr (λn=>?_) aN ?_ ?_
        .rw [qh9];have hT:∀ m,m ∈ (qav fr c.args.toList).filter (λn=>Nat.blt n H.next&&!([]:List Nat).any λm=>Nat.beq n m)->T.get m=H.get m:=by
          intro m hm;simp only [List.mem_filter,zA,Nat.blt_eq] at hm;exact b1 m hm.1 hm.2.1
         rcases aC with ⟨rfl,rfl⟩ | ⟨row,rfl,rfl⟩ | ⟨nm,row,bL,dG,rfl,rfl⟩
         .split
          .rename_i A;rcases List.mem_append.1 A with A | A
           .exact hT n A
           .have:=List.mem_range'_1.1 A;have bo:T.next=H'.next:=rfl
            omega
          .rfl
         .have bo:(T.new row).next=H.next+1:=qw
          split
          .rename_i A;rcases List.mem_append.1 A with A | A
           .have N:n<H.next:=by
             simp only [List.mem_filter,zA,Nat.blt_eq] at A;exact A.2.1
            rw [qdj (H:=T) N,qdj N];exact hT n A
           .have:=List.mem_range'_1.1 A;have:n=H.next:=by omega
            subst this;rw [qbb];exact qbb (H:=T)
          .rename_i A;by_cases N:n=H.next
           .exfalso;apply A;refine List.mem_append.2 (.inr (List.mem_range'_1.2 ⟨by omega,by omega⟩))
           .have:(H.new row).get n=H.get n:=by
             obtain ⟨t0,dc,dd,de⟩:=H;simp only [Heap.new,Heap.get,Tree.kv];rw [zF N]
            rw [this]
         .have cy:nm<H.next:=Y s v1 r1 k1 nm bL
          have bo:(T.put nm row).next-H.next=0:=Nat.sub_self _
          rw [bo];simp only [List.range'_zero,zJ];by_cases N:n=nm
          .subst N;rw [zT,qaf,qaf];simp only [List.mem_filter,zA,Nat.blt_eq];exact ⟨bn n bL,cy,by simp⟩
          .rw [qb8 N,qb8 N];split
           .rename_i A;exact hT n A
           .rfl
        .rw [R'.keeps.ro];exact bc
        .rw [R'.keeps.zf];exact R.h.keeps.zf
       exact next p L v _ w' _ hk ⟨g1,g2⟩ (more _) (qc3 (by rw [I])) a8 (m.go ok g1 g2 RJ a8 hr (by show H.next<=K1.next;rw [aN];exact aa) ⟨by rw [aN];exact aa,zN _⟩ (λab=>by rw [I] at ab;simp [makes,Z] at ab) (.inr ⟨_,.inl rfl,aH⟩) (ah _ _ hk) (by simp))
    have dh:∀ (l:List Operand) s x,qgw (ql X tbl inv meas) C st l=some [s,x]->∃ a1 a2,l=[a1,a2]/\ju (ql X tbl inv meas) C st a1=some s/\ju (ql X tbl inv meas) C st a2=some x:=by
     intro l s x hl
     match l,hl with
     | [],hl=>simp [qgw] at hl
     | [a1],hl=>
      simp only [qgw,zH,zI] at hl;obtain ⟨q,_,hq⟩:=hl;simp at hq
     | a1::a2::a3::l,hl=>
      simp only [qgw] at hl;obtain ⟨q1,_,hq⟩:=zI.1 hl;obtain ⟨q2,bY,bA⟩:=zM.1 hq;obtain ⟨q4,_,bB⟩:=zI.1 bY;obtain ⟨q6,di,dj⟩:=zM.1 bB;obtain ⟨q8,_,dk⟩:=zI.1 di;obtain ⟨dH,_,cz⟩:=zM.1 dk;subst cz;subst dj;simp at bA
     | [a1,a2],hl=>
      simp only [qgw] at hl;obtain ⟨q1,F,hq⟩:=zI.1 hl;obtain ⟨q2,bY,bA⟩:=zM.1 hq;obtain ⟨q4,h4,bB⟩:=zI.1 bY;simp only [zH,zS] at bB;subst bB;simp only [List.cons.injEq,and_true] at bA;obtain ⟨rfl,rfl⟩:=bA;exact ⟨a1,a2,rfl,F,h4⟩
    unfold qks at F;split at F
    .contradiction
    .rename_i s x t u _ aU;obtain ⟨a1,a2,O,o1,o2⟩:=dh _ _ _ b4;have an:qkr (ql X tbl inv meas) C st a1=false/\qkr (ql X tbl inv meas) C st a2=false:=by
      obtain ⟨x',y',aT,an⟩:=cp;rw [O] at aT;cases aT;exact Bool.or_eq_false_iff.1 an
     obtain ⟨v1,cP,rfl,r1,rr⟩:=rv.zt;obtain ⟨v2,ds,rfl,r2,r4⟩:=rr.zt;have:=r4.ka;subst this;have b2:opd fr H a1=some v1/\opd fr H a2=some v2:=by
      rw [O] at ev;simp only [qcy] at ev;obtain ⟨u1,b9,aj⟩:=zI.1 ev;obtain ⟨u2,dm,cA⟩:=zM.1 aj;obtain ⟨u3,dn,cB⟩:=zI.1 dm;simp only [zH,zS] at cB;subst cB;simp only [List.cons.injEq,and_true] at cA;obtain ⟨rfl,rfl⟩:=cA;exact ⟨b9,dn⟩
     have ax:∀ (c':Nat) (q:PV K) l',asL (ql X tbl inv meas) c' q=some l'->((∃ s',q=.str s')∨q=.nils∨∃ c l own,q=.list c l own):=by
      intro c' q l' hq;unfold asL at hq;split at hq
      .exact .inr (.inl rfl)
      .exact .inr (.inr ⟨_,_,_,rfl⟩)
      .cases hq
     split at F
     .rename_i ti ui aD bm;split at F
      .rename_i e e' ay S;split at F
       .rename_i c' ei bp aM;cases hb:(Nat.ble ei.bytes 1024&&!Nat.beq ei.size 0) with
        | false=>rw [hb] at F;exact absurd F id
        | true=>
         rw [hb] at F;simp only [zO] at F;simp only [zA,Nat.ble_eq] at hb;rw [zb8 an.2 o2] at F;simp only at F;split at F
         .rename_i l' hl;have rl:=qeb r2 hl;have dp:=ok.size e c' ei bp aM;obtain ⟨dq,bC,bZ⟩:=qiy ok.len R.h.g rl (ok.pos e c' bp);rw [<-dp] at bC;obtain ⟨l0,_,_,_,c0,_⟩:=qor R.h F;obtain ⟨p,L,v,H',w',q1,q2,q3,q4,q5,q6,q7⟩:=qe8 ok R.h bp aM hb.1 r1 bC bZ F;exact fin a1 a2 s x v1 v2 t u ti ui e ei p L v H' w' O o1 o2 b2.1 b2.2 r1 r2 (ax _ _ _ c0) (ax _ _ _ hl) aU aD bm ay (.inl ⟨_,S⟩) aM q4 q1 q2 q3 q5 q6 q7
         .exact absurd F id
       .split at F
        .have an:=an.1;unfold qkr at an;rw [o1] at an;cases an
        .exact F.elim
       .exact absurd F id
      .rename_i e ay S;split at F
       .rename_i ei y bp aM;cases hb:(Nat.ble ei.bytes 1024&&Nat.beq ei.size 1) with
        | false=>rw [hb] at F;exact absurd F id
        | true=>
         rw [hb] at F;simp only [zO] at F;simp only [zA,Nat.ble_eq] at hb;cases r2;have dr:=zE hb.2;obtain ⟨cC,bZ⟩:=q4f (w:=w) ok y;have bC:k7 H ei.size (.str y)=some ((X.u8 ▸ y:List (K 0)).length,y.map λb=>V.int .u8 b.toNat):=by rw [dr,qym,cC]
         obtain ⟨l0,_,_,_,c0,_⟩:=qor R.h F;obtain ⟨p,L,v,H',w',q1,q2,q3,q4,q5,q6,q7⟩:=qe8 ok R.h bp aM hb.1 r1 bC bZ F;exact fin a1 a2 s (.str y) v1 (.str y) t u ti ui e ei p L v H' w' O o1 o2 b2.1 b2.2 r1 .str (ax _ _ _ c0) (.inl ⟨_,rfl⟩) aU aD bm ay (.inr S) aM q4 q1 q2 q3 q5 q6 q7
       .exact absurd F id
      .exact absurd F id
     .exact absurd F id
    .contradiction
    .contradiction
    .exact absurd F id
   .exact absurd F id
  | _=>rw [I] at G;simp at G
end
end Go.E3
/- E3: REGIONS that draw their order, as a whole; what a piece of code leaves alone. -/
namespace Go.E3
open Go Go.E2
variable {K:Nat->Type}
section
variable {X:Codecs K} {sz:Nat->Nat} {C:ZC K} {base:Heap}
variable {tbl:Tbl K} {inv:Nat->List (NV K)->Prop} {meas:Nat->List (NV K)->Nat} {inl:ZI K}
variable {all:Array Oper} {b:Array Nat} {B old:Nat}
theorem zfn {α:Type}:∀ {l:List (Nat×α)} {j:Nat},(look l j).isSome=true->∃ a,(j,a) ∈ l
 | [],j,h=>by simp [look] at h
 | (i,a)::l,j,h=>by
  simp only [look,cond_eq_ite,Nat.beq_eq] at h;by_cases hi:i=j
  .subst hi;exact ⟨a,zC⟩
  .rw [zF hi] at h;obtain ⟨b,c⟩:=zfn h;exact ⟨b,zG _ c⟩
theorem qn4 (ok:CfgOk X sz C) (ok2:CfgOk2 X C) (tok:qjh X sz C tbl) (s:qoe X sz C inl):∀ {l:List Oper} {i:Nat} {w0:Wd} {y:List Done3} {done:List Done} {st:StV K} {fr:Fr} {H:Heap} {w:Wd} {A:Dirt} {k:StV K->Prop},
  Mid X sz C base B old i w0 y done st fr H w->Cm X sz B w0 done A st fr->q1c (ql X tbl inv meas) C inl all b old i l A y st k->
  WpD C.E all b i l done fr H λex fr' H'=>ex=.normal/\∃ g w',k g/\Rel X sz C base g fr' H' w'/\Le w w'
 | [],i,w0,y,done,st,fr,H,w,A,k,m,_,h=>zgk ⟨rfl,st,w,h,m.R,.refl w⟩
 | o::l,i,w0,y,done,st,fr,H,w,A,k,m,cm,h=>by
  simp only [q1c] at h;cases q:qsw o.op with
  | true=>rw [q] at h;exact absurd h id
  | false=>
   rw [q] at h;simp only [zQ] at h;obtain ⟨bw,st1,hw,r,F,P,R1⟩:=qwr m.R h;have G:Mid X sz C base B old i w0 y done st1 fr H w:=⟨m.R.step ok F.tmps F.n R1 (.refl w),m.D,m.hB,by rw [P];exact m.hold,m.lt,λd q id he=>by rw [F.cells];exact m.live d q id he,m.top,m.z,m.z0⟩;have u:Cm X sz B w0 done A st1 fr:=⟨λt p v q I=>by rw [F.tmps] at I;exact cm.calm t p v q I,λt c l' own v q I=>by rw [F.tmps] at I;exact cm.rep t c l' own v q I,cm.fresh⟩;cases bw with
   | true=>
    simp only [zO] at r;split at r
    .rename_i f hf;cases S:(y.filter λd=>!(b.getD i 0).testBit d.i).all (λd=>qkq old d f) with
     | false=>rw [S] at r;exact absurd r id
     | true=>
      rw [S] at r;simp only [zO] at r;have L:∀ {g:StV K} {Q:Prop},(bif st1.cells.all (λx=>(look g.cells x.1).isSome) then Q else False)->st1.cells.all (λx=>(look g.cells x.1).isSome)=true/\Q:=by
       intro g Q O;cases hc:st1.cells.all (λx=>(look g.cells x.1).isSome) with
       | false=>rw [hc] at O;exact O.elim
       | true=>rw [hc] at O;exact ⟨rfl,O⟩
      refine zre ok ok2 tok s G u hw hf S (λp g T j hj=>?_) r λp g v J w' U T M V W Y m'=>?_
      .obtain ⟨a,Z⟩:=zfn hj;exact List.all_eq_true.1 (L T).1 _ Z
      have a6:∀ x d,qay A st1 i o=some x->o.dst=some d->Nat.blt d fr.n=true:=by
       intro x d h2 h3;unfold qay at h2;rw [h3] at h2;rw [G.R.n];exact (qet h2).1
      have ih:=qn4 ok ok2 tok s m' (u.put V M.1 (G.R.n.trans M.2.symm) a6 W) (L T).2;obtain ⟨x,hx,e,N,a7,a1,a2,a3⟩:=ih;exact ⟨x,hx,e,N,a7,a1,a2,Y.trans a3⟩
    .exact absurd r id
   | false=>
    simp only [zQ] at r;refine zpv hw ?_;exact qn4 ok ok2 tok s (G.go (f:=.none) (fp:=.none) (mk:=false) ok rfl rfl R1 (.refl w) .undef (zN _) ⟨zN _,zN _⟩ (λ_=>rfl) rfl (λ_ h=>h) (by simp)) (u.put (λd q=>zG _ q) rfl G.R.n (λx d hx=>by cases hx) .no) r
end
theorem q30 {fr:Fr} {dst:Option Tmp} {v:V} {t:Nat} (h:dst≠some t):(fr.put dst v).tmp t=fr.tmp t:=by
 cases dst with
 | none=>rfl
 | some d=>
  obtain ⟨b,n,c⟩:=fr;simp only [Fr.put];cases Nat.blt d n with
  | false=>rfl
  | true=>
   simp only [zO,Fr.tmp,Tree.kv];rw [zF];intro a;exact h (by rw [a])
theorem qtp {E:Env} {call:Go.E2.Call} {b:Bool} {all:Array Oper} {t:Nat}:∀ {l:List Oper} {fr fr':Fr} {H H':Heap} {ex:Ex},(∀ o ∈ l,o.dst≠some t)->qhr E call b all l fr H=some (ex,fr',H')->fr'.tmp t=fr.tmp t
 | [],fr,fr',H,H',ex,_,h=>by
  simp only [qhr,zS,zP] at h;rw [h.2.1]
 | o::l,fr,fr',H,H',ex,a,h=>by
  have c:=a o zC;have d:∀ o ∈ l,o.dst≠some t:=λo e=>a o (zG _ e);simp only [qhr] at h;split at h
  .rw [qtp d h,q30 c]
  .simp only [zS,zP] at h;rw [h.2.1]
  .cases h
theorem qq6 {E:Env} {call:Go.E2.Call} {all:Array Oper} {b:Array Nat} {t:Nat}:∀ {l:List Oper} {i:Nat} {done:List Done} {fr fr':Fr} {H H':Heap},(∀ o ∈ l,o.dst≠some t)->qc6 E call all b i l done fr H=some (fr',H')->fr'.tmp t=fr.tmp t
 | [],i,done,fr,fr',H,H',_,h=>by
  simp only [qc6,zS,zP] at h;rw [h.1]
 | o::l,i,done,fr,fr',H,H',d,h=>by
  have e:=d o zC;have f:∀ o ∈ l,o.dst≠some t:=λo g=>d o (zG _ g);simp only [qc6] at h;obtain ⟨j,_,k⟩:=zI.1 h;rcases zu k with ⟨_,a⟩ | ⟨_,a⟩
  .split at a
   .rcases zu a with ⟨_,c⟩ | ⟨_,c⟩
    .rw [qq6 f c,q30 e]
    .cases c
   .cases a
  .cases a
theorem qrw {σ:Type} {step:σ->Option (Bool×σ)} {P:σ->Prop} (c:∀ s b a,P s->step s=some (b,a)->P a):∀ {n:Nat} {s a:σ},P s->iter step n s=some a->P a
 | 0,s,a,_,h=>by cases h
 | n+1,s,a,e,h=>by
  simp only [iter] at h;split at h
  .rename_i f d;exact qrw c (c _ _ _ e d) h
  .rename_i f d;cases h;exact c _ _ _ e d
  .cases h
theorem qae {E:Env} {call:Go.E2.Call} {fn:FuncId} {round:Option Nat} {fuel t:Nat}:∀ {c:Code} {fr fr':Fr} {H H':Heap} {ex:Ex},t ∉ qg2 c->zk E call fn round fuel c fr H=some (ex,fr',H')->fr'.tmp t=fr.tmp t
 | .skip,fr,fr',H,H',ex,_,h=>by simp only [zk,zS,zP] at h;rw [h.2.1]
 | .label _,fr,fr',H,H',ex,_,h=>by simp only [zk,zS,zP] at h;rw [h.2.1]
 | .exit _,fr,fr',H,H',ex,_,h=>by simp only [zk,zS,zP] at h;rw [h.2.1]
 | .goto _,fr,fr',H,H',ex,_,h=>by simp only [zk,zS,zP] at h;rw [h.2.1]
 | .ret,fr,fr',H,H',ex,_,h=>by simp only [zk,zS,zP] at h;rw [h.2.1]
 | .refuse _,fr,fr',H,H',ex,_,h=>by simp [zk] at h
 | .seq a b,fr,fr',H,H',ex,d,h=>by
  simp only [qg2,List.mem_append,not_or] at d;simp only [zk] at h;split at h
  .rename_i g H1 e;rw [qae d.2 h,qae d.1 e]
  .exact qae d.1 h
 | .cond c a b,fr,fr',H,H',ex,d,h=>by
  simp only [qg2,List.mem_append,not_or] at d;simp only [zk] at h;split at h
  .exact qae d.1 h
  .exact qae d.2 h
  .cases h
 | .block id c,fr,fr',H,H',ex,d,h=>by
  simp only [qg2] at d;simp only [zk] at h;split at h
  .rename_i q g H1 e;simp only [cond_eq_ite] at h;split at h
   .simp only [zS,zP] at h;rw [<-h.2.1,qae d e]
   .simp only [zS,zP] at h;rw [<-h.2.1,qae d e]
  .exact qae d h
 | .scope c,fr,fr',H,H',ex,d,h=>by
  simp only [qg2] at d;simp only [zk] at h;split at h
  .cases h
  .exact qae d h
 | .loop c,fr,fr',H,H',ex,d,h=>by
  simp only [qg2] at d;simp only [zk] at h;refine qrw (P:=λs:Ex×Fr×Heap=>s.2.1.tmp t=fr.tmp t) (λs b w m i=>?_) (s:=(.normal,fr,H)) rfl h;split at i
  .rename_i g H1 e;simp only [zS,zP] at i;rw [<-i.2];show g.tmp t=_;rw [qae d e];exact m
  .rename_i r _ e;simp only [zS,zP] at i;rw [<-i.2];obtain ⟨x,n,g1⟩:=r;show n.tmp t=_;rw [qae d e];exact m
  .cases i
 | .region _ l j,fr,fr',H,H',ex,d,h=>by
  have p:∀ o ∈ l.toList,o.dst≠some t:=by
   intro o u v;exact d (by simp only [qg2,List.mem_filterMap];exact ⟨o,u,v⟩)
  simp only [zk] at h;cases j with
  | true=>
   simp only [zO] at h;obtain ⟨⟨n,g1⟩,e,k⟩:=zM.1 h;simp only [zP] at k;rw [<-k.2.1];exact qq6 p e
  | false=>
   simp only [zQ] at h;exact qtp p h
 | .rangeFunc f ps a b,fr,fr',H,H',ex,d,h=>by
  simp only [zk] at h;obtain ⟨z,_,h⟩:=zI.1 h;split at h
  .simp only [cond_eq_ite] at h;split at h
   .split at h
    .obtain ⟨y,_,k⟩:=zM.1 h;simp only [zP] at k;rw [<-k.2.1];rfl
    .simp only [zS,zP] at h;rw [<-h.2.1];rfl
    .cases h
   .cases h
  .cases h
theorem zf3 {fr:Fr} {dst:Option Tmp} {v:V}:(fr.put dst v).n=fr.n:=by
 cases dst with
 | none=>rfl
 | some d=>
  obtain ⟨a,n,b⟩:=fr;simp only [Fr.put];cases Nat.blt d n<;>rfl
theorem zaa {E:Env} {call:Go.E2.Call} {b:Bool} {all:Array Oper} {t:Nat}:∀ {l:List Oper} {fr fr':Fr} {H H':Heap} {ex:Ex},(∀ o ∈ l,o.dst≠some t)->qhr E call b all l fr H=some (ex,fr',H')->fr'.n=fr.n
 | [],fr,fr',H,H',ex,_,h=>by
  simp only [qhr,zS,zP] at h;rw [h.2.1]
 | o::l,fr,fr',H,H',ex,a,h=>by
  have e:=a o zC;have c:∀ o ∈ l,o.dst≠some t:=λo d=>a o (zG _ d);simp only [qhr] at h;split at h
  .rw [zaa c h,zf3]
  .simp only [zS,zP] at h;rw [h.2.1]
  .cases h
theorem q39 {E:Env} {call:Go.E2.Call} {all:Array Oper} {b:Array Nat} {t:Nat}:∀ {l:List Oper} {i:Nat} {done:List Done} {fr fr':Fr} {H H':Heap},(∀ o ∈ l,o.dst≠some t)->qc6 E call all b i l done fr H=some (fr',H')->fr'.n=fr.n
 | [],i,done,fr,fr',H,H',_,h=>by
  simp only [qc6,zS,zP] at h;rw [h.1]
 | o::l,i,done,fr,fr',H,H',d,h=>by
  have k:=d o zC;have e:∀ o ∈ l,o.dst≠some t:=λo f=>d o (zG _ f);simp only [qc6] at h;obtain ⟨g,_,j⟩:=zI.1 h;rcases zu j with ⟨_,a⟩ | ⟨_,a⟩
  .split at a
   .rcases zu a with ⟨_,c⟩ | ⟨_,c⟩
    .rw [q39 e c,zf3]
    .cases c
   .cases a
  .cases a
theorem qd2 {E:Env} {call:Go.E2.Call} {fn:FuncId} {round:Option Nat} {fuel t:Nat}:∀ {c:Code} {fr fr':Fr} {H H':Heap} {ex:Ex},t ∉ qg2 c->zk E call fn round fuel c fr H=some (ex,fr',H')->fr'.n=fr.n
 | .skip,fr,fr',H,H',ex,_,h=>by simp only [zk,zS,zP] at h;rw [h.2.1]
 | .label _,fr,fr',H,H',ex,_,h=>by simp only [zk,zS,zP] at h;rw [h.2.1]
 | .exit _,fr,fr',H,H',ex,_,h=>by simp only [zk,zS,zP] at h;rw [h.2.1]
 | .goto _,fr,fr',H,H',ex,_,h=>by simp only [zk,zS,zP] at h;rw [h.2.1]
 | .ret,fr,fr',H,H',ex,_,h=>by simp only [zk,zS,zP] at h;rw [h.2.1]
 | .refuse _,fr,fr',H,H',ex,_,h=>by simp [zk] at h
 | .seq a b,fr,fr',H,H',ex,d,h=>by
  simp only [qg2,List.mem_append,not_or] at d;simp only [zk] at h;split at h
  .rename_i g H1 e;rw [qd2 d.2 h,qd2 d.1 e]
  .exact qd2 d.1 h
 | .cond c a b,fr,fr',H,H',ex,d,h=>by
  simp only [qg2,List.mem_append,not_or] at d;simp only [zk] at h;split at h
  .exact qd2 d.1 h
  .exact qd2 d.2 h
  .cases h
 | .block id c,fr,fr',H,H',ex,d,h=>by
  simp only [qg2] at d;simp only [zk] at h;split at h
  .rename_i u g H1 e;simp only [cond_eq_ite] at h;split at h
   .simp only [zS,zP] at h;rw [<-h.2.1,qd2 d e]
   .simp only [zS,zP] at h;rw [<-h.2.1,qd2 d e]
  .exact qd2 d h
 | .scope c,fr,fr',H,H',ex,d,h=>by
  simp only [qg2] at d;simp only [zk] at h;split at h
  .cases h
  .exact qd2 d h
 | .loop c,fr,fr',H,H',ex,d,h=>by
  simp only [qg2] at d;simp only [zk] at h;refine qrw (P:=λs:Ex×Fr×Heap=>s.2.1.n=fr.n) (λs b x m i=>?_) (s:=(.normal,fr,H)) rfl h;split at i
  .rename_i g H1 e;simp only [zS,zP] at i;rw [<-i.2];show g.n=_;rw [qd2 d e];exact m
  .rename_i r _ e;simp only [zS,zP] at i;rw [<-i.2];obtain ⟨A,p,g1⟩:=r;show p.n=_;rw [qd2 d e];exact m
  .cases i
 | .region _ l j,fr,fr',H,H',ex,d,h=>by
  have q:∀ o ∈ l.toList,o.dst≠some t:=by
   intro o v w;exact d (by simp only [qg2,List.mem_filterMap];exact ⟨o,v,w⟩)
  simp only [zk] at h;cases j with
  | true=>
   simp only [zO] at h;obtain ⟨⟨p,g1⟩,e,k⟩:=zM.1 h;simp only [zP] at k;rw [<-k.2.1];exact q39 q e
  | false=>
   simp only [zQ] at h;exact zaa q h
 | .rangeFunc f ps a b,fr,fr',H,H',ex,d,h=>by
  simp only [zk] at h;obtain ⟨z,_,h⟩:=zI.1 h;split at h
  .simp only [cond_eq_ite] at h;split at h
   .split at h
    .obtain ⟨y,_,k⟩:=zM.1 h;simp only [zP] at k;rw [<-k.2.1]
    .simp only [zS,zP] at h;rw [<-h.2.1]
    .cases h
   .cases h
  .cases h
theorem qys (l:List Nat):∃ t,t ∉ l:=by
 have c:∃ m,∀ x ∈ l,x<m:=by
  induction l with
  | nil=>exact ⟨0,λx b=>by cases b⟩
  | cons a l e=>
   obtain ⟨m,d⟩:=e;refine ⟨max m (a+1),λx b=>?_⟩;rcases zD.1 b with rfl | b
   .omega
   .have:=d x b;omega
 obtain ⟨m,d⟩:=c;exact ⟨m,λh=>Nat.lt_irrefl _ (d m h)⟩
theorem Wp.frame {E:Env} {fn:FuncId} {round:Option Nat} {c:Code} {fr:Fr} {H:Heap} {Q:Ex->Fr->Heap->Prop} (h:Wp E fn round c fr H Q):Wp E fn round c fr H λex fr' H'=>Q ex fr' H'/\(∀ t,t ∉ qg2 c->fr'.tmp t=fr.tmp t)/\fr'.n=fr.n:=by
 obtain ⟨x,⟨a,b⟩,i⟩:=h;obtain ⟨e,f,g⟩:=x;refine ⟨(e,f,g),⟨a,b⟩,i,λt d=>qae d (b a (zN _)),?_⟩;obtain ⟨t,d⟩:=qys (qg2 c);exact qd2 d (b a (zN _))
end Go.E3
