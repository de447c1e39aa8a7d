/- A VERIFIED EVALUATOR, texts E3k, E3l, E3m, E3n, E3o, E3p, E3q, E3r in one. -/
import Derived.Test.YtcnoipglgpkpeaaGreatDoorM4
/- E3: APPEND, LISTS WRITTEN OUT against E2's. -/
namespace Go.E3
open Go Go.E2
variable {K:Nat->Type}
section
variable {X:Codecs K} {sz:Nat->Nat} {C:ZC K} {base H:Heap} {st:StV K} {fr:Fr} {w:Wd}
variable {tbl:Tbl K} {inv:Nat->List (NV K)->Prop} {meas:Nat->List (NV K)->Nat}
theorem qg9 (hx:∀ c x,(X.cells c x).length=sz c) {c:Nat} {l:List (K c)} {own:Option (Nat×Nat)} {nm gn off:Nat} {cap:Option Nat} {cs fl:List V} {e:TypeId} {gen floor frz:Nat} {ex:Bool}
  (hg:w.g nm=some (.row cs e gen floor frz ex)) (hf:floor<=gn) (hM:¬ w.M nm) (hz:0<sz c) (hcap:∀ k,cap=some k->l.length<=k) (hr:qn X sz w (l.flatMap (X.cells c)) fl)
  (hb:off+fl.length<=cs.length) (hfl:∀ m,m<fl.length->cs.getD (off+m) kj=fl.getD m kj) (ho:qjh w sz c own (.slice nm gn off l.length (sz c) cap)) :
  Rep X sz w (.list c l own) (.slice nm gn off l.length (sz c) cap):=by
 have hlen:fl.length=l.length * sz c:=by rw [<-hr.1];exact qh2 hx
 refine .list hg hf hM rfl (by omega) ⟨hz,.inl rfl⟩ hcap (fun i hi j p hp=>?_) ho
 have hget:=qtx hx hi hp
 have h1:=hr.2 _ p hget
 have hlt:i * sz c+j<fl.length:=by rw [<-hr.1];exact (List.getElem?_eq_some_iff.1 hget).1
 rw [Nat.add_assoc,hfl _ hlt]
 exact h1
theorem qef {α:Type}:∀ {l:List (Nat×α)} {n j:Nat},look (jz l n) j=if j=n then none else look l j
 | [],n,j=>by simp [jz,look]
 | (i,b)::l,n,j=>by
  simp only [jz,cond_eq_ite,Nat.beq_eq]
  by_cases hi:i=n
  .subst hi
   rw [zT rfl,qef]
   by_cases hj:j=i
   .rw [zT hj,zT hj]
   .rw [zF hj,zF hj,j5,zF hj]
  .rw [zF hi,j5,j5]
   by_cases hj:j=i
   .subst hj;rw [zT rfl,zF hi,zT rfl]
   .rw [zF hj,zF hj,qef]
theorem qju (ok:CfgOk X sz C) (R:RelH X sz C base st H w) {id c:Nat} {l:List (K c)} (hl:look st.cells id=some (.ml c l)) (hz:0<sz c) :
  ∃ w',RelH X sz C base {st with cells:=jz st.cells id} H w'/\Le w w'/\w'.n=w.n/\w'.g=w.g/\(∀ own cap,(∀ k,cap=some k->l.length<=k)->qjh w' sz c own (.slice (w.c id) 0 0 l.length (sz c) cap)->Rep X sz w' (.list c l own) (.slice (w.c id) 0 0 l.length (sz c) cap)):=by
 obtain ⟨hcl,hM,vs,e,ex,hg,_,hr⟩:=R.cells id _ hl
 obtain ⟨hid,hnext,hbase⟩:=R.cl id hcl
 have hr:qn X sz w (l.flatMap (X.cells c)) vs:=hr
 let w':Wd:={w with M:=fun n=>w.M n/\n≠w.c id}
 have hle:Le w w':=
  ⟨⟨zN _,fun nm cs e gen floor frz ex h hM'=>⟨fun hh=>hM' hh.1,[],gen,frz,ex,by rw [zJ];exact h⟩,fun _ _=>rfl,fun _ _=>rfl,fun _ _ h=>h,
   fun _ _ _ _ h h'=>(by have h':w.owns _=_:=h';rw [h] at h';cases h';exact zN _),fun _ _ _ _ _=>⟨rfl,fun _ _ _=>rfl⟩,rfl,fun _ _=>.rfl,zN _,rfl,fun n hn hm=>⟨hm,fun he=>by subst he;rw [R.b] at hn;omega⟩,fun _ _=>rfl⟩,fun _ h=>h,rfl⟩
 refine ⟨w',⟨R.wf,R.rob,R.g,R.nx,R.b,fun n hn=>R.Mlt n hn.1,R.n,R.one,R.keeps,R.cl,R.cinj,fun id' ct' h'=>?_,R.owns,R.ownn,fun i s nm h hn=>?_,R.einj,R.ce,R.known,fun gn ps' h'=>?_⟩,hle,rfl,rfl,fun own cap hcap ho=>?_⟩
 .simp only [qef] at h'
  by_cases hi:id'=id
  .rw [zT hi] at h';cases h'
  .rw [zF hi] at h'
   obtain ⟨q1,q2,q5⟩:=R.cells id' ct' h'
   exact ⟨q1,⟨q2,fun he=>hi (R.cinj id' id q1 hcl he)⟩,q5.mono ok.len hle (by rw [R.n];exact (R.cl id' q1).1)⟩
 .obtain ⟨q1,q2,q3⟩:=R.eta i s nm h hn
  exact ⟨q1,q2,fun hh=>q3 hh.1⟩
 .obtain ⟨q0,vs',e',fl,fz,ex',q1,q2,q3⟩:=R.globs gn ps' h'
  exact ⟨q0,vs',e',fl,fz,ex',q1,q2,q3.mono ok.len hle⟩
 .refine qg9 ok.len (w:=w') (by show w.g _=_;rw [R.g];exact hg) (zN _) (fun hh=>hh.2 rfl) hz hcap (hr.mono ok.len hle) (by omega) (fun m _=>by rw [Nat.zero_add]) ho
theorem qnm (ok:CfgOk X sz C) (R:RelH X sz C base st H w) {st':StV K} {i s:Nat} (B:Bump st st' i s) {named:Bool} (hn:named=true->∃ g,look st.owns i=some g) :
  ∃ w',RelH X sz C base st' H w'/\Le w w'/\w'.owns i=some s/\w'.eta i=(if named then w.eta i else none)/\w'.n=st'.next/\w'.g=w.g/\w'.M=w.M/\w'.ce=w.ce:=by
 let eta':Nat->Option Nat:=fun j=>if j=i then (if named then w.eta i else none) else w.eta j
 let w':Wd:={w with n:=st'.next,owns:=look st'.owns,eta:=eta'}
 have hle:Le w w':=by
  refine ⟨⟨by rw [R.n];exact B.next,fun nm cs e gen floor frz ex h hM=>⟨hM,[],gen,frz,ex,by rw [zJ];exact h⟩,fun _ _=>rfl,fun _ _=>rfl,fun j hj h=>?_,fun j a b hj h h'=>?_,fun j a hj h h'=>?_,rfl,fun _ _=>.rfl,zN _,rfl,fun _ _ h=>h,fun _ _=>rfl⟩,fun _ h=>h,rfl⟩
  .rw [R.owns] at h
   show look st'.owns j=none
   rw [B.owns]
   by_cases hji:j=i
   .subst hji
    have:=B.fresh h
    rw [R.n] at hj
    omega
   .rw [zF hji];exact h
  .rw [R.owns] at h
   have h'':look st'.owns j=some b:=h'
   rw [B.owns] at h''
   by_cases hji:j=i
   .subst hji
    rw [zT rfl] at h''
    cases h''
    exact Nat.le_of_lt (B.up a h)
   .rw [zF hji,h] at h''
    cases h''
    exact zN _
  .rw [R.owns] at h
   have h'':look st'.owns j=some a:=h'
   rw [B.owns] at h''
   by_cases hji:j=i
   .subst hji
    rw [zT rfl] at h''
    cases h''
    have:=B.up _ h
    omega
   .exact ⟨zF hji,fun _ _ _=>rfl⟩
 have hev:∀ j a nm,look st'.owns j=some a->eta' j=some nm->∃ a',look st.owns j=some a'/\w.eta j=some nm:=by
  intro j a nm h h'
  rw [B.owns] at h
  by_cases hji:j=i
  .subst hji
   simp only [eta',if_true] at h'
   cases named with
   | false=>simp at h'
   | true=>
    obtain ⟨g,hg⟩:=hn rfl
    exact ⟨g,hg,by simpa using h'⟩
  .rw [zF hji] at h
   simp only [eta',zF hji] at h'
   exact ⟨a,h,h'⟩
 refine ⟨w',⟨R.wf,R.rob,R.g,R.nx,R.b,R.Mlt,rfl,zR R.one B.next,R.keeps,fun id h=>?_,R.cinj,fun id' ps' h'=>?_,fun _=>rfl,fun j a h=>?_,fun j a nm h hn'=>?_,fun j1 j2 a1 a2 nm h1 h2 e1 e2=>?_,R.ce,fun id b h=>?_,fun gn ps' h'=>?_⟩,hle,by show look st'.owns i=some s;rw [B.owns,zT rfl],zT rfl,rfl,rfl,rfl,rfl⟩
 .obtain ⟨q1,q2,q3⟩:=R.cl id h
  exact ⟨zL q1 B.next,q2,q3⟩
 .rw [B.cells] at h'
  obtain ⟨q1,q2,q5⟩:=R.cells id' ps' h'
  exact ⟨q1,q2,q5.mono ok.len hle (by rw [R.n];exact (R.cl id' q1).1)⟩
 .rw [B.owns] at h
  by_cases hji:j=i
  .subst hji;exact B.lt
  .rw [zF hji] at h;exact zL (R.ownn j a h) B.next
 .obtain ⟨a',h1,h2⟩:=hev j a nm h hn'
  exact R.eta j a' nm h1 h2
 .obtain ⟨b1,g1,g2⟩:=hev j1 a1 nm h1 e1
  obtain ⟨b2,g3,g4⟩:=hev j2 a2 nm h2 e2
  exact R.einj j1 j2 b1 b2 nm g1 g3 g2 g4
 .rw [B.known] at h
  obtain ⟨q0,q1,q2⟩:=R.known id b h
  exact ⟨q0,zL q1 B.next,q2⟩
 .obtain ⟨q0,vs',e',fl,fz,ex',q1,q2,q3⟩:=R.globs gn ps' h'
  exact ⟨q0,vs',e',fl,fz,ex',q1,q2,q3.mono ok.len hle⟩
theorem q4v (ok:CfgOk X sz C) (R:RelH X sz C base st H w) {st':StV K} {i s g nm:Nat} (B:Bump st st' i s) (ho:look st.owns i=some g) (he:w.eta i=some nm) {cs cs2:List V} {e:TypeId} {gen floor frz:Nat} {ex ex':Bool}
  (hg:H.get nm=some (.row cs e gen floor frz ex)) :
  ∃ w',RelH X sz C base st' (H.put nm (.row (cs++cs2) e (gen+1) floor frz ex')) w'/\Le w w'/\w'.owns i=some s/\w'.eta i=some nm/\w'.n=st'.next/\¬ w'.M nm/\w'.ce=w.ce:=by
 obtain ⟨hbase,hnext,hnM⟩:=R.eta i g nm ho he
 let H':=H.put nm (.row (cs++cs2) e (gen+1) floor frz ex')
 let w':Wd:={w with g:=H'.get,n:=st'.next,owns:=look st'.owns}
 have hget:∀ m,m≠nm->H'.get m=H.get m:=fun m hm=>qau hm
 have hself:H'.get nm=some (.row (cs++cs2) e (gen+1) floor frz ex'):=j8
 have hle:Le w w':=by
  refine ⟨⟨by rw [R.n];exact B.next,fun m cs' e' gen' floor' frz' ex'' h hM=>⟨hM,?_⟩,fun _ _=>rfl,fun _ _=>rfl,fun j hj h=>?_,fun j a b hj h h'=>?_,fun j a hj h h'=>?_,rfl,fun _ _=>.rfl,zN _,rfl,fun _ _ h=>h,fun _ _=>rfl⟩,fun m hm=>?_,rfl⟩
  .by_cases hm:m=nm
   .subst hm
    rw [R.g,hg] at h
    cases h
    exact ⟨cs2,_,_,_,hself⟩
   .refine ⟨[],gen',frz',ex'',?_⟩
    rw [zJ]
    show H'.get m=_
    rw [hget m hm,<-R.g]
    exact h
  .rw [R.owns] at h
   show look st'.owns j=none
   rw [B.owns]
   by_cases hji:j=i
   .subst hji;rw [h] at ho;cases ho
   .rw [zF hji];exact h
  .rw [R.owns] at h
   have h'':look st'.owns j=some b:=h'
   rw [B.owns] at h''
   by_cases hji:j=i
   .subst hji
    rw [zT rfl] at h''
    cases h''
    exact Nat.le_of_lt (B.up a h)
   .rw [zF hji,h] at h''
    cases h''
    exact zN _
  .rw [R.owns] at h
   have h'':look st'.owns j=some a:=h'
   rw [B.owns] at h''
   by_cases hji:j=i
   .subst hji
    rw [zT rfl] at h''
    cases h''
    have:=B.up _ h
    omega
   .refine ⟨rfl,fun m hm _=>?_⟩
    show H'.get m=w.g m
    rw [hget m (by intro hmn;subst hmn;exact hji (R.einj j i a g m h ho hm he)),R.g]
  .show H'.get m=_
   rw [R.g] at hm
   rw [hget m (by intro hmn;subst hmn;rw [hg] at hm;cases hm)]
   exact hm
 have hcn:∀ id ps,look st.cells id=some ps->w.c id≠nm:=by
  intro id ps h hc
  have:=(R.cells id ps h).2.1
  rw [hc] at this
  exact hnM this
 have hev:∀ j a,look st'.owns j=some a->∃ a',look st.owns j=some a':=by
  intro j a h
  rw [B.owns] at h
  by_cases hji:j=i
  .subst hji;exact ⟨g,ho⟩
  .rw [zF hji] at h;exact ⟨a,h⟩
 refine ⟨w',⟨fun n hn=>?_,R.rob,rfl,R.nx,R.b,R.Mlt,rfl,zR R.one B.next,R.keeps.put hbase _,fun id h=>?_,R.cinj,fun id' ps' h'=>?_,fun _=>rfl,fun j a h=>?_,fun j a m h hn'=>?_,fun j1 j2 a1 a2 m h1 h2 e1 e2=>?_,R.ce,fun id b h=>?_,fun gn ps' h'=>?_⟩,hle,by show look st'.owns i=some s;rw [B.owns,zT rfl],he,rfl,hnM,rfl⟩
 .have hn':H.next<=n:=hn
  rw [hget n (by omega)]
  exact R.wf n hn'
 .obtain ⟨q1,q2,q3⟩:=R.cl id h
  exact ⟨zL q1 B.next,q2,q3⟩
 .rw [B.cells] at h'
  obtain ⟨q1,q2,q5⟩:=R.cells id' ps' h'
  refine ⟨q1,q2,?_⟩
  show qal X sz w' id' _ (H'.get (w.c id'))
  rw [hget _ (hcn id' ps' h')]
  exact q5.mono ok.len hle (by rw [R.n];exact (R.cl id' q1).1)
 .rw [B.owns] at h
  by_cases hji:j=i
  .subst hji;exact B.lt
  .rw [zF hji] at h;exact zL (R.ownn j a h) B.next
 .obtain ⟨a',h1⟩:=hev j a h
  exact R.eta j a' m h1 hn'
 .obtain ⟨b1,g1⟩:=hev j1 a1 h1
  obtain ⟨b2,g2⟩:=hev j2 a2 h2
  exact R.einj j1 j2 b1 b2 m g1 g2 e1 e2
 .rw [B.known] at h
  obtain ⟨q0,q1,q2⟩:=R.known id b h
  exact ⟨q0,zL q1 B.next,q2⟩
 .obtain ⟨q0,vs',e',fl,fz,ex'',q1,q2,q3⟩:=R.globs gn ps' h'
  exact ⟨q0,vs',e',fl,fz,ex'',q1,q2,q3.mono ok.len hle⟩
theorem q5n (ok:CfgOk X sz C) (R:RelH X sz C base st H w) {i g nm:Nat} (ho:look st.owns i=some g) (he:w.eta i=some nm) {cs:List V} {e:TypeId} {gen floor frz:Nat} {ex:Bool} (frz':Nat)
  (hg:H.get nm=some (.row cs e gen floor frz ex)) :
  ∃ w',RelH X sz C base {st with owns:=jz st.owns i} (H.put nm (.row cs e gen floor frz' ex)) w'/\Le w w':=by
 obtain ⟨hbase,hnext,hnM⟩:=R.eta i g nm ho he
 let H':=H.put nm (.row cs e gen floor frz' ex)
 let w':Wd:={w with g:=H'.get,owns:=look (jz st.owns i)}
 have hget:∀ m,m≠nm->H'.get m=H.get m:=fun m hm=>qau hm
 have hself:H'.get nm=some (.row cs e gen floor frz' ex):=j8
 have hown:∀ j a,look (jz st.owns i) j=some a->j≠i/\look st.owns j=some a:=by
  intro j a h
  rw [qef] at h
  split at h
  .cases h
  .exact ⟨by assumption,h⟩
 have hle:Le w w':=by
  refine ⟨⟨zN _,fun m cs' e' gen' floor' frz' ex'' h hM=>⟨hM,?_⟩,fun _ _=>rfl,fun _ _=>rfl,fun j hj h=>?_,fun j a b hj h h'=>?_,fun j a hj h h'=>?_,rfl,fun _ _=>.rfl,zN _,rfl,fun _ _ h=>h,fun _ _=>rfl⟩,fun m hm=>?_,rfl⟩
  .by_cases hm:m=nm
   .subst hm
    rw [R.g,hg] at h
    cases h
    exact ⟨[],_,_,_,by rw [zJ];exact hself⟩
   .refine ⟨[],gen',frz',ex'',?_⟩
    rw [zJ]
    show H'.get m=_
    rw [hget m hm,<-R.g]
    exact h
  .rw [R.owns] at h
   show look (jz st.owns i) j=none
   cases hq:look (jz st.owns i) j with
   | none=>rfl
   | some a=>rw [(hown j a hq).2] at h;cases h
  .rw [R.owns] at h
   have:=(hown j b h').2
   rw [h] at this
   cases this
   exact zN _
  .rw [R.owns] at h
   obtain ⟨hji,_⟩:=hown j a h'
   refine ⟨rfl,fun m hm _=>?_⟩
   show H'.get m=w.g m
   rw [hget m (by intro hmn;subst hmn;exact hji (R.einj j i a g m h ho hm he)),R.g]
  .show H'.get m=_
   rw [R.g] at hm
   rw [hget m (by intro hmn;subst hmn;rw [hg] at hm;cases hm)]
   exact hm
 have hcn:∀ id ps,look st.cells id=some ps->w.c id≠nm:=by
  intro id ps h hc
  have:=(R.cells id ps h).2.1
  rw [hc] at this
  exact hnM this
 refine ⟨w',⟨fun n hn=>?_,R.rob,rfl,R.nx,R.b,R.Mlt,R.n,R.one,R.keeps.put hbase _,R.cl,R.cinj,fun id' ps' h'=>?_,fun _=>rfl,fun j a h=>R.ownn j a (hown j a h).2,fun j a m h hn'=>R.eta j a m (hown j a h).2 hn',
  fun j1 j2 a1 a2 m h1 h2 e1 e2=>R.einj j1 j2 a1 a2 m (hown j1 a1 h1).2 (hown j2 a2 h2).2 e1 e2,R.ce,R.known,fun gn ps' h'=>?_⟩,hle⟩
 .have hn':H.next<=n:=hn
  rw [hget n (by omega)]
  exact R.wf n hn'
 .obtain ⟨q1,q2,q5⟩:=R.cells id' ps' h'
  refine ⟨q1,q2,?_⟩
  show qal X sz w' id' _ (H'.get (w.c id'))
  rw [hget _ (hcn id' ps' h')]
  exact q5.mono ok.len hle (by rw [R.n];exact (R.cl id' q1).1)
 .obtain ⟨q0,vs',e',fl,fz,ex'',q1,q2,q3⟩:=R.globs gn ps' h'
  exact ⟨q0,vs',e',fl,fz,ex'',q1,q2,q3.mono ok.len hle⟩
theorem q4j (ok:CfgOk X sz C) (R:RelH X sz C base st H w) (i:Nat):∃ w',RelH X sz C base {st with owns:=jz st.owns i} H w'/\Le w w':=by
 have hown:∀ j a,look (jz st.owns i) j=some a->look st.owns j=some a:=by
  intro j a h
  rw [qef] at h
  split at h
  .cases h
  .exact h
 have hle:Le w {w with owns:=look (jz st.owns i)}:=by
  refine ⟨⟨zN _,fun m cs' e' gen' floor' frz' ex'' h hM=>⟨hM,[],gen',frz',ex'',by rw [zJ];exact h⟩,fun _ _=>rfl,fun _ _=>rfl,fun j hj h=>?_,fun j a b hj h h'=>?_,fun j a hj h h'=>⟨rfl,fun _ _ _=>rfl⟩,rfl,fun _ _=>.rfl,zN _,rfl,fun _ _ h=>h,fun _ _=>rfl⟩,fun _ h=>h,rfl⟩
  .rw [R.owns] at h
   show look (jz st.owns i) j=none
   cases hq:look (jz st.owns i) j with
   | none=>rfl
   | some a=>rw [hown j a hq] at h;cases h
  .rw [R.owns] at h
   have:=hown j b h'
   rw [h] at this
   cases this
   exact zN _
 refine ⟨{w with owns:=look (jz st.owns i)},⟨R.wf,R.rob,R.g,R.nx,R.b,R.Mlt,R.n,R.one,R.keeps,R.cl,R.cinj,fun id' ps' h'=>?_,fun _=>rfl,fun j a h=>R.ownn j a (hown j a h),fun j a m h hn'=>R.eta j a m (hown j a h) hn',
  fun j1 j2 a1 a2 m h1 h2 e1 e2=>R.einj j1 j2 a1 a2 m (hown j1 a1 h1) (hown j2 a2 h2) e1 e2,R.ce,R.known,fun gn ps' h'=>?_⟩,hle⟩
 .obtain ⟨q1,q2,q5⟩:=R.cells id' ps' h'
  exact ⟨q1,q2,q5.mono ok.len hle (by rw [R.n];exact (R.cl id' q1).1)⟩
 .obtain ⟨q0,vs',e',fl,fz,ex'',q1,q2,q3⟩:=R.globs gn ps' h'
  exact ⟨q0,vs',e',fl,fz,ex'',q1,q2,q3.mono ok.len hle⟩
theorem qkr {c:Nat} {s:PV K} {x:List (K c)} {k:PV K->StV K->Prop} (R:RelH X sz C base st H w) (hbp:qmz (qp X tbl inv meas) c s x st k=none) (h:qji (qp X tbl inv meas) c s x st k) :
  ∃ l i g st',asL (qp X tbl inv meas) c s=some l/\l.length+x.length<=1000000000/\k (.list c (l++x) (some (i,g))) st'/\Bump st st' i g/\
   ((s=.nils/\look st.owns i=none)∨∃ c' l' g0,s=.list c' l' (some (i,g0))/\look st.owns i=some g0/\g=g0+2):=by
 unfold qji at h
 rw [hbp] at h
 simp only at h
 cases hown:qcx st s with
 | false=>rw [hown] at h;exact absurd h id
 | true=>
  rw [hown] at h
  simp only [Bool.not_true,zQ] at h
  split at h
  .exact absurd h id
  .rename_i l hl
   split at h
   .rename_i c' l' i g0
    have hs:look st.owns i=some g0:=by
     simp only [qcx] at hown
     split at hown
     .rename_i s' hs
      rw [hs,zE hown]
     .cases hown
    refine ⟨l,i,g0+2,_,hl,h.1,h.2,⟨rfl,rfl,rfl,rfl,fun j=>qcm,zN _,R.ownn i g0 hs,fun g hg=>?_,fun hg=>?_⟩,.inr ⟨c',l',g0,rfl,hs,rfl⟩⟩
    .rw [hs] at hg;cases hg;omega
    .rw [hs] at hg;cases hg
   .rename_i hno
    have hs:s=.nils:=by
     cases s with
     | nils=>rfl
     | list c' l' own=>
      cases own with
      | none=>simp [qcx] at hown
      | some x=>exact absurd rfl (hno _ _ _ _)
     | _=>simp [qcx] at hown
    have hnone:look st.owns st.next=none:=by
     cases hl:look st.owns st.next with
     | none=>rfl
     | some g=>have:=R.ownn _ _ hl;omega
    exact ⟨l,st.next,1,_,hl,h.1,h.2,⟨rfl,rfl,rfl,rfl,fun j=>j5,Nat.le_succ _,Nat.lt_succ_self _,fun g hg=>(by rw [hnone] at hg;cases hg),fun _=>zN _⟩,.inl ⟨hs,hnone⟩⟩
theorem qi1 (ok:CfgOk X sz C) (R:RelH X sz C base st H w) {c:Nat} {e:TypeId} {ei:TI} (hc:C.codec e=some c) (hei:C.E.types e=some ei) (hby:ei.bytes<=1024) {s:PV K} {vs vx:V} {x:List (K c)} {items:List V}
  {k:PV K->StV K->Prop} (rs:Rep X sz w s vs) (hel:zv H ei.size vx=some (x.length,items)) (hit:qn X sz w (x.flatMap (X.cells c)) items) (hbp:qmz (qp X tbl inv meas) c s x st k=none) (h:qji (qp X tbl inv meas) c s x st k) :
  ∃ p st' v H' w',k p st'/\st'.tmps=st.tmps/\st'.n=st.n/\jl H e ei.size ei.bytes vs vx=some (v,H')/\RelH X sz C base st' H' w'/\Le w w'/\Rep X sz w' p v:=by
 obtain ⟨l,i,g,st',hl,hshort,hk,B,hi⟩:=qkr R hbp h
 have hsz:=ok.size e c ei hc hei
 have hz:=ok.pos e c hc
 have rl:=qdh rs hl
 have hilen:items.length=x.length * sz c:=by rw [<-hit.1];exact qh2 ok.len
 have hx0:Nat.beq x.length 0=true->x=[]:=fun h=>List.eq_nil_of_length_eq_zero (zE h)
 have room1:∀ m,m<=1000000000->(Nat.ble (m * ei.bytes) room&&Nat.ble m room)=true:=by
  intro m hm
  simp only [zA,Nat.ble_eq,room]
  have:m * ei.bytes<=1000000000 * 1024:=Nat.mul_le_mul hm hby
  exact ⟨by omega,by omega⟩
 have fresh:∀ (fl:List V),Nat.beq x.length 0=false->qn X sz w ((l++x).flatMap (X.cells c)) fl->∃ p st' v H' w',k p st'/\st'.tmps=st.tmps/\st'.n=st.n/\(v,H')=(V.slice H.next 0 0 (l.length+x.length) (sz c) none,H.new (.row fl e 0 0 0 false))/\RelH X sz C base st' H' w'/\Le w w'/\Rep X sz w' p v:=by
  intro fl hxne hfl
  have hxp:0<x.length:=by
   cases hq:x.length with
   | zero=>rw [hq] at hxne;cases hxne
   | succ n=>omega
  obtain ⟨w',R',hle,ow,et,hM,hn⟩:=qi5 (named:=true) ok R B (row:=.row fl e 0 0 0 false)
  refine ⟨_,_,_,_,w',hk,B.tmps,B.n,rfl,R',hle,?_⟩
  have hg:w'.g H.next=some (.row fl e 0 0 0 false):=by rw [R'.g];exact qaq
  have hlen:(l++x).length=l.length+x.length:=List.length_append
  rw [<-hlen]
  refine qg9 ok.len hg (zN _) hM hz (fun k hk=>(by cases hk)) (hfl.mono ok.len hle) (by omega) (fun m _=>by rw [Nat.zero_add]) ⟨by rw [hn];exact B.lt,fun cur hc'=>(by rw [ow] at hc';cases hc';exact zN _),fun _=>.inr ⟨rfl,et,fl,e,0,0,false,hg,?_,Nat.zero_le _,?_⟩,fun _=>⟨rfl,rfl,by rw [hlen];omega⟩⟩
  .rw [Nat.zero_add,<-hfl.1];exact (qh2 ok.len).symm
  .rw [R'.ce];exact hc
 rcases kx rl with ⟨rfl,rfl⟩ | ⟨nm,gn,off,z,cap,cs,e',gen,floor,frz,ex,rfl,hg,hf,hM,hlen,hzz,hcap,hcell,_⟩
 .
  cases hx:Nat.beq x.length 0 with
  | true=>
   have hxe:=hx0 hx
   subst hxe
   obtain ⟨w',R',hle,ow,et,hn,_,_,_⟩:=qnm (named:=false) ok R B (fun h=>by cases h)
   refine ⟨_,_,.nils,H,w',hk,B.tmps,B.n,?_,R',hle,?_⟩
   .simp only [jl,V.qbx,jm,hel,zB,hx,zO]
   .rw [zJ]
    exact .nlist ⟨by rw [hn];exact B.lt,fun cur hc'=>(by rw [ow] at hc';cases hc';exact zN _),fun _=>trivial,fun _=>trivial⟩
  | false=>
   obtain ⟨p,st'',v,H',w',h1,h2,h3,h4,h5,h6,h7⟩:=fresh items hx (by rw [List.nil_append];exact hit)
   cases h4
   refine ⟨p,st'',_,_,w',h1,h2,h3,?_,h5,h6,h7⟩
   have hr:=room1 x.length (by omega)
   rw [hsz] at hel
   simp only [jl,V.qbx,jm,hsz,hel,zB,hx,zQ,hr,zO,List.length_nil,Nat.zero_add]
 .have hb1:Nat.beq ei.size (sz c)=true:=by rw [hsz];exact Nat.beq_refl _
  have hrz2:V.qbx (sz c) (.slice nm gn off l.length z cap)=.slice nm gn off l.length (sz c) cap:=ql6 hzz
  have hrz:V.qbx ei.size (.slice nm gn off l.length z cap)=.slice nm gn off l.length (sz c) cap:=by rw [hsz];exact hrz2
  have hown:∃ c' l' g0,s=.list c' l' (some (i,g0))/\look st.owns i=some g0/\g=g0+2:=by
   rcases hi with ⟨rfl,_⟩ | hi
   .cases rs
   .exact hi
  obtain ⟨c',l',g0,rfl,hlo,hgg0⟩:=hown
  have hcc:c'=c:=by
   unfold asL at hl
   simp only at hl
   split at hl
   .assumption
   .cases hl
  subst hcc
  have hnb:g % 2=1->NB (.slice nm gn off l.length z cap):=by
   intro hodd
   rcases kx rs with ⟨_,hh⟩ | ⟨nm',gn',off',z',cap',cs',e2,gen',floor',frz',ex',hh,_,_,_,_,_,_,_,ho⟩
   .cases hh
   .rw [hh]
    exact ho.2.2.2 (by omega)
  have hclaim:qrw w sz i c' (.slice nm gn off l.length z cap):=by
   rcases kx rs with ⟨_,hh⟩ | ⟨nm',gn',off',z',cap',cs',e2,gen',floor',frz',ex',hh,_,_,_,_,_,_,_,ho⟩
   .cases hh
   .rw [hh]
    exact ho.2.2.1 (by rw [R.owns];exact hlo)
  cases hx:Nat.beq x.length 0 with
  | true=>
   have hxe:=hx0 hx
   subst hxe
   obtain ⟨w',R',hle,ow,et,hn,hgg,hMM,hce⟩:=qnm (named:=true) ok R B (fun _=>⟨g0,hlo⟩)
   refine ⟨_,_,.slice nm gn off l.length (sz c') cap,H,w',hk,B.tmps,B.n,?_,R',hle,?_⟩
   .simp only [jl,hrz,jm,hel,zB,hb1,Bool.not_true,zQ,hx,zO]
   .rw [zJ]
    refine .list (by rw [hgg];exact hg) hf (by rw [hMM];exact hM) rfl hlen ⟨hz,.inl rfl⟩ hcap (fun i' hi' j p hp=>(hcell i' hi' j p hp).mono ok.len hle) ⟨by rw [hn];exact B.lt,fun cur hc'=>(by rw [ow] at hc';cases hc';exact zN _),fun _=>?_,hnb⟩
    simp only [qrw] at hclaim ⊢
    rw [et,hgg,hce]
    exact hclaim
  | false=>
   have hr:=room1 (l.length+x.length) hshort
   have hone:items.all V.jd=true:=hit.qov (q1w ok)
   rw [R.g] at hg
   obtain ⟨old,hold1,hold2⟩:=qc3 ok.len R.g rl hz
   rw [<-qq3,hrz2] at hold1
   rcases hclaim with hcap' | ⟨hcap',het,cs',e2,floor',frz',ex',hg',htop,hfrz,hce⟩
   .subst hcap'
    have hle':Nat.ble (l.length+x.length) l.length=false:=by
     rw [<-Bool.not_eq_true,Nat.ble_eq]
     have:x.length≠0:=by intro h0;rw [h0] at hx;simp at hx
     omega
    obtain ⟨p,st'',v,H',w',h1,h2,h3,h4,h5,h6,h7⟩:=fresh (old++items) hx (by rw [List.flatMap_append];exact hold2.append hit)
    cases h4
    refine ⟨p,st'',_,_,w',h1,h2,h3,?_,h5,h6,h7⟩
    have hb2:Nat.beq (sz c') (sz c')=true:=Nat.beq_refl _
    rw [hsz] at hel
    simp only [jl,hsz,hrz2,jm,hel,zB,hb2,Bool.not_true,zQ,hx,hr,hone,hg,hle',hold1,zH]
   .subst hcap'
    rw [R.g,hg] at hg'
    cases hg'
    have hee:e'=e:=ok.inj e' e c' (by rw [<-R.ce];exact hce) hc
    subst hee
    obtain ⟨hbase,hnext,hnM⟩:=R.eta i g0 nm hlo het
    have hro:H.ro<=nm:=by rw [R.keeps.ro];exact zR R.rob.1 hbase
    have hchk:(Nat.beq gn gn&&Nat.beq (off+l.length * ei.size) cs.length&&Nat.ble frz cs.length&&Nat.ble floor gn&&!Nat.beq ei.size 0&&Nat.beq e' e')=true:=by
     simp only [zA,Nat.ble_eq,Nat.beq_refl,hsz]
     refine ⟨⟨⟨⟨⟨trivial,?_⟩,hfrz⟩,hf⟩,?_⟩,trivial⟩
     .rw [htop];exact Nat.beq_refl _
     .have:Nat.beq (sz c') 0=false:=by rw [<-Bool.not_eq_true,Nat.beq_eq];omega
      rw [this];rfl
    obtain ⟨w',R',hle,ow,et,hn,hM',hce'⟩:=q4v (cs2:=items) (ex':=false) ok R B hlo het hg
    refine ⟨_,_,.slice nm (gn+1) off (l.length+x.length) (sz c') none,_,w',hk,B.tmps,B.n,?_,R',hle,?_⟩
    .simp only [jl,hrz,jm,hel,zB,hb1,Bool.not_true,zQ,hx,hr,hone,hg,hchk,zO,qa9 hro,zH]
     rw [hsz]
    .have hgw:w'.g nm=some (.row (cs++items) e' (gn+1) floor frz false):=by rw [R'.g];exact j8
     have hlen2:(l++x).length=l.length+x.length:=List.length_append
     rw [<-hlen2]
     have hro:qn X sz w' ((l++x).flatMap (X.cells c')) (old++items):=by
      rw [List.flatMap_append]
      exact (hold2.append hit).mono ok.len hle
     have hold:old=cs.drop off:=by
      have b1:Nat.ble floor gn=true:=by rw [Nat.ble_eq];exact hf
      have b2:Nat.ble (off+l.length * sz c') (off+l.length * sz c')=true:=by rw [Nat.ble_eq];exact zN _
      have b3:Nat.ble (off+l.length * sz c') cs.length=true:=by rw [Nat.ble_eq];exact hlen
      simp only [zv,V.qdp,qa2,Nat.beq_refl,zO,j6,hg,b1,b2,b3,Bool.and_self,zM,zP] at hold1
      obtain ⟨_,hold1,_,rfl⟩:=hold1
      obtain ⟨rfl,_⟩:=qj7 hold1
      rw [List.take_of_length_le]
      rw [List.length_drop]
      omega
     refine qg9 ok.len hgw (Nat.le_succ_of_le hf) hM' hz (fun k hk=>(by cases hk)) hro ?_ (fun m hm=>?_) ⟨by rw [hn];exact B.lt,fun cur hc'=>(by rw [ow] at hc';cases hc';exact zN _),fun _=>.inr ⟨rfl,et,cs++items,e',floor,frz,false,hgw,?_,?_,?_⟩,fun h=>⟨rfl,(hnb h).2.1,by rw [hlen2];have:=(hnb h).2.2;omega⟩⟩
     .rw [hold,List.length_append,List.length_append,List.length_drop];omega
     .have hoff:off<=cs.length:=by omega
      have:cs++items=cs.take off++(cs.drop off++items):=by rw [<-List.append_assoc,List.take_append_drop]
      rw [this,hold,List.getD_eq_getElem?_getD,List.getD_eq_getElem?_getD,List.getElem?_append_right (by rw [List.length_take];omega)]
      congr 2
      rw [List.length_take]
      omega
     .rw [List.length_append,List.length_append,Nat.add_mul,hilen];omega
     .rw [List.length_append];omega
     .rw [hce',R.ce];exact hc
theorem q00 (ok:CfgOk X sz C) (R:RelH X sz C base st H w) {c:Nat} {e:TypeId} {ei:TI} (hc:C.codec e=some c) (hei:C.E.types e=some ei) (hby:ei.bytes<=1024) {s:PV K} {vs vx:V} {x:List (K c)} {items:List V}
  {k:PV K->StV K->Prop} {r:Prop} (rs:Rep X sz w s vs) (hel:zv H ei.size vx=some (x.length,items)) (hit:qn X sz w (x.flatMap (X.cells c)) items) (hb:qmz (qp X tbl inv meas) c s x st k=some r) (h:r) :
  ∃ p st' v H' w',k p st'/\st'.tmps=st.tmps/\st'.n=st.n/\jl H e ei.size ei.bytes vs vx=some (v,H')/\RelH X sz C base st' H' w'/\Le w w'/\Rep X sz w' p v:=by
 have hsz:=ok.size e c ei hc hei
 have hz:=ok.pos e c hc
 have room1:∀ m,m<=1000000000->(Nat.ble (m * ei.bytes) room&&Nat.ble m room)=true:=by
  intro m hm
  simp only [zA,Nat.ble_eq,room]
  have:m * ei.bytes<=1000000000 * 1024:=Nat.mul_le_mul hm hby
  exact ⟨by omega,by omega⟩
 have hone:items.all V.jd=true:=hit.qov (q1w ok)
 have hzz:Nat.beq (sz c) (sz c)=true:=Nat.beq_refl _
 rw [hsz] at hel
 unfold qmz at hb
 split at hb
 .rename_i es cs0
  cases hb
  obtain ⟨hsh,hyes,hno⟩:=h
  have hsh:([]:List (K c)).length+x.length<=1000000000:=hsh
  simp only [List.length_nil,Nat.zero_add] at hsh
  cases rs with
  | @plist _ _ _ _ nm gn d cs e' gen floor frz ex hg hf hM h0 h1 h2 hcc=>
   have rl:Rep X sz w (.list c ([]:List (K c)) none) (.slice nm gn d 0 (sz c) (some 0)):=
    .list hg hf hM rfl (by omega) ⟨hz,.inl rfl⟩ (fun k hk=>by cases hk;exact zN _) (fun i hi=>by cases hi) trivial
   have hrz:V.qbx (sz c) (.slice nm gn d 0 es (some 0))=.slice nm gn d 0 (sz c) (some 0):=rfl
   by_cases hx:x.length=0
   .refine ⟨_,_,.slice nm gn d 0 (sz c) (some 0),H,w,hno (by show (x.length:Int)<=0;omega),rfl,rfl,?_,R,.refl w,rl⟩
    have hxb:Nat.beq x.length 0=true:=by rw [hx];rfl
    simp only [jl,hsz,hrz,jm,hel,zB,hzz,Bool.not_true,zQ,hxb,zO]
   .have hxb:Nat.beq x.length 0=false:=by rw [<-Bool.not_eq_true,Nat.beq_eq];exact hx
    obtain ⟨old,ho1,ho2⟩:=qc3 ok.len R.g rl hz
    have hold:old=[]:=by
     have:=ho2.1
     simp only [List.flatMap_nil,List.length_nil] at this
     exact List.eq_nil_of_length_eq_zero this.symm
    subst hold
    obtain ⟨w',R',hle,hcn,hn'⟩:=qle ok R (ct:=.ml c x) rfl (e:=e) trivial (vs:=items) hit
    refine ⟨_,_,.slice H.next 0 0 x.length (sz c) none,_,w',hyes (by show (1:Int)<=(x.length:Int);omega),rfl,rfl,?_,R',hle,?_⟩
    .have hr:=room1 x.length hsh
     have hle':Nat.ble (0+x.length) 0=false:=by rw [<-Bool.not_eq_true,Nat.ble_eq];omega
     rw [R.g] at hg
     rw [Nat.zero_add] at hle'
     simp only [jl,hsz,zO,hrz,jm,hel,zB,hzz,Bool.not_true,zQ,hxb,Nat.zero_add,hr,hone,hg,hle',ho1,zH,List.nil_append,List.length_nil]
    .have:=Rep.mlist (X:=X) (sz:=sz) (w:=w') (id:=st.next) (c:=c) (fx:=false) (n:=((x.length:Nat):Int)) hn' (Int.natCast_nonneg _) hz
     rw [hcn,Int.toNat_natCast] at this
     exact this
 .rename_i id c' n
  cases hb
  split at h
  .rename_i l hl
   have hl:=qep hl
   cases hcc:Nat.beq c' c with
   | false=>rw [hcc] at h;exact h.elim
   | true=>
    rw [hcc] at h
    have:=zE hcc
    subst this
    obtain ⟨hn,hsh,hyes,hno⟩:=h
    have hn:n=(l.length:Int):=hn
    have hsh:l.length+x.length<=1000000000:=hsh
    subst hn
    have rs0:=rs
    cases rs with
    | mlist hi h0 hzc=>
     have hrz:V.qbx (sz c') (.slice (w.c id) 0 0 l.length (sz c') (some l.length))=.slice (w.c id) 0 0 l.length (sz c') (some l.length):=V.qdp
     by_cases hx:x.length=0
     .refine ⟨_,_,.slice (w.c id) 0 0 l.length (sz c') (some l.length),H,w,hno (by show (x.length:Int)<=0;omega),rfl,rfl,?_,R,.refl w,?_⟩
      .have hxb:Nat.beq x.length 0=true:=by rw [hx];rfl
       simp only [jl,hsz,Int.toNat_natCast,zO,hrz,jm,hel,zB,hzz,Bool.not_true,zQ,hxb]
      .rw [Int.toNat_natCast] at rs0;exact rs0
     .have hxb:Nat.beq x.length 0=false:=by rw [<-Bool.not_eq_true,Nat.beq_eq];exact hx
      obtain ⟨hcl,hMc,vs0,e0,ex0,hg0,_,_⟩:=R.cells id _ hl
      obtain ⟨w1,R1,hle1,hn1,hg1,hrep⟩:=qju ok R hl hz
      have rl:=hrep none (some l.length) (fun k hk=>by cases hk;exact zN _) trivial
      obtain ⟨old,ho1,ho2⟩:=qc3 ok.len R1.g rl hz
      obtain ⟨w',R',hle,hcn,hn'⟩:=qle ok R1 (ct:=.ml c' (l++x)) rfl (e:=e) trivial (vs:=old++items) (by show qn X sz w1 ((l++x).flatMap _) _;rw [List.flatMap_append];exact ho2.append (hit.mono ok.len hle1))
      refine ⟨_,_,.slice H.next 0 0 (l.length+x.length) (sz c') none,_,w',hyes (by show (1:Int)<=(x.length:Int);omega),rfl,rfl,?_,R',hle1.trans hle,?_⟩
      .have hr:=room1 (l.length+x.length) hsh
       have hle':Nat.ble (l.length+x.length) l.length=false:=by rw [<-Bool.not_eq_true,Nat.ble_eq];omega
       simp only [jl,hsz,Int.toNat_natCast,zO,hrz,jm,hel,zB,hzz,Bool.not_true,zQ,hxb,hr,hone,hg0,hle',ho1,zH]
      .have:=Rep.mlist (X:=X) (sz:=sz) (w:=w') (id:=st.next) (c:=c') (fx:=false) (n:=(((l++x).length:Nat):Int)) hn' (Int.natCast_nonneg _) hz
       have hcn:w'.c st.next=H.next:=hcn
       rw [hcn,Int.toNat_natCast] at this
       rw [<-List.length_append]
       exact this
  .exact h.elim
 .cases hb
theorem qq0 {C:ZC K} {o:Operand} {c:Nat} {s:PV K} {x:List (K c)} {k:PV K->StV K->Prop} (hb:qmy (qp X tbl inv meas) C st o=false) (hs:z6 (qp X tbl inv meas) C st o=some s):qmz (qp X tbl inv meas) c s x st k=none:=by
 unfold qmy at hb
 rw [hs] at hb
 cases s<;>first | rfl | cases hb
theorem qdg (ok:CfgOk X sz C) (R:RelH X sz C base st H w) {c:Nat} {e:TypeId} {ei:TI} (hc:C.codec e=some c) (hei:C.E.types e=some ei) (hby:ei.bytes<=1024) {s:PV K} {vs vx:V} {x:List (K c)} {items:List V}
  {k:PV K->StV K->Prop} (rs:Rep X sz w s vs) (hel:zv H ei.size vx=some (x.length,items)) (hit:qn X sz w (x.flatMap (X.cells c)) items) (h:qji (qp X tbl inv meas) c s x st k) :
  ∃ p st' v H' w',k p st'/\st'.tmps=st.tmps/\st'.n=st.n/\jl H e ei.size ei.bytes vs vx=some (v,H')/\RelH X sz C base st' H' w'/\Le w w'/\Rep X sz w' p v:=by
 cases hbp:qmz (qp X tbl inv meas) c s x st k with
 | none=>exact qi1 ok R hc hei hby rs hel hit hbp h
 | some r=>
  unfold qji at h
  rw [hbp] at h
  exact q00 ok R hc hei hby rs hel hit hbp h
theorem qob (hg':w.g=H.get) {es n:Nat} {fx:Bool} {ps:List (PV K)} {v:V} (r:Rep X sz w (.plist es n fx ps) v):∃ cs,zv H es v=some (n,cs)/\qn X sz w ps cs:=by
 cases r with
 | @plist _ _ _ _ nm gn d cs e gen floor frz ex hg hf hM h0 h1 h2 hc=>
  rw [hg'] at hg
  have b1:Nat.ble floor gn=true:=by rw [Nat.ble_eq];exact hf
  have b2:Nat.ble (d+n * es) (d+n * es)=true:=by rw [Nat.ble_eq];exact zN _
  have b3:Nat.ble (d+n * es) cs.length=true:=by rw [Nat.ble_eq];omega
  have hrep:qn X sz w ps ((cs.drop d).take (n * es)):=by
   refine ⟨by rw [List.length_take,List.length_drop];omega,fun j p hp=>?_⟩
   have hj:=(List.getElem?_eq_some_iff.1 hp).1
   have:=hc j p hp
   rw [List.getD_eq_getElem?_getD,List.getElem?_take,zT (by omega),List.getElem?_drop,<-List.getD_eq_getElem?_getD]
   exact this
  exact ⟨_,by simp only [zv,V.qdp,qa2,Nat.beq_refl,zO,j6,hg,b1,b2,b3,Bool.and_self,qlh hrep.qqd,zH],hrep⟩
theorem qun (ok:CfgOk X sz C) (R:RelH X sz C base st H w) {e:TypeId} {ei:TI} (hby:ei.bytes<=1024) {n m:Nat} {fx:Bool} {cs cs':List (PV K)} {vs vx:V} (rs:Rep X sz w (.plist ei.size n true cs) vs) (rx:Rep X sz w (.plist ei.size m fx cs') vx)
  (hm:0<m) (hnm:n+m<=100000) (hone:cs'.all ja=true) :
  ∃ v H' w',jl H e ei.size ei.bytes vs vx=some (v,H')/\RelH X sz C base {st with owns:=(st.next,0)::st.owns,next:=st.next+1} H' w'/\Le w w'/\Rep X sz w' (.plist ei.size (n+m) false (cs++cs')) v:=by
 obtain ⟨old,ho1,ho2⟩:=qob R.g rs
 obtain ⟨items,hi1,hi2⟩:=qob R.g rx
 have hB:Bump st {st with owns:=(st.next,0)::st.owns,next:=st.next+1} st.next 0:=by
  have hnone:look st.owns st.next=none:=by
   cases hl:look st.owns st.next with
   | none=>rfl
   | some g=>have:=R.ownn _ _ hl;omega
  exact ⟨rfl,rfl,rfl,rfl,fun j=>j5,Nat.le_succ _,Nat.lt_succ_self _,fun g hg=>(by rw [hnone] at hg;cases hg),fun _=>zN _⟩
 obtain ⟨w',R',hle,ow,et,hM',hn⟩:=qi5 (named:=false) ok R hB (row:=.row (old++items) e 0 0 0 false)
 have hg':w'.g H.next=some (.row (old++items) e 0 0 0 false):=by rw [R'.g];exact qaq
 have rall:=(ho2.append hi2).mono ok.len hle
 cases rs with
 | @plist _ _ _ _ nm gn d cs0 e' gen floor frz ex hg hf hM h0 h1 h2 hc=>
  have hlx:cs'.length=m * ei.size:=by
   cases rx with
   | plist _ _ _ _ q1 _ _=>exact q1
  refine ⟨.slice H.next 0 0 (n+m) ei.size none,_,w',?_,R',hle,.plist hg' (zN _) hM' h0 (by rw [List.length_append,h1,hlx,Nat.add_mul]) (by rw [<-rall.1];omega) (fun j p hp=>by rw [Nat.zero_add];exact rall.2 j p hp)⟩
  rw [R.g] at hg
  have hmb:Nat.beq m 0=false:=by rw [<-Bool.not_eq_true,Nat.beq_eq];omega
  have hr:(Nat.ble ((n+m) * ei.bytes) room&&Nat.ble (n+m) room)=true:=by
   simp only [zA,Nat.ble_eq,room]
   have:(n+m) * ei.bytes<=100000 * 1024:=Nat.mul_le_mul hnm hby
   exact ⟨by omega,by omega⟩
  have hle':Nat.ble (n+m) n=false:=by rw [<-Bool.not_eq_true,Nat.ble_eq];omega
  have hzz:Nat.beq ei.size ei.size=true:=Nat.beq_refl _
  simp only [zO] at ho1 ⊢
  simp only [jl,V.qdp,jm,hi1,zB,hzz,Bool.not_true,zQ,hmb,hr,hi2.qov hone,hg,hle',ho1,zH]
end
end Go.E3
/- E3: NEW VARIABLES AND LISTS as operations; CONTRACTS of functions. -/
namespace Go.E3
open Go Go.E2
variable {K:Nat->Type}
section
variable {X:Codecs K} {sz:Nat->Nat} {C:ZC K} {base H:Heap} {st:StV K} {fr:Fr} {w:Wd}
variable {tbl:Tbl K} {inv:Nat->List (NV K)->Prop} {meas:Nat->List (NV K)->Nat}
theorem qny {l:List Prop} {p:Prop} (h:zbn (qp X tbl inv meas) l p):(∀ q ∈ l,q)/\p:=by
 induction l with
 | nil=>exact ⟨fun q hq=>(by cases hq),h⟩
 | cons a l ih=>
  obtain ⟨h1,h2⟩:=h
  obtain ⟨h3,h4⟩:=ih h2
  refine ⟨fun q hq=>?_,h4⟩
  rcases zD.1 hq with rfl | hq
  .exact h1
  .exact h3 q hq
theorem qn5 (ok:CfgOk X sz C) {c:Nat}:∀ {n:Nat} {ps:List (PV K)} {us:List V} {r:List Prop×List (K c)},qn X sz w ps us->q2g (qp X tbl inv meas) c (chunks (sz c) n ps)=some r->(∀ q ∈ r.1,q)->
  qn X sz w (r.2.flatMap (X.cells c)) (us.take (n * sz c))/\r.2.length=n
 | 0,ps,us,r,_,h,_=>by
  simp only [chunks,q2g,zS] at h
  subst h
  simp only [List.flatMap_nil,Nat.zero_mul,List.take_zero]
  exact ⟨.nil,rfl⟩
 | n+1,ps,us,r,hr,h,hq=>by
  simp only [chunks,q2g] at h
  obtain ⟨a,h1,h2⟩:=zI.1 h
  obtain ⟨rs,h3,h4⟩:=zM.1 h2
  subst h4
  have hp:=ok.pack c _ a.1 a.2 h1 (hq a.1 zC) w _ (hr.take (sz c))
  obtain ⟨ih1,ih2⟩:=qn5 ok (hr.drop (sz c)) h3 (fun q hq'=>hq q (zG _ hq'))
  refine ⟨?_,by simp only [List.length_cons,ih2]⟩
  simp only [List.flatMap_cons]
  have e1:us.take ((n+1) * sz c)=us.take (sz c)++(us.drop (sz c)).take (n * sz c):=by
   rw [Nat.add_mul,Nat.one_mul,Nat.add_comm,List.take_add]
  rw [e1]
  exact hp.append ih1
theorem qi6 {ps:List (PV K)} {vs:List V} (h:qn X sz w ps vs):∀ n,qn X sz w (List.replicate n ps).flatten (List.replicate n vs).flatten
 | 0=>by simpa using qn.nil
 | n+1=>by
  rw [List.replicate_succ,List.replicate_succ,List.flatten_cons,List.flatten_cons]
  exact h.append (qi6 h n)
def zmu (X:Codecs K) (sz:Nat->Nat) (C:ZC K) (base H:Heap) (st:StV K) (w:Wd) (o:Oper) (fr:Fr) (k:PV K->StV K->Prop):Prop:=
 ∃ p st' v row w',k p st'/\st'.tmps=st.tmps/\st'.n=st.n/\RelH X sz C base st' (H.new row) w'/\Le w w'/\Rep X sz w' p v/\
  ∀ fr' H',H'.next=H.next->(∀ x ∈ o.op.operands.toList,opd fr' H' x=opd fr H x)->z5 C.E o fr' H'=some (.val v,H'.new row)
def qlf (op:Op):Bool:=
 match op with
 | .alloc _ | .box .. | .buildSlice .. | .makeSlice .. | .makeMap .. | .range ..=>true
 | _=>false
theorem q1r (ok:CfgOk X sz C) (R:Rel X sz C base st fr H w) {inl:ZI K} {o:Oper} {k:PV K->StV K->Prop} (hp:qlf o.op=true)
  (h:jv (qp X tbl inv meas) C inl o st k):zmu X sz C base H st w o fr k:=by
 cases ho:o.op with
 | alloc e=>
  simp only [jv,ho] at h
  obtain ⟨ti,hti,h1⟩:=qa h
  obtain ⟨cs,hcs,h2⟩:=qa h1
  obtain ⟨w',R',hle,r⟩:=qmq ok R.h (e:=e) (qd7 (X:=X) (sz:=sz) (w:=w) hcs)
  refine ⟨_,_,_,_,w',h2,rfl,rfl,R',hle,r,fun fr' H' hn hop=>?_⟩
  simp only [z5,ho,hti,zH,hn]
  rfl
 | box e x=>
  simp only [jv,ho] at h
  obtain ⟨p,hp',h1⟩:=qa h
  obtain ⟨v,ev,rv⟩:=qj R hp'
  cases hb:p.cellsOf.all ja with
  | false=>rw [hb] at h1;exact absurd h1 id
  | true=>
   rw [hb] at h1
   simp only [zO] at h1
   obtain ⟨w',R',hle,r⟩:=qmq ok R.h (e:=e) rv.cells
   refine ⟨_,_,_,_,w',h1,rfl,rfl,R',hle,r,fun fr' H' hn hop=>?_⟩
   have e1:=(hop x (by simp [ho,Op.operands])).trans ev
   simp only [z5,ho,e1,zB,hn]
   rfl
 | buildSlice t len parts=>
  simp only [jv,ho] at h
  obtain ⟨ti,hti,h1⟩:=qa h
  obtain ⟨ps,hps,h2⟩:=qa h1
  obtain ⟨vs,ev,rv⟩:=qb3 R hps
  split at h2
  .rename_i e hu
   obtain ⟨ei,hei,h3⟩:=qa h2
   obtain ⟨z,hz,h4⟩:=qa h3
   cases hb:Nat.ble (len * ei.size) 16777216 with
   | false=>rw [hb] at h4;exact absurd h4 id
   | true=>
    rw [hb] at h4
    simp only [zO] at h4
    obtain ⟨cells,hf,h5⟩:=qa h4
    have rz:=qi6 (qd7 (X:=X) (sz:=sz) (w:=w) hz) len
    obtain ⟨us,hus,rus⟩:=qir (parts:=(parts.toList.map (·.1)).zip ps) (vparts:=(parts.toList.map (·.1)).zip vs) (zip_fst rv.1) (qz6 rv) rz hf
    have hB:Bump st {st with owns:=(st.next,0)::st.owns,next:=st.next+1} st.next 0:=by
     have hnone:look st.owns st.next=none:=by
      cases hl:look st.owns st.next with
      | none=>rfl
      | some g=>have:=R.h.ownn _ _ hl;omega
     exact ⟨rfl,rfl,rfl,rfl,fun j=>j5,Nat.le_succ _,Nat.lt_succ_self _,fun g hg=>(by rw [hnone] at hg;cases hg),fun _=>zN _⟩
    obtain ⟨w',R',hle,ow,et,hM,hn⟩:=qi5 (named:=false) ok R.h hB (row:=.row us e 0 0 0 true)
    have hg:w'.g H.next=some (.row us e 0 0 0 true):=by rw [R'.g];exact qaq
    have hev:∀ (fr':Fr) (H':Heap),H'.next=H.next->(∀ x ∈ o.op.operands.toList,opd fr' H' x=opd fr H x)->z5 C.E o fr' H'=some (.val (.slice H.next 0 0 len ei.size (some len)),H'.new (.row us e 0 0 0 true)):=by
     intro fr' H' hn' hop
     have e1:qa5 fr' H' (parts.toList.map (·.2))=some vs:=by
      rw [qer fun x hx=>hop x ?_]
      .exact ev
      .simpa [ho,Op.operands] using hx
     simp only [z5,ho,hti,e1,zB,hu,hei,hb,zO,hus,zH,hn']
     rfl
    split at h5
    .rename_i c hc0
     have hc:C.codec e=some c:=by
      cases hq0:(C.born t&&Nat.beq len 0) with
      | true=>rw [hq0] at hc0;cases hc0
      | false=>rw [hq0] at hc0;exact hc0
     obtain ⟨r,hm,h7⟩:=qa h5
     obtain ⟨hq,h8⟩:=qny h7
     have hsz:=ok.size e c ei hc hei
     have hpos:=ok.pos e c hc
     rw [hsz] at hm
     obtain ⟨hfl,hlen⟩:=qn5 ok rus hm hq
     have hul:len * sz c<=us.length:=by
      have:=hfl.1
      rw [qh2 ok.len,hlen,List.length_take] at this
      omega
     cases hbn:C.born t with
     | true=>
      rw [hbn] at h8
      simp only [zO] at h8
      cases hq1:Nat.beq cells.length (len * ei.size) with
      | false=>rw [hq1] at h8;exact absurd h8 id
      | true=>
      rw [hq1] at h8
      simp only [zO] at h8
      have hlen2:=zE hq1
      have hfull:us.take (len * sz c)=us:=List.take_of_length_le (by rw [<-rus.1,hlen2,hsz];exact zN _)
      rw [hfull] at hfl
      obtain ⟨w2,R2,hle2,hcn,hn2⟩:=qi4 ok R.h (ct:=.ml c r.2) (hlp:=rfl) (hty:=trivial) (vs:=us) (e:=e) hfl
      refine ⟨_,_,.slice H.next 0 0 len ei.size (some len),.row us e 0 0 0 true,w2,h8,rfl,rfl,R2,hle2,?_,hev⟩
      have:=Rep.mlist (X:=X) (sz:=sz) (w:=w2) (id:=st.next) (c:=c) (fx:=true) (n:=(len:Int)) hn2 (Int.natCast_nonneg _) hpos
      rw [hcn,Int.toNat_natCast,<-hsz] at this
      exact this
     | false=>
     rw [hbn] at h8
     simp only [zQ] at h8
     refine ⟨_,_,.slice H.next 0 0 len ei.size (some len),.row us e 0 0 0 true,w',h8,rfl,rfl,R',hle,?_,hev⟩
     rw [hsz]
     have:=qg9 (own:=some (st.next,0)) (cap:=some len) (off:=0) (gn:=0) ok.len hg (zN _) hM hpos (fun k hk=>by cases hk;omega) (hfl.mono ok.len hle) (by rw [List.length_take];omega)
      (fun m hm=>by
        rw [List.length_take] at hm
        rw [Nat.zero_add,List.getD_eq_getElem?_getD,List.getD_eq_getElem?_getD,List.getElem?_take,zT (by omega)])
      ⟨by rw [hn];exact Nat.lt_succ_self _,fun cur hc'=>(by rw [ow] at hc';cases hc';exact zN _),fun _=>.inl (by rw [hlen]),fun h=>by cases h⟩
     rw [hlen] at this
     exact this
    .cases hq:(Nat.blt 0 ei.size&&Nat.beq cells.length (len * ei.size)) with
     | false=>rw [hq] at h5;exact absurd h5 id
     | true=>
      rw [hq] at h5
      simp only [zO] at h5
      simp only [zA] at hq
      have q1:0<ei.size:=Nat.le_of_ble_eq_true hq.1
      have q2:=zE hq.2
      refine ⟨_,_,.slice H.next 0 0 len ei.size (some len),.row us e 0 0 0 true,w',h5,rfl,rfl,R',hle,.plist hg (zN _) hM q1 q2 (by rw [rus.1];omega) (fun j p hp=>?_),hev⟩
      rw [Nat.zero_add]
      exact (rus.2 j p hp).mono ok.len hle
  .exact absurd h2 id
 | makeSlice t x y=>
  simp only [jv,ho] at h
  obtain ⟨ti,hti,h1⟩:=qa h
  obtain ⟨p,hp1,h2⟩:=qa h1
  obtain ⟨q,hp2,h3⟩:=qa h2
  obtain ⟨vl,el,rl⟩:=qj R hp1
  obtain ⟨vm,em,rm⟩:=qj R hp2
  unfold zh8 at h3
  split at h3
  .rename_i e _ n _ n' hu
   obtain ⟨c,hc,h4⟩:=qa h3
   obtain ⟨ei,hei,h5⟩:=qa h4
   have e1:=qoq rl _ _ _ rfl
   have e2:=qoq rm _ _ _ rfl
   subst e1;subst e2
   cases hb:(Nat.ble ei.bytes 1024&&!Nat.beq ei.size 0) with
   | false=>rw [hb] at h5;exact absurd h5 id
   | true=>
    rw [hb] at h5
    simp only [zO] at h5
    simp only [zA,Nat.ble_eq] at hb
    obtain ⟨z,hz,h6⟩:=qa h5
    obtain ⟨r,hr,hnn,hw,hpre,hk⟩:=qa h6
    have hnn:n=n':=hnn
    subst hnn
    have hw:0<=n/\n<(1000000000:Int):=hw
    have hsz:=ok.size e c ei hc hei
    have rz:=ok.pack c _ r.1 r.2 hr hpre w _ (qd7 (X:=X) (sz:=sz) (w:=w) hz)
    have rall:=qi6 rz n.toNat
    obtain ⟨w',R',hle,hcn,hn'⟩:=qi4 ok R.h (ct:=.ml c (List.replicate n.toNat r.2)) (hlp:=rfl) (hty:=trivial) (vs:=(List.replicate n.toNat ei.zero.cells).flatten) (e:=e) (by show qn X sz w (List.flatMap _ _) _;rw [List.flatMap_replicate];exact rall)
    refine ⟨_,_,.slice H.next 0 0 n.toNat ei.size (some n.toNat),_,w',hk,rfl,rfl,R',hle,?_,fun fr' H' hnx hop=>?_⟩
    .have:=Rep.mlist (X:=X) (sz:=sz) (w:=w') (id:=st.next) (c:=c) (fx:=true) (n:=n) hn' hw.1 (ok.pos e c hc)
     rw [hcn,<-hsz] at this
     exact this
    .have e1:=(hop x (by simp [ho,Op.operands])).trans el
     have e2:=(hop y (by simp [ho,Op.operands])).trans em
     have hcnd:0<=n/\n<=n/\n * (ei.bytes:Int)<=281474976710656/\n<=281474976710656:=by
      refine ⟨hw.1,zK _,?_,by omega⟩
      have:n * (ei.bytes:Int)<=1000000000 * 1024:=by
       apply Int.mul_le_mul (by omega) (by omega) (by omega) (by omega)
      omega
     simp only [z5,ho,hti,e1,e2,zB,hu,hei,zT hcnd,hnx]
     rfl
  .exact absurd h3 id
 | makeMap t x=>
  cases x with
  | some x=>simp only [jv,ho] at h;exact h.elim
  | none=>
   simp only [jv,ho] at h
   obtain ⟨ti,hti,h1⟩:=qa h
   split at h1
   .rename_i kt et hu
    obtain ⟨ki,hki,h2⟩:=qa h1
    obtain ⟨ei,hei,h3⟩:=qa h2
    obtain ⟨c,hc,h4⟩:=qa h3
    obtain ⟨lf,hlf,h5⟩:=qa h4
    obtain ⟨w',R',hle,h6,h7⟩:=qe8 ok R.h (ct:=.mp c lf ei.isAgg []) (row:=.map [] 0) (lp':=w.lp) (fun _ _=>rfl) (fun w' _ _=>⟨[],0,rfl,rfl,fun i x e hx=>by simp at hx⟩)
    refine ⟨_,_,.map H.next,_,w',h5,rfl,rfl,R',hle,?_,fun fr' H' hn hop=>?_⟩
    .have:=Rep.map (X:=X) (sz:=sz) (w:=w') h7
     rw [h6] at this
     exact this
    .simp only [z5,ho,hti,zB,hu,hn]
   .exact h1.elim
 | range t x=>
  simp only [jv,ho] at h
  obtain ⟨ti,hti,h1⟩:=qa h
  obtain ⟨p,hp',h2⟩:=qa h1
  obtain ⟨v,ev,rv⟩:=qj R hp'
  split at h2
  .rename_i s hu
   cases rv
   obtain ⟨w',R',hle,h6,h7⟩:=qe8 ok R.h (ct:=.si s 0) (row:=.siter s 0) (lp':=w.lp) (fun _ _=>rfl) (fun w' _ _=>⟨0,rfl,rfl⟩)
   refine ⟨_,_,.ptr H.next 0 0 0,_,w',h2,rfl,rfl,R',hle,?_,fun fr' H' hn hop=>?_⟩
   .have:=Rep.cell (X:=X) (sz:=sz) (w:=w') (off:=0) (lim:=0) h7
    rw [h6] at this
    exact this
   .have e1:=(hop x (by simp [ho,Op.operands])).trans ev
    simp only [z5,ho,hti,e1,zB,hu,hn]
  .exact absurd h2 id
 | _=>simp [qlf,ho] at hp
inductive Plain:PV K->Prop
 | int {k:IntKind} {l:Option Int} {n:Int}:Plain (.int k l n)
 | lit {b:Bool}:Plain (.lit b)
 | sb {neg b:Bool} {pt pf:Prop}:Plain (.sb 0 neg b pt pf)
 | str {s:List UInt8}:Plain (.str s)
 | nils:Plain .nils
 | list {c:Nat} {l:List (K c)}:Plain (.list c l none)
 | nilp:Plain .nilp
 | nilf:Plain .nilf
 | nili:Plain .nili
 | func {f:Nat}:Plain (.func f [] [])
 | agg {ps:List (PV K)} (h:∀ p ∈ ps,Plain p):Plain (.agg ps)
 | eptr {ps:List (PV K)} {off:Nat} (h:∀ p ∈ ps,Plain p):Plain (.eptr ps off)
 | plist {es n:Nat} {fx:Bool} {ps:List (PV K)} (h:∀ p ∈ ps,Plain p):Plain (.plist es n fx ps)
theorem Rep.plain {w w':Wd} (hpl:∀ c x p,p ∈ X.cells c x->Plain p) (hg:w'.g=w.g) (hM:∀ nm x,w.g nm=some x->¬ w.M nm->¬ w'.M nm) {p:PV K} {v:V} (r:Rep X sz w p v) (hp:Plain p):Rep X sz w' p v:=by
 induction r with
 | int h=>exact .int h
 | lit=>exact .lit
 | sb h1 h2 h3=>cases hp;exact .sb h1 h2 fun h0=>absurd rfl h0
 | str=>exact .str
 | nils=>exact .nils
 | nlist ho=>cases hp;exact .nlist trivial
 | list hg' hf hM' hlen hb hz hcap hc ho ih=>
  cases hp
  exact .list (by rw [hg];exact hg') hf (hM _ _ hg' hM') hlen hb hz hcap (fun i hi j p hj=>ih i hi j p hj (hpl _ _ p (List.mem_of_getElem? hj))) trivial
 | cell=>cases hp
 | mlist=>cases hp
 | mptr=>cases hp
 | eptr hg' hf hM' h1 h2 hc ih=>
  cases hp with
  | eptr hps=>exact .eptr (by rw [hg];exact hg') hf (hM _ _ hg' hM') h1 h2 (fun j p hj=>ih j p hj (hps p (List.mem_of_getElem? hj)))
 | nilp=>exact .nilp
 | map=>cases hp
 | func ha hc h1 h2=>cases hp;exact .func ha hc (fun j p h=>by simp at h) (fun j p h=>by simp at h)
 | nilf=>exact .nilf
 | yield=>cases hp
 | iface=>cases hp
 | nili=>exact .nili
 | agg hl _ ih=>
  cases hp with
  | agg hps=>exact .agg hl fun j p hj=>ih j p hj (hps p (List.mem_of_getElem? hj))
 | tuple=>cases hp
 | plist hg' hf hM' h0 h1 h2 hc ih=>
  cases hp with
  | plist hps=>exact .plist (by rw [hg];exact hg') hf (hM _ _ hg' hM') h0 h1 h2 (fun j p hj=>ih j p hj (hps p (List.mem_of_getElem? hj)))
theorem Rep.zdu {w w':Wd} (hx:∀ c x,(X.cells c x).length=sz c) (hpl:∀ c x p,p ∈ X.cells c x->Plain p)
  (hm:∀ nm cs e gen floor frz ex,w.g nm=some (.row cs e gen floor frz ex)->¬ w.M nm->¬ w'.M nm/\∃ cs2 gen' frz' ex',w'.g nm=some (.row (cs++cs2) e gen' floor frz' ex')) {p:PV K} {v:V} (r:Rep X sz w p v) (hp:Plain p):Rep X sz w' p v:=by
 induction r with
 | int h=>exact .int h
 | lit=>exact .lit
 | sb h1 h2 h3=>cases hp;exact .sb h1 h2 fun h0=>absurd rfl h0
 | str=>exact .str
 | nils=>exact .nils
 | nlist ho=>cases hp;exact .nlist trivial
 | @list c l own nm gn off len z cap cs e gen floor frz ex hg' hf hM' hlen hb hz hcap hc ho ih=>
  cases hp
  obtain ⟨q1,cs2,gen',frz',ex',q2⟩:=hm _ _ _ _ _ _ _ hg' hM'
  refine .list q2 hf q1 hlen (by rw [List.length_append];omega) hz hcap (fun i hi j p hj=>?_) trivial
  have hjl:j<sz c:=by
   have:=(List.getElem?_eq_some_iff.1 hj).1
   rw [hx] at this
   exact this
  have:off+i * sz c+j<cs.length:=by
   have h1:i * sz c+sz c<=l.length * sz c:=by
    have:(i+1) * sz c<=l.length * sz c:=zU _ hi
    rw [Nat.succ_mul] at this
    exact this
   rw [<-hlen] at h1
   omega
  rw [qaw this]
  exact ih i hi j p hj (hpl _ _ p (List.mem_of_getElem? hj))
 | cell=>cases hp
 | mlist=>cases hp
 | mptr=>cases hp
 | @eptr ps off nm gn d lim cs e gen floor frz ex hg' hf hM' h1 h2 hc ih=>
  cases hp with
  | eptr hps=>
   obtain ⟨q1,cs2,gen',frz',ex',q2⟩:=hm _ _ _ _ _ _ _ hg' hM'
   refine .eptr q2 hf q1 h1 (by rw [List.length_append];omega) (fun j p hj=>?_)
   have hjl:=(List.getElem?_eq_some_iff.1 hj).1
   rw [qaw (by omega)]
   exact ih j p hj (hps p (List.mem_of_getElem? hj))
 | nilp=>exact .nilp
 | map=>cases hp
 | func ha hc h1 h2=>cases hp;exact .func ha hc (fun j p h=>by simp at h) (fun j p h=>by simp at h)
 | nilf=>exact .nilf
 | yield=>cases hp
 | iface=>cases hp
 | nili=>exact .nili
 | agg hl _ ih=>
  cases hp with
  | agg hps=>exact .agg hl fun j p hj=>ih j p hj (hps p (List.mem_of_getElem? hj))
 | tuple=>cases hp
 | plist hg' hf hM' h0 h1 h2 hc ih=>
  cases hp with
  | plist hps=>
   obtain ⟨q1,cs2,gen',frz',ex',q2⟩:=hm _ _ _ _ _ _ _ hg' hM'
   refine .plist q2 hf q1 h0 h1 (by rw [List.length_append];omega) (fun j p hj=>?_)
   have hjl:=(List.getElem?_eq_some_iff.1 hj).1
   rw [qaw (by omega)]
   exact ih j p hj (hps p (List.mem_of_getElem? hj))
def wd0 (H:Heap) (M:Nat->Prop) (ce:TypeId->Option Nat):Wd:=
 {g:=H.get,M:=M,c:=fun _=>0,nu:=fun _=>false,n:=0,owns:=fun _=>none,eta:=fun _=>none,ce:=ce,cl:=fun _=>False,nx:=H.next,b:=H.next,lp:=fun _=>none,fl:=0}
structure Start (X:Codecs K) (sz:Nat->Nat) (C:ZC K) (H:Heap) (M:Nat->Prop):Prop where
 wf:∀ n,H.next<=n->H.get n=none
 ro:H.ro<=H.next/\H.qt=C.ng/\∀ gn o,C.gobj gn=some o->H.get gn=some o/\gn<H.next
 Mlt:∀ n,M n->n<H.next
 globs:∀ gn ps,C.qt gn=some ps->gn<H.qt/\∃ vs e fl fz ex,H.get gn=some (.row vs e 0 fl fz ex)/\gn<H.next/\Rep X sz (wd0 H M C.codec) (.eptr ps 0) (.ptr gn 0 0 vs.length)
structure Answer (X:Codecs K) (sz:Nat->Nat) (C:ZC K) (H:Heap) (M:Nat->Prop) (r:PV K) (m:Nat) (v:V) (H':Heap) (w':Wd):Prop where
 keeps:Keeps H H'
 wf:∀ n,H'.next<=n->H'.get n=none
 g:w'.g=H'.get
 M:∀ n,n<H.next->(w'.M n↔M n)
 Mlt:∀ n,w'.M n->n<H'.next
 ce:w'.ce=C.codec
 n:w'.n=m
 owns:∀ i,w'.owns i=some 0
 eta:∀ i nm,w'.eta i=some nm->H.next<=nm/\nm<H'.next/\¬ w'.M nm
 einj:∀ i j nm,w'.eta i=some nm->w'.eta j=some nm->i=j
 rep:Rep X sz w' r v
def qnd (l:List Nat):Nat:=l.foldl (fun a i=>max a (i+1)) 0
def qam (X:Codecs K) (sz:Nat->Nat) (C:ZC K) (f:Nat) (args:List (PV K)) (r:PV K):Prop:=
 ∀ (H:Heap) (M:Nat->Prop) (vs:List V),Start X sz C H M->qn X sz (wd0 H M C.codec) args vs->qcc C.E (.func f) vs H fun v H'=>∃ w',Answer X sz C H M r (qnd (qar r.flat)) v H' w'
end
end Go.E3
/- E3: CALLS OF FUNCTIONS WITH CONTRACTS. -/
namespace Go.E3
open Go Go.E2
variable {K:Nat->Type}
inductive Simple:PV K->Prop
 | int {k:IntKind} {l:Option Int} {n:Int}:Simple (.int k l n)
 | lit {b:Bool}:Simple (.lit b)
 | sb {neg b:Bool} {pt pf:Prop}:Simple (.sb 0 neg b pt pf)
 | str {s:List UInt8}:Simple (.str s)
 | list {c:Nat} {l:List (K c)}:Simple (.list c l none)
 | own {c:Nat} {l:List (K c)} {i:Nat}:Simple (.list c l (some (i,0)))
 | func {f:Nat}:Simple (.func f [] [])
 | nilf:Simple .nilf
 | plist {es n:Nat} {fx:Bool} {ps:List (PV K)} (h:∀ p ∈ ps,p=.nilf∨∃ f,p=.func f [] []):Simple (.plist es n fx ps)
inductive Form1:PV K->Prop
 | one {p:PV K} (h:Simple p):Form1 p
 | agg {ps:List (PV K)} (h:∀ p ∈ ps,Simple p):Form1 (.agg ps)
inductive Form:PV K->Prop
 | one {p:PV K} (h:Form1 p):Form p
 | tuple {l:List (PV K)} (h:∀ p ∈ l,Form1 p):Form (.tuple l)
def qex:List SK->List (NV K)->Option (List (PV K)×List (NV K))
 | [],ns=>some ([],ns)
 | .int k::ks,.i n::ns=>(qex ks ns).map fun r=>(.int k none n::r.1,r.2)
 | .bool::ks,.b b::ns=>(qex ks ns).map fun r=>(.sb 0 false b (b=true) (b=false)::r.1,r.2)
 | .str::ks,.s s::ns=>(qex ks ns).map fun r=>(.str s::r.1,r.2)
 | .list _ _ _::ks,.l c l::ns=>(qex ks ns).map fun r=>(.list c l none::r.1,r.2)
 | _,_=>none
def qkw:List Sh->List (NV K)->Option (List (PV K))
 | [],[]=>some []
 | .one k::shs,ns=>(qex [k] ns).bind fun r=>(qkw shs r.2).map fun l=>r.1++l
 | .agg ks::shs,ns=>(qex ks ns).bind fun r=>(qkw shs r.2).map fun l=>.agg r.1::l
 | _,_=>none
section
variable {X:Codecs K} {sz:Nat->Nat} {C:ZC K} {base H:Heap} {st:StV K} {fr:Fr} {w:Wd}
variable {tbl:Tbl K} {inv:Nat->List (NV K)->Prop} {meas:Nat->List (NV K)->Nat}
def qge (X:Codecs K) (sz:Nat->Nat) (C:ZC K) (tbl:Tbl K):Prop:=
 ∀ f shs res ns pre r,tbl f=some (shs,res)->res ns=some (pre,r)->pre->∃ args,qkw shs ns=some args/\qam X sz C f args r/\Form r
theorem qb5 (hpl:∀ c x p,p ∈ X.cells c x->Plain p) {w':Wd} (hg:w'.g=w.g) (hM:∀ nm x,w.g nm=some x->¬ w.M nm->¬ w'.M nm):∀ {ks:List SK} {ps:List (PV K)} {vs:List V} {ns rest:List (NV K)} {r:List (PV K)×List (NV K)},
  qkl (qp X tbl inv meas) st ks ps=some ns->qn X sz w ps vs->qex ks (ns++rest)=some r->r.2=rest/\qn X sz w' r.1 vs
 | [],[],vs,ns,rest,r,h,hr,hc=>by
  simp only [qkl,zS] at h
  subst h
  simp only [List.nil_append,qex,zS] at hc
  subst hc
  rw [hr.z8]
  exact ⟨rfl,.nil⟩
 | [],_::_,vs,ns,rest,r,h,hr,hc=>by simp [qkl] at h
 | _::_,[],vs,ns,rest,r,h,hr,hc=>by simp [qkl] at h
 | k::ks,p::ps,vs,ns,rest,r,h,hr,hc=>by
  obtain ⟨v,vs',rfl,r1,r2⟩:=hr.zw
  simp only [qkl] at h
  obtain ⟨a,h1,h2⟩:=zI.1 h
  obtain ⟨ns',h3,h4⟩:=zM.1 h2
  subst h4
  rw [List.append_assoc] at hc
  unfold qqo at h1
  split at h1
  .rename_i kd kd' l n
   split at h1
   .rename_i hk
    subst hk
    cases h1
    cases r1
    simp only [List.singleton_append,qex] at hc
    obtain ⟨q,hq,rfl⟩:=zM.1 hc
    obtain ⟨e1,e2⟩:=qb5 hpl hg hM h3 r2 hq
    exact ⟨e1,.cons (.int fun m hm=>by cases hm) e2⟩
   .cases h1
  .rename_i b
   cases h1
   cases r1
   simp only [List.singleton_append,qex] at hc
   obtain ⟨q,hq,rfl⟩:=zM.1 hc
   obtain ⟨e1,e2⟩:=qb5 hpl hg hM h3 r2 hq
   exact ⟨e1,.cons (.sb .rfl .rfl fun h0=>absurd rfl h0) e2⟩
  .rename_i id neg b pt pf
   cases h1
   cases r1
   simp only [List.singleton_append,qex] at hc
   obtain ⟨q,hq,rfl⟩:=zM.1 hc
   obtain ⟨e1,e2⟩:=qb5 hpl hg hM h3 r2 hq
   exact ⟨e1,.cons (.sb .rfl .rfl fun h0=>absurd rfl h0) e2⟩
  .rename_i s
   cases h1
   cases r1
   simp only [List.singleton_append,qex] at hc
   obtain ⟨q,hq,rfl⟩:=zM.1 hc
   obtain ⟨e1,e2⟩:=qb5 hpl hg hM h3 r2 hq
   exact ⟨e1,.cons .str e2⟩
  .rename_i cn ow nb
   cases hb:((ow&&!qcx st p) || (nb&&!zc9 p)) with
   | true=>rw [hb] at h1;cases h1
   | false=>
    rw [hb] at h1
    simp only [zQ] at h1
    obtain ⟨l,hl,hl2⟩:=zM.1 h1
    subst hl2
    simp only [List.singleton_append,qex] at hc
    obtain ⟨q,hq,rfl⟩:=zM.1 hc
    obtain ⟨e1,e2⟩:=qb5 hpl hg hM h3 r2 hq
    exact ⟨e1,.cons ((qdh r1 hl).plain hpl hg hM .list) e2⟩
  .simp only [qex] at hc
   cases hc
  .cases h1
theorem qjk (hpl:∀ c x p,p ∈ X.cells c x->Plain p) {w':Wd} (hg:w'.g=w.g) (hM:∀ nm x,w.g nm=some x->¬ w.M nm->¬ w'.M nm):∀ {shs:List Sh} {ps:List (PV K)} {vs:List V} {ns:List (NV K)} {args:List (PV K)},
  qks (qp X tbl inv meas) st shs ps=some ns->qn X sz w ps vs->qkw shs ns=some args->qn X sz w' args vs
 | [],[],vs,ns,args,h,hr,hc=>by
  simp only [qks,zS] at h
  subst h
  simp only [qkw,zS] at hc
  subst hc
  rw [hr.z8]
  exact .nil
 | [],_::_,vs,ns,args,h,hr,hc=>by simp [qks] at h
 | .one k::shs,[],vs,ns,args,h,hr,hc=>by simp [qks] at h
 | .agg k::shs,[],vs,ns,args,h,hr,hc=>by simp [qks] at h
 | .one k::shs,p::ps,vs,ns,args,h,hr,hc=>by
  obtain ⟨v,vs',rfl,r1,r2⟩:=hr.zw
  simp only [qks] at h
  obtain ⟨a,h1,h2⟩:=zI.1 h
  obtain ⟨ns',h3,h4⟩:=zM.1 h2
  subst h4
  simp only [qkw] at hc
  obtain ⟨q,hq,hq2⟩:=zI.1 hc
  obtain ⟨l,hl,rfl⟩:=zM.1 hq2
  have h1':qkl (qp X tbl inv meas) st [k] [p]=some a:=by
   simp only [qkl,h1,zB,zH,zJ]
  obtain ⟨e1,e2⟩:=qb5 hpl hg hM h1' (.cons r1 .nil) hq
  rw [e1] at hl
  exact e2.append (qjk hpl hg hM h3 r2 hl)
 | .agg ks::shs,p::ps,vs,ns,args,h,hr,hc=>by
  obtain ⟨v,vs',rfl,r1,r2⟩:=hr.zw
  cases p with
  | agg cs=>
   simp only [qks] at h
   obtain ⟨a,h1,h2⟩:=zI.1 h
   obtain ⟨ns',h3,h4⟩:=zM.1 h2
   subst h4
   simp only [qkw] at hc
   obtain ⟨q,hq,hq2⟩:=zI.1 hc
   obtain ⟨l,hl,rfl⟩:=zM.1 hq2
   obtain ⟨us,rfl,ru⟩:=r1.qd8
   obtain ⟨e1,e2⟩:=qb5 hpl hg hM h1 ru hq
   rw [e1] at hl
   exact .cons (.qpi e2) (qjk hpl hg hM h3 r2 hl)
  | _=>simp [qks] at h
theorem qp2:∀ (l:List Nat) (a:Nat),a<=l.foldl (fun a i=>max a (i+1)) a/\∀ i ∈ l,i<l.foldl (fun a i=>max a (i+1)) a
 | [],a=>⟨zN _,fun i hi=>(by cases hi)⟩
 | j::l,a=>by
  obtain ⟨h1,h2⟩:=qp2 l (max a (j+1))
  simp only [List.foldl_cons]
  refine ⟨by omega,fun i hi=>?_⟩
  rcases zD.1 hi with rfl | hi
  .omega
  .exact h2 i hi
theorem zcr {l:List (Nat×Nat)} {ids:List Nat} {nx j:Nat}:look (ids.map (fun i=>(nx+i,0))++l) j=if nx<=j/\j-nx ∈ ids then some 0 else look l j:=by
 induction ids with
 | nil=>simp
 | cons i ids ih=>
  simp only [List.map_cons,List.cons_append,look,cond_eq_ite,Nat.beq_eq,ih]
  by_cases h:nx+i=j
  .subst h
   rw [zT rfl,zT]
   refine ⟨by omega,?_⟩
   rw [Nat.add_sub_cancel_left]
   exact zC
  .rw [zF h]
   have:(nx<=j/\j-nx ∈ i::ids)↔(nx<=j/\j-nx ∈ ids):=by
    constructor
    .rintro ⟨h1,h2⟩
     rcases zD.1 h2 with h2 | h2
     .omega
     .exact ⟨h1,h2⟩
    .rintro ⟨h1,h2⟩
     exact ⟨h1,zG _ h2⟩
   simp only [this]
theorem qrs (hpl:∀ c x p,p ∈ X.cells c x->Plain p) {w1 w2:Wd} {nx:Nat} (hg:w2.g=w1.g) (hM:w2.M=w1.M) (hce:w2.ce=w1.ce) (hn:∀ i,i<w1.n->nx+i<w2.n) (heta:∀ i,w2.eta (nx+i)=w1.eta i) (ho:∀ i,w1.owns i=some 0)
  {p:PV K} {v:V} (r:Rep X sz w1 p v) (hs:Simple p):Rep X sz w2 (qgw nx p) v:=by
 have hM':∀ nm x,w1.g nm=some x->¬ w1.M nm->¬ w2.M nm:=fun nm x _ h=>by rw [hM];exact h
 cases hs with
 | int=>exact r.plain hpl hg hM' .int
 | lit=>exact r.plain hpl hg hM' .lit
 | sb=>exact r.plain hpl hg hM' .sb
 | str=>exact r.plain hpl hg hM' .str
 | list=>exact r.plain hpl hg hM' .list
 | func=>exact r.plain hpl hg hM' .func
 | nilf=>exact r.plain hpl hg hM' .nilf
 | plist h=>exact r.plain hpl hg hM' (.plist fun p hp=>by rcases h p hp with rfl | ⟨f,rfl⟩<;>constructor)
 | @own c l i=>
  have key:∀ u,qjh w1 sz c (some (i,0)) u->qjh w2 sz c (some (nx+i,0)) u:=by
   rintro u ⟨q1,q2,q3,_⟩
   refine ⟨hn i q1,fun cur _=>Nat.zero_le _,fun hs=>?_,fun h=>by cases h⟩
   have hv:=q3 (ho i)
   cases u with
   | nils=>trivial
   | slice nm gn off len z cap=>
    simp only [qrw] at hv ⊢
    rcases hv with hv | ⟨hcap,he,cs,e,floor,frz,ex,hg',hr⟩
    .exact .inl hv
    .exact .inr ⟨hcap,by rw [heta];exact he,cs,e,floor,frz,ex,by rw [hg];exact hg',hr.1,hr.2.1,by rw [hce];exact hr.2.2⟩
   | _=>exact hv
  simp only [qgw]
  rcases kx r with ⟨rfl,rfl⟩ | ⟨nm,gn,off,z,cap,cs,e,gen,floor,frz,ex,rfl,hg',hf,hM1,hlen,hz,hcap,hcell,ho'⟩
  .cases r with
   | nlist h=>exact .nlist (key _ h)
  .exact .list (by rw [hg];exact hg') hf (by rw [hM];exact hM1) rfl hlen hz hcap (fun i' hi j p hp=>(hcell i' hi j p hp).plain hpl hg hM' (hpl _ _ p (List.mem_of_getElem? hp))) (key _ ho')
theorem qo4 (hpl:∀ c x p,p ∈ X.cells c x->Plain p) {w1 w2:Wd} {nx:Nat} (hg:w2.g=w1.g) (hM:w2.M=w1.M) (hce:w2.ce=w1.ce) (hn:∀ i,i<w1.n->nx+i<w2.n) (heta:∀ i,w2.eta (nx+i)=w1.eta i) (ho:∀ i,w1.owns i=some 0) :
  ∀ {ps:List (PV K)} {vs:List V},qn X sz w1 ps vs->(∀ p ∈ ps,Simple p)->qn X sz w2 (ps.map (qgw nx)) vs
 | [],vs,r,_=>by rw [r.z8];exact .nil
 | p::ps,vs,r,h=>by
  obtain ⟨v,vs',rfl,r1,r2⟩:=r.zw
  exact .cons (qrs hpl hg hM hce hn heta ho r1 (h p zC)) (qo4 hpl hg hM hce hn heta ho r2 fun q hq=>h q (zG _ hq))
def qzq (nx:Nat) (p:PV K):PV K:=match p with
 | .agg cs=>.agg (cs.map (qgw nx))
 | p=>qgw nx p
theorem qty (hpl:∀ c x p,p ∈ X.cells c x->Plain p) {w1 w2:Wd} {nx:Nat} (hg:w2.g=w1.g) (hM:w2.M=w1.M) (hce:w2.ce=w1.ce) (hn:∀ i,i<w1.n->nx+i<w2.n) (heta:∀ i,w2.eta (nx+i)=w1.eta i) (ho:∀ i,w1.owns i=some 0)
  {p:PV K} {v:V} (r:Rep X sz w1 p v) (hs:Form1 p):Rep X sz w2 (qzq nx p) v:=by
 cases hs with
 | one h=>
  have e:qzq nx p=qgw nx p:=by cases h<;>rfl
  rw [e]
  exact qrs hpl hg hM hce hn heta ho r h
 | agg h=>
  obtain ⟨vs,rfl,rl⟩:=r.qd8
  exact .qpi (qo4 hpl hg hM hce hn heta ho rl h)
theorem q9f (hpl:∀ c x p,p ∈ X.cells c x->Plain p) {w1 w2:Wd} {nx:Nat} (hg:w2.g=w1.g) (hM:w2.M=w1.M) (hce:w2.ce=w1.ce) (hn:∀ i,i<w1.n->nx+i<w2.n) (heta:∀ i,w2.eta (nx+i)=w1.eta i) (ho:∀ i,w1.owns i=some 0)
  {p:PV K} {v:V} (r:Rep X sz w1 p v) (hs:Form p):Rep X sz w2 (qha (qgw nx) p) v:=by
 cases hs with
 | one h=>
  have e:qha (qgw nx) p=qzq nx p:=by
   cases h with
   | one h=>cases h<;>rfl
   | agg h=>rfl
  rw [e]
  exact qty hpl hg hM hce hn heta ho r h
 | @tuple l h=>
  obtain ⟨vs,rfl,rl⟩:=r.qf1
  have e:qha (qgw nx) (.tuple l)=(.tuple (l.map (qzq nx)):PV K):=by
   simp only [qha]
   congr 1
   exact List.map_congr_left fun p _=>by cases p<;>rfl
  rw [e]
  refine .tuple' ?_
  clear r e
  induction l generalizing vs with
  | nil=>rw [rl.z8];exact .nil
  | cons q l ih=>
   obtain ⟨v,vs',rfl,r1,r2⟩:=rl.zw
   exact .cons (qty hpl hg hM hce hn heta ho r1 (h q zC)) (ih (fun p hp=>h p (zG _ hp)) _ r2)
theorem qdj (hx:∀ c x,(X.cells c x).length=sz c):∀ {ps:List (PV K)} {vs:List V} {w:Wd},qn X sz w ps vs->1<=w.n->
  ∃ nu',(∀ id,id<w.n->nu' id=w.nu id)/\w.n<=(jf ps w.n).2/\qn X sz {w with n:=(jf ps w.n).2,nu:=nu'} (jf ps w.n).1 vs
 | [],vs,w,r,h1=>⟨w.nu,fun _ _=>rfl,zN _,by simp only [jf];exact r⟩
 | p::ps,vs,w,r,h1=>by
  obtain ⟨v,vs',rfl,r1,r2⟩:=r.zw
  by_cases hp:∃ neg b pt pf,p=.sb 0 neg b pt pf
  .obtain ⟨neg,b,pt,pf,rfl⟩:=hp
   cases r1 with | sb q1 q2 q3=>
   have hle:Le w {w with n:=w.n+1,nu:=fun id=>if id=w.n then (b != neg) else w.nu id}:=Le.ext (Nat.le_succ _) (fun id hi=>by rw [zF (by omega)])
   obtain ⟨nu',g1,g2,g3⟩:=qdj hx (r2.mono hx hle) (by show 1<=w.n+1;omega)
   simp only at g1 g2 g3
   have e:jf (.sb 0 neg b pt pf::ps) w.n=(.sb w.n neg b pt pf::(jf ps (w.n+1)).1,(jf ps (w.n+1)).2):=by simp only [jf]
   rw [e]
   refine ⟨nu',fun id hi=>?_,zR (Nat.le_succ _) g2,.cons (.sb q1 q2 fun h0=>⟨g2,?_⟩) g3⟩
   .rw [g1 id (by omega),zF (by omega)]
   .show b=(nu' w.n != neg)
    rw [g1 w.n (by omega),zT rfl]
    cases b<;>cases neg<;>rfl
  .by_cases ha:∃ cs,p=.agg cs
   .obtain ⟨cs,rfl⟩:=ha
    obtain ⟨us,rfl,rl⟩:=r1.qd8
    obtain ⟨nu1,a1,a2,a3⟩:=qe0 hx rl h1
    have hle1:Le w {w with n:=(qad cs w.n).2,nu:=nu1}:=Le.ext a2 a1
    obtain ⟨nu',g1,g2,g3⟩:=qdj hx (r2.mono hx hle1) (by show 1<=(qad cs w.n).2;omega)
    simp only at g1 g2 g3
    have e:jf (.agg cs::ps) w.n=(.agg (qad cs w.n).1::(jf ps (qad cs w.n).2).1,(jf ps (qad cs w.n).2).2):=by simp only [jf]
    rw [e]
    have hle2:Le {w with n:=(qad cs w.n).2,nu:=nu1} {w with n:=(jf ps (qad cs w.n).2).2,nu:=nu'}:=Le.ext (w:={w with n:=(qad cs w.n).2,nu:=nu1}) g2 g1
    exact ⟨nu',fun id hi=>(g1 id (by omega)).trans (a1 id hi),zR a2 g2,.cons (.qpi (a3.mono hx hle2)) g3⟩
   .obtain ⟨nu',g1,g2,g3⟩:=qdj hx r2 h1
    have e:jf (p::ps) w.n=(p::(jf ps w.n).1,(jf ps w.n).2):=by
     cases p with
     | sb id neg b pt pf=>
      cases id with
      | zero=>exact absurd ⟨_,_,_,_,rfl⟩ hp
      | succ m=>simp only [jf]
     | agg cs=>exact absurd ⟨_,rfl⟩ ha
     | _=>simp only [jf]
    rw [e]
    exact ⟨nu',g1,g2,.cons (r1.mono hx (Le.ext g2 g1)) g3⟩
end
section
variable {X:Codecs K} {sz:Nat->Nat} {C:ZC K} {base H:Heap} {st:StV K} {fr:Fr} {w:Wd}
variable {tbl:Tbl K} {inv:Nat->List (NV K)->Prop} {meas:Nat->List (NV K)->Nat}
theorem zt {α:Type} {c:Bool} {x y:Option α} {r:α} (h:(bif c then x else y)=some r):(c=false/\y=some r)∨(c=true/\x=some r):=by
 cases c with
 | false=>exact .inl ⟨rfl,h⟩
 | true=>exact .inr ⟨rfl,h⟩
theorem zgt (ok:CfgOk X sz C) (R:RelH X sz C base st H w) {c:Bool×Prop×Prop} (ht:qgv c):∃ w',RelH X sz C base (q2h st c).2 H w'/\Le w w'/\Rep X sz w' (q2h st c).1 (.bool c.1):=by
 obtain ⟨hle,R'⟩:=R.ext ok (m:=st.next+1) (nu':=fun id=>if id=st.next then c.1 else w.nu id) (Nat.le_succ _) (fun id hi=>by rw [zF (by omega)])
 refine ⟨_,R',hle,.sb ht.1 ht.2 fun h0=>⟨Nat.lt_succ_self _,?_⟩⟩
 simp
theorem qro {a b:Leaf} (h:qo3 a b=true):a=b:=by
 cases a<;>cases b<;>first | rfl | (simp only [qo3,decide_eq_true_eq] at h;rw [h]) | (cases h)
theorem qrm {p:PV K} {k:IntKind} {n:Int} (r:Rep X sz w p (.int k n)):∃ l,p=.int k l n:=by cases r;exact ⟨_,rfl⟩
theorem qrn {p:PV K} {s:List UInt8} (r:Rep X sz w p (.str s)):p=.str s:=by cases r;rfl
theorem zcl {ki:TI} {lf:Leaf} {a b:V} {p q:PV K} (hl:qiw ki=some lf) (ha:z7 [lf] [a]) (hb:z7 [lf] [b]) (rp:Rep X sz w p a) (rq:Rep X sz w q b):qii ki.under a b=some (qh6 [p] [q]):=by
 have e0:∀ x:Bool,(x&&qh6 ([]:List (PV K)) [])=x:=fun x=>by simp [qh6]
 unfold qiw at hl
 rcases (zt hl).symm with ⟨_,h1⟩ | ⟨_,h1⟩
 .cases h1
 .split at h1
  .rename_i k hu
   cases h1
   cases a<;>(try (simp only [z7] at ha;done))<;>cases b<;>(try (simp only [z7] at hb;done))
   simp only [z7,and_true] at ha hb
   subst ha;subst hb
   obtain ⟨l,rfl⟩:=qrm rp
   obtain ⟨l',rfl⟩:=qrm rq
   simp [qii,hu,qh6]
  .rename_i hu
   cases h1
   cases a<;>(try (simp only [z7] at ha;done))<;>cases b<;>(try (simp only [z7] at hb;done))
   have:=qrn rp;subst this
   have:=qrn rq;subst this
   simp [qii,hu,qh6]
  .rename_i hu
   cases h1
   cases a<;>(try (simp only [z7] at ha;done))<;>cases b<;>(try (simp only [z7] at hb;done))
   rcases rp.bool with rfl | ⟨_,_,_,_,rfl,_⟩<;>rcases rq.bool with rfl | ⟨_,_,_,_,rfl,_⟩<;>simp [qii,hu,qh6]
  .cases h1
theorem q2z {ps:List (PV K)} {v:V} (r:qn X sz w ps [v]):∃ p,ps=[p]/\Rep X sz w p v:=by
 cases ps with
 | nil=>have:=r.1;simp at this
 | cons p ps=>
  obtain ⟨v',vs',he,r1,r2⟩:=r.zw
  cases he
  cases ps with
  | nil=>exact ⟨p,rfl,r1⟩
  | cons _ _=>have:=r2.1;simp at this
def zex (X:Codecs K) (sz:Nat->Nat) (w:Wd) (c:Nat) (lf:Leaf) (va:Bool) (l:List (K c)) (es:List (V×V×Nat)):Prop:=
 es.length=l.length/\∀ (i:Nat) (x:K c) (e:V×V×Nat),l[i]? = some x->es[i]? = some e->zav X sz w c lf va x e
theorem qem {ki:TI} {c:Nat} {lf:Leaf} {va:Bool} (hl:qiw ki=some lf) {a:V} {y:K c} (ry:qn X sz w ((X.cells c y).take 1) [a]) (ha:z7 [lf] [a]):∀ (l:List (K c)) (es:List (V×V×Nat)) (i0:Nat),zex X sz w c lf va l es->
  (qk3 ki.under a es i0=some none/\qp0 X c 1 l y=false/\q1z X c 1 l y=y/\qzn X c 1 l y=l++[y])∨
  ∃ (j:Nat) (x:K c) (e:V×V×Nat),qk3 ki.under a es i0=some (some (i0+j,e.2.1))/\l[j]? = some x/\es[j]? = some e/\qp0 X c 1 l y=true/\q1z X c 1 l y=x/\qzn X c 1 l y=l.set j y
 | [],es,i0,h=>by
  have:es=[]:=List.eq_nil_of_length_eq_zero h.1
  subst this
  exact .inl ⟨rfl,rfl,rfl,rfl⟩
 | x::l,[],i0,h=>by have:=h.1;simp at this
 | x::l,(k',v,s)::es,i0,h=>by
  obtain ⟨h1,h2,h3,h4⟩:=h.2 0 x (k',v,s) rfl rfl
  obtain ⟨p,hp,rp⟩:=q2z ry
  obtain ⟨q,hq,rq⟩:=q2z h1
  have hs:=zcl hl ha h2 rp rq
  have hk:zck X c 1 y x=qh6 [p] [q]:=by rw [zck,hp,hq]
  simp only [qk3]
  rw [hs]
  cases hb:qh6 [p] [q] with
  | true=>
   refine .inr ⟨0,x,(k',v,s),rfl,rfl,rfl,?_,?_,?_⟩
   .simp [qp0,hk,hb]
   .simp [q1z,hk,hb]
   .simp [qzn,hk,hb]
  | false=>
   have h':zex X sz w c lf va l es:=⟨by simpa using h.1,fun i x' e hx he=>h.2 (i+1) x' e (by simpa using hx) (by simpa using he)⟩
   rcases qem hl ry ha l es (i0+1) h' with ⟨a1,a2,a3,a4⟩ | ⟨j,x',e,a1,a2,a3,a4,a5,a6⟩
   .refine .inl ⟨a1,?_,?_,?_⟩
    .simp only [qp0,List.any_cons,hk,hb,Bool.false_or];exact a2
    .simp only [q1z,hk,hb,zQ];exact a3
    .simp only [qzn,hk,hb,zQ,a4,List.cons_append]
   .refine .inr ⟨j+1,x',e,by rw [a1];simp only [zS,zP,and_true];omega,by simpa using a2,by simpa using a3,?_,?_,?_⟩
    .simp only [qp0,List.any_cons,hk,hb,Bool.false_or];exact a4
    .simp only [q1z,hk,hb,zQ];exact a5
    .simp only [qzn,hk,hb,zQ,a6,List.set_cons_succ]
theorem zbm {p:PV K} {v:V} (r:Rep X sz w p v):q35 v=zie p:=by cases r<;>rfl
theorem qxa {t:TypeId} {id:Nat} {key:PV K} {mc:MapC (fun c=>List (K c))} {ei:TI} (h:q67 C st t id key=some (mc,ei)) :
  ∃ ti kt et ki,C.E.types t=some ti/\ti.under=.map kt et/\C.E.types kt=some ki/\C.E.types et=some ei/\qiw ki=some mc.lf/\look st.cells id=some (.mp mc.c mc.lf mc.va mc.l)/\mc.va=ei.isAgg/\q35 ei.zero=ei.isAgg/\tiled [mc.lf] [key]=true:=by
 unfold q67 at h
 obtain ⟨ti,hti,h1⟩:=zI.1 h
 split at h1
 .rename_i kt et hu
  obtain ⟨ki,hki,h2⟩:=zI.1 h1
  obtain ⟨ei',hei,h3⟩:=zI.1 h2
  obtain ⟨lf,hlf,h4⟩:=zI.1 h3
  obtain ⟨m,hm,h5⟩:=zI.1 h4
  rcases zt h5 with ⟨_,h6⟩ | ⟨hb,h6⟩
  .cases h6
  .cases h6
   simp only [zA,beq_iff_eq] at hb
   obtain ⟨⟨⟨b1,b2⟩,b3⟩,b4⟩:=hb
   have:=qro b1
   subst this
   refine ⟨ti,kt,et,ki,hti,hu,hki,hei,hlf,?_,b2,b3,b4⟩
   unfold qy8 at hm
   split at hm
   .rename_i e
    cases hm
    exact e
   .cases hm
 .cases h1
theorem qjt {E:Env} {kt:TypeId} {ki:TI} {lf:Leaf} (h:qiw ki=some lf) {k:V} {es:List (V×V×Nat)}:qh1 E kt ki.under k es=qk3 ki.under k es 0:=by
 unfold qiw at h
 rcases (zt h).symm with ⟨_,h1⟩ | ⟨_,h1⟩
 .cases h1
 .unfold qh1
  split at h1<;>first | (rename_i hu;rw [hu];rfl) | (cases h1)
theorem qxb (R:RelH X sz C base st H w) {id c:Nat} {lf:Leaf} {va:Bool} {l:List (K c)} (h:look st.cells id=some (.mp c lf va l)):w.cl id/\id<st.next/\w.c id<H.next/\base.next<=w.c id/\∃ es clock,H.get (w.c id)=some (.map es clock)/\zex X sz w c lf va l es:=by
 obtain ⟨hcl,_,es,clock,h1,h2,h3⟩:=R.cells id _ h
 obtain ⟨a1,a2,a3⟩:=R.cl id hcl
 exact ⟨hcl,a1,a2,a3,es,clock,h1,h2,h3⟩
theorem qmp (ok:CfgOk X sz C) (R:RelH X sz C base st H w) {t:TypeId} {okb:Bool} {m key:PV K} {vm vk:V} {k:PV K->StV K->Prop} (rm:Rep X sz w m vm) (rk:Rep X sz w key vk) (h:qr9 (qp X tbl inv meas) C t okb m key st k) :
  ∃ id p st' v w',m=.map id/\vm=.map (w.c id)/\w.c id<H.next/\w.cl id/\vk.nm=[]/\k p st'/\Near st st'/\RelH X sz C base st' H w'/\Le w w'/\Rep X sz w' p v/\
   ∀ (o:Oper) (mo ko:Operand) (fr1:Fr) (H1:Heap),o.op=.lookup t mo ko okb->opd fr1 H1 mo=some vm->opd fr1 H1 ko=some vk->H1.get (w.c id)=H.get (w.c id)->z5 C.E o fr1 H1=some (.val v,H1):=by
 unfold qr9 at h
 split at h
 .rename_i id
  obtain ⟨⟨mc,ei⟩,hm,h1⟩:=qa h
  obtain ⟨z,hz,h2⟩:=qa h1
  obtain ⟨r,hr,hpre,h3⟩:=qa h2
  obtain ⟨ti,kt,et,ki,hti,hu,hki,hei,hlf,hlk,hva,hza,htl⟩:=qxa hm
  obtain ⟨hcl,hid,hlt,hbase,es,clock,hg,hes⟩:=qxb R hlk
  have hvm:vm=.map (w.c id):=by cases rm;rfl
  subst hvm
  have hzr:=qd7 (X:=X) (sz:=sz) (w:=w) hz
  have ry:=ok.pack mc.c _ r.1 r.2 hr hpre w (vk::ei.zero.cells) (.cons rk hzr)
  have ry1:qn X sz w ((X.cells mc.c r.2).take 1) [vk]:=ry.take 1
  have ry2:qn X sz w ((X.cells mc.c r.2).drop 1) ei.zero.cells:=ry.drop 1
  have hta:=qeu (.cons rk .nil) htl
  obtain ⟨v,cs,hv,hres,hhas⟩:∃ v cs,(qn X sz w cs v.cells/\q35 v=mc.va)/\cs=(X.cells mc.c (q1z X mc.c 1 mc.l r.2)).drop 1/\∃ bo,qp0 X mc.c 1 mc.l r.2=bo/\
    ∃ fo,qk3 ki.under vk es 0=some fo/\((fo=none/\bo=false/\v=ei.zero)∨∃ i,fo=some (i,v)/\bo=true):=by
   rcases qem hlf ry1 hta mc.l es 0 hes with ⟨a1,a2,a3,_⟩ | ⟨j,x,e,a1,a2,a3,a4,a5,_⟩
   .exact ⟨ei.zero,_,⟨by rw [a3];exact ry2,by rw [hza,hva]⟩,rfl,false,a2,none,a1,.inl ⟨rfl,rfl,rfl⟩⟩
   .obtain ⟨_,_,b3,b4⟩:=hes.2 j x e a2 a3
    exact ⟨e.2.1,_,⟨by rw [a5];exact b3,b4⟩,rfl,true,a4,_,a1,.inr ⟨_,rfl,rfl⟩⟩
  subst hres
  obtain ⟨bo,hbo,fo,hfo,hcase⟩:=hhas
  obtain ⟨pv,hpv,h4⟩:=qa h3
  have rpv:Rep X sz w pv v:=by
   rcases (zt hpv).symm with ⟨ha,h5⟩ | ⟨ha,h5⟩
   .cases v<;>first | (simp [q35,ha] at hv;done) | skip
    cases h5
    exact .qpi hv.1
   .rcases (zt h5).symm with ⟨hb,h6⟩ | ⟨_,h6⟩
    .have:v.cells=[v]:=by cases v<;>first | rfl | (simp [q35,ha] at hv;done)
     obtain ⟨u,hu1,hu2⟩:=hv.1.get h6
     rw [this] at hu1
     cases hu1
     exact hu2
    .cases h6
  obtain ⟨w1,n1,R1,le1,r1⟩:=qg3 ok R rpv
  have hev:∀ (o:Oper) (mo ko:Operand) (fr1:Fr) (H1:Heap),o.op=.lookup t mo ko okb->opd fr1 H1 mo=some (.map (w.c id))->opd fr1 H1 ko=some vk->H1.get (w.c id)=H.get (w.c id)->z5 C.E o fr1 H1=some (.val (if okb then .tuple [v,.bool bo] else v),H1):=by
   intro o mo ko fr1 H1 ho e1 e2 e3
   simp only [z5,ho,hti,e1,e2,zB,hu,hki,hei,e3,hg,qjt hlf,hfo,zH]
   rcases hcase with ⟨rfl,rfl,rfl⟩ | ⟨i,rfl,rfl⟩<;>rfl
  have hnm:vk.nm=[]:=by
   cases vk<;>first | rfl | (exfalso;revert hta;cases mc.lf<;>simp [z7])
  cases okb with
  | false=>exact ⟨id,_,_,v,w1,rfl,rfl,hlt,hcl,hnm,h4,n1,R1,le1,r1,hev⟩
  | true=>
   obtain ⟨w2,R2,le2,r2⟩:=zgt ok R1 (c:=(qp0 X mc.c 1 mc.l r.2,qp0 X mc.c 1 mc.l r.2=true,qp0 X mc.c 1 mc.l r.2=false)) ⟨.rfl,.rfl⟩
   have r2:Rep X sz w2 (q2h (qcr pv st).2 (qp0 X mc.c 1 mc.l r.2,qp0 X mc.c 1 mc.l r.2=true,qp0 X mc.c 1 mc.l r.2=false)).1 (.bool bo):=by
    rw [<-hbo]
    exact r2
   exact ⟨id,_,_,.tuple [v,.bool bo],w2,rfl,rfl,hlt,hcl,hnm,h4,n1.trans ⟨rfl,rfl,rfl,rfl⟩,R2,le1.trans le2,.tuple' (.cons (r1.mono ok.len le2) (.cons r2 .nil)),hev⟩
 .exact absurd h id
theorem qi2 (ok:CfgOk X sz C) (R:RelH X sz C base st H w) {t:TypeId} {m key x:PV K} {vm vk vx:V} {k:PV K->StV K->Prop} (rm:Rep X sz w m vm) (rk:Rep X sz w key vk) (rx:Rep X sz w x vx) (h:qok (qp X tbl inv meas) C t m key x st k) :
  ∃ id st' row w',m=.map id/\vm=.map (w.c id)/\w.c id<H.next/\base.next<=w.c id/\w.cl id/\(look st.cells id).isSome=true/\k qls st'/\st'.tmps=st.tmps/\st'.n=st.n/\RelH X sz C base st' (H.put (w.c id) row) w'/\Le w w'/\(∀ j,(look st'.cells j).isSome=(look st.cells j).isSome)/\
   ∀ (o:Oper) (mo ko xo:Operand) (fr1:Fr) (H1:Heap),(o.op=.mapUpdate t mo ko xo∨o.op=.insert t mo ko xo)->opd fr1 H1 mo=some vm->opd fr1 H1 ko=some vk->opd fr1 H1 xo=some vx->H1.get (w.c id)=H.get (w.c id)->H1.ro<=w.c id->
    z5 C.E o fr1 H1=some (.skip,H1.put (w.c id) row):=by
 unfold qok at h
 split at h
 .rename_i id
  obtain ⟨⟨mc,ei⟩,hm,h1⟩:=qa h
  obtain ⟨ti,kt,et,ki,hti,hu,hki,hei,hlf,hlk,hva,hza,htl⟩:=qxa hm
  obtain ⟨hcl,hid,hlt,hbase,es,clock,hg,hes⟩:=qxb R hlk
  have hvm:vm=.map (w.c id):=by cases rm;rfl
  subst hvm
  cases hb:((zie x == mc.va)&&Nat.beq x.cellsOf.length ei.size&&x.cellsOf.all ja) with
  | false=>simp only [hb,zQ] at h1;exact h1.elim
  | true=>
   simp only [hb,zO] at h1
   obtain ⟨r,hr,hpre,h3⟩:=qa h1
   simp only [zA,beq_iff_eq] at hb
   have ry:=ok.pack mc.c _ r.1 r.2 hr hpre w (vk::vx.cells) (.cons rk rx.cells)
   have ry1:qn X sz w ((X.cells mc.c r.2).take 1) [vk]:=ry.take 1
   have ry2:qn X sz w ((X.cells mc.c r.2).drop 1) vx.cells:=ry.drop 1
   have hta:=qeu (.cons rk .nil) htl
   have hent:∀ s,zav X sz w mc.c mc.lf mc.va r.2 (vk,vx,s):=fun s=>⟨ry1,hta,ry2,by rw [zbm rx];exact hb.1.1⟩
   have hro:H.ro<=w.c id:=by rw [R.keeps.ro];exact zR R.rob.1 hbase
   obtain ⟨es',clock',hents,hfind⟩:∃ es' clock',zex X sz w mc.c mc.lf mc.va (qzn X mc.c 1 mc.l r.2) es'/\
     ∀ H1:Heap,H1.ro<=w.c id->(qk3 ki.under vk es 0).bind (fun r=>match r with
      | some (i,_)=>(H1.upd (w.c id) (.map (es.modify i fun e=>(vk,vx,e.2.2)) clock)).map fun H'=>(Out.skip,H')
      | none=>(H1.upd (w.c id) (.map (es++[(vk,vx,clock)]) (clock+1))).map fun H'=>(Out.skip,H'))=some (.skip,H1.put (w.c id) (.map es' clock')):=by
    rcases qem hlf ry1 hta mc.l es 0 hes with ⟨a1,_,_,a4⟩ | ⟨j,x',e,a1,a2,a3,_,_,a6⟩
    .refine ⟨es++[(vk,vx,clock)],clock+1,?_,fun H1 hr1=>by rw [a1];simp only [zB,qa9 hr1,zH]⟩
     rw [a4]
     refine ⟨by simp [hes.1],fun i x e hx he=>?_⟩
     rw [List.getElem?_append] at hx he
     rw [hes.1] at he
     split at hx
     .rename_i hi
      rw [zT hi] at he
      exact hes.2 i x e hx he
     .rename_i hi
      rw [zF hi] at he
      rw [List.getElem?_singleton] at hx he
      split at hx
      .rename_i h0
       rw [zT h0] at he
       cases hx;cases he
       exact hent clock
      .cases hx
    .refine ⟨es.modify j (fun e=>(vk,vx,e.2.2)),clock,?_,fun H1 hr1=>by rw [a1];simp only [zB,Nat.zero_add,qa9 hr1,zH]⟩
     rw [a6]
     refine ⟨by simp [hes.1],fun i x e1 hx he=>?_⟩
     rw [List.getElem?_set] at hx
     rw [List.getElem?_modify] at he
     by_cases hij:j=i
     .subst hij
      rw [zT rfl] at hx
      rw [a3] at he
      split at hx
      .cases hx
       simp at he
       subst he
       exact hent _
      .cases hx
     .rw [zF hij] at hx
      simp only [zF hij] at he
      have he':es[i]? = some e1:=by simpa using he
      exact hes.2 i x e1 hx he'
   obtain ⟨w',R',hle⟩:=qie ok R (ct':=.mp mc.c mc.lf mc.va (qzn X mc.c 1 mc.l r.2)) (o:=.map es' clock') hlk ⟨es',clock',rfl,hents.1,hents.2⟩
   refine ⟨id,_,_,w',rfl,rfl,hlt,hbase,hcl,by rw [hlk];rfl,h3,rfl,rfl,R',hle,fun j=>qqj hlk j,fun o mo ko xo fr1 H1 ho e1 e2 e3 e4 e5=>?_⟩
   rcases ho with ho | ho
   .simp only [z5,ho,hti,e1,e2,e3,zB,hu,hki,e4,hg,qjt hlf]
    exact hfind H1 e5
   .simp only [z5,ho,hti,e1,e2,e3,zB,hu,hki,e4,hg,qjt hlf]
    exact hfind H1 e5
 .exact absurd h id
theorem qj3 {l:List (Nat×ZT K)} {id:Nat} {x:List UInt8×Int} (h:qp8 l id=some x):look l id=some (.si x.1 x.2):=by
 unfold qp8 at h
 split at h
 .rename_i e
  cases h
  exact e
 .cases h
theorem q2i (ok:CfgOk X sz C) (R:RelH X sz C base st H w) {p:PV K} {vp:V} {k:PV K->StV K->Prop} (rp:Rep X sz w p vp) (h:zc4 (qp X tbl inv meas) p st k) :
  ∃ q st' v H' w',k q st'/\st'.tmps=st.tmps/\st'.n=st.n/\RelH X sz C base st' H' w'/\Le w w'/\Rep X sz w' q v/\
   ∀ (o:Oper) (x:Operand) (fr1:Fr),o.op=.next x true->opd fr1 H x=some vp->z5 C.E o fr1 H=some (.val v,H'):=by
 unfold zc4 at h
 split at h
 .rename_i id lim
  obtain ⟨⟨s,n⟩,hs,h1⟩:=qa h
  obtain ⟨c,hc,h2⟩:=qa h1
  have hlk:=qj3 hs
  obtain ⟨hcl,hM,pos,hn,hg⟩:=R.cells id _ hlk
  obtain ⟨a1,a2,a3⟩:=R.cl id hcl
  simp only at hn hg
  subst hn
  cases hc
  have hvp:vp=.ptr (w.c id) 0 0 lim:=by cases rp;rfl
  subst hvp
  have hro:H.ro<=w.c id:=by rw [R.keeps.ro];exact zR R.rob.1 a3
  by_cases hlt:pos<s.length
  .have h3:=h2.1 (show ((pos:Nat):Int)<ln s by unfold ln;omega)
   obtain ⟨w',R',hle⟩:=qie ok R (ct':=.si s (zib s (pos:Int))) (o:=.siter s (pos+(Utf8.decode ⟨s.toArray⟩ pos).2)) hlk ⟨_,rfl,rfl⟩
   refine ⟨_,_,.tuple [.bool true,qcs pos,.int .i32 ((Utf8.decode ⟨s.toArray⟩ pos).1:Nat)],_,w',h3,rfl,rfl,R',hle,.tuple' (.cons .lit (.cons (.int fun m hm=>by cases hm) (.cons (.int fun m hm=>by cases hm) .nil))),fun o x fr1 ho e1=>?_⟩
   have hb:Nat.blt pos s.length=true:=by rw [Nat.blt_eq];exact hlt
   simp only [z5,ho,e1,zB,hg,q2j,hb,zO,qa9 hro,zH]
  .have h3:=h2.2 (show ln s<=((pos:Nat):Int) by unfold ln;omega)
   refine ⟨_,_,.tuple [.bool false],H,w,h3,rfl,rfl,R,.refl w,.tuple' (.cons .lit .nil),fun o x fr1 ho e1=>?_⟩
   have hb:Nat.blt pos s.length=false:=by rw [<-Bool.not_eq_true,Nat.blt_eq];exact hlt
   simp only [z5,ho,e1,zB,hg,q2j,hb,zQ]
 .exact absurd h id
end
end Go.E3
/- E3: CALLS as operations. -/
namespace Go.E3
open Go Go.E2
variable {K:Nat->Type}
structure CfgOk2 (X:Codecs K) (C:ZC K):Prop where
 plain:∀ c x p,p ∈ X.cells c x->Plain p
 qt:∀ gn ps,C.qt gn=some ps->∀ p ∈ ps,Plain p
section
variable {X:Codecs K} {sz:Nat->Nat} {C:ZC K} {base H:Heap} {st:StV K} {fr:Fr} {w:Wd}
variable {tbl:Tbl K} {inv:Nat->List (NV K)->Prop} {meas:Nat->List (NV K)->Nat}
theorem Near.qcr (p:PV K) (st:StV K):Near st (qcr p st).2/\(qcr p st).2.known=st.known:=by
 unfold Go.E3.qcr
 split<;>exact ⟨⟨rfl,rfl,rfl,rfl⟩,rfl⟩
theorem qhz (ok:CfgOk X sz C) (ok2:CfgOk2 X C) (R:RelH X sz C base st H w) {r:PV K} (form:Form r) {H1 H' J:Heap} (hn1:H1.next=H.next) {v:V} {w':Wd} (a:Answer X sz C H1 w.M r (qnd (qar r.flat)) v H' w')
  (hold:∀ n,n<H.next->J.get n=H.get n) (hJsub:∀ n x,H'.get n=some x->J.get n=some x) (hJnew:∀ n,H.next<=n->J.get n=H'.get n) (hJn:J.next=H'.next) (hJr:J.ro=H.ro) (hJg:J.qt=H.qt) :
  ∃ w'',(qbf st r).2.tmps=st.tmps/\(qbf st r).2.n=st.n/\RelH X sz C base (qbf st r).2 J w''/\Le w w''/\Rep X sz w'' (qbf st r).1 v:=by
 let ids:=qar r.flat
 let m:=qnd ids
 have hids:∀ i ∈ ids,i<m:=(qp2 ids 0).2
 let st1:StV K:={st with next:=st.next+m,owns:=ids.map (fun i=>(st.next+i,0))++st.owns}
 let w1:Wd:={g:=J.get,M:=w'.M,c:=w.c,nu:=w.nu,n:=st.next+m,owns:=look st1.owns,eta:=fun j=>if j<st.next then w.eta j else w'.eta (j-st.next),ce:=w.ce,cl:=w.cl,nx:=J.next,b:=w.b,lp:=w.lp,fl:=w.fl}
 have hleJ:Le w' {w' with g:=J.get}:=by
  refine ⟨⟨zN _,fun nm cs e gen floor frz ex h hM=>⟨hM,[],gen,frz,ex,?_⟩,fun _ _=>rfl,fun _ _=>rfl,fun _ _ h=>h,fun i s s' _ h h'=>?_,fun i s _ _ _=>⟨rfl,fun nm hn _=>?_⟩,rfl,fun _ _=>.rfl,zN _,rfl,fun _ _ h=>h,fun _ _=>rfl⟩,fun m hm=>?_,rfl⟩
  .rw [zJ]
   rw [a.g] at h
   exact hJsub _ _ h
  .rw [h] at h';cases h';exact zN _
  .have:=(a.eta i nm hn).1
   rw [a.g]
   exact hJnew nm (by omega)
  .rw [a.g] at hm
   exact hJsub _ _ hm
 have hin:∀ nm x,H.get nm=some x->nm<H.next:=by
  intro nm x h
  by_cases hlt:nm<H.next
  .exact hlt
  .rw [R.wf nm (by omega)] at h;cases h
 have hM1:∀ nm,nm<H.next->(w'.M nm↔w.M nm):=fun nm h=>a.M nm (by rw [hn1];exact h)
 have hlook:∀ j,look st1.owns j=if st.next<=j/\j-st.next ∈ ids then some 0 else look st.owns j:=fun j=>zcr
 have hlookold:∀ j,j<st.next->look st1.owns j=look st.owns j:=by
  intro j hj
  rw [hlook,zF]
  omega
 have hle:Le w w1:=by
  refine ⟨⟨by rw [R.n];exact Nat.le_add_right _ _,fun nm cs e gen floor frz ex h hM=>?_,fun _ _=>rfl,fun _ _=>rfl,fun i hi h=>?_,fun i s s' hi h h'=>?_,fun i s hi h h'=>?_,rfl,fun _ _=>.rfl,?_,rfl,fun n hn hm=>(hM1 n (by rw [R.b] at hn;have:=R.keeps.next;omega)).2 hm,fun _ _=>rfl⟩,fun m hm=>by rw [R.g] at hm;show J.get m=_;rw [hold m (hin m _ hm)];exact hm,rfl⟩
  .rw [R.g] at h
   have hlt:=hin nm _ h
   exact ⟨fun hm=>hM ((hM1 nm hlt).1 hm),[],gen,frz,ex,by rw [zJ];show J.get nm=_;rw [hold nm hlt];exact h⟩
  .rw [R.owns] at h
   show look st1.owns i=none
   rw [hlookold i (by rw [<-R.n];exact hi)]
   exact h
  .rw [R.owns] at h
   have h'':look st1.owns i=some s':=h'
   rw [hlookold i (by rw [<-R.n];exact hi),h] at h''
   cases h''
   exact zN _
  .have hi':i<st.next:=by rw [<-R.n];exact hi
   rw [R.owns] at h
   refine ⟨zT hi',fun nm hn _=>?_⟩
   show J.get nm=w.g nm
   rw [hold nm (R.eta i s nm h hn).2.1,R.g]
  .rw [R.nx]
   show H.next<=J.next
   rw [hJn]
   have:=a.keeps.next
   omega
 have hJnext:H.next<=J.next:=by rw [hJn];have:=a.keeps.next;omega
 have hk:Keeps H J:=⟨hJnext,hJr,hJg,hold⟩
 have heta1:∀ j s nm,look st1.owns j=some s->w1.eta j=some nm->(j<st.next/\look st.owns j=some s/\w.eta j=some nm/\nm<H.next)∨(st.next<=j/\w'.eta (j-st.next)=some nm/\H.next<=nm):=by
  intro j s nm h hn
  by_cases hj:j<st.next
  .left
   have hn':w.eta j=some nm:=by
    have:w1.eta j=w.eta j:=zT hj
    rw [<-this];exact hn
   rw [hlookold j hj] at h
   exact ⟨hj,h,hn',(R.eta j s nm h hn').2.1⟩
  .right
   have hn':w'.eta (j-st.next)=some nm:=by
    have:w1.eta j=w'.eta (j-st.next):=zF hj
    rw [<-this];exact hn
   have:=(a.eta _ nm hn').1
   exact ⟨by omega,hn',by omega⟩
 have R1:RelH X sz C base st1 J w1:=by
  refine ⟨fun n hn=>?_,R.rob,rfl,rfl,R.b,fun n hn=>?_,rfl,zR R.one (Nat.le_add_right _ _),R.keeps.trans hk,fun id h=>?_,R.cinj,fun id ps h=>?_,fun _=>rfl,fun i s h=>?_,fun i s nm h hn=>?_,fun i j s s' nm h1 h2 e1 e2=>?_,R.ce,fun id b h=>?_,fun gn ps h=>?_⟩
  .rw [hJnew n (zR hJnext hn)];exact a.wf n (by rw [<-hJn];exact hn)
  .rw [hJn];exact a.Mlt n hn
  .obtain ⟨q1,q2,q3⟩:=R.cl id h
   exact ⟨zL q1 (Nat.le_add_right _ _),zL q2 hJnext,q3⟩
  .obtain ⟨q1,q2,q5⟩:=R.cells id ps h
   refine ⟨q1,(hM1 _ (R.cl id q1).2.1).2 q2,?_⟩
   show qal X sz w1 id _ (J.get (w.c id))
   rw [hold _ (R.cl id q1).2.1]
   exact q5.mono ok.len hle (by rw [R.n];exact (R.cl id q1).1)
  .rw [hlook] at h
   split at h
   .rename_i hc
    have:=hids _ hc.2
    show i<st.next+m
    omega
   .exact zL (R.ownn i s h) (Nat.le_add_right _ _)
  .rcases heta1 i s nm h hn with ⟨q1,q2,q3,q4⟩ | ⟨q1,q2,q3⟩
   .obtain ⟨b1,b2,b3⟩:=R.eta i s nm q2 q3
    exact ⟨b1,zL b2 hJnext,fun hm=>b3 ((hM1 nm b2).1 hm)⟩
   .obtain ⟨b1,b2,b3⟩:=a.eta _ nm q2
    have:=R.keeps.next
    exact ⟨by omega,by rw [hJn];exact b2,b3⟩
  .rcases heta1 i s nm h1 e1 with ⟨q1,q2,q3,q4⟩ | ⟨q1,q2,q3⟩<;>rcases heta1 j s' nm h2 e2 with ⟨p1,p2,p3,p4⟩ | ⟨p1,p2,p3⟩
   .exact R.einj i j s s' nm q2 p2 q3 p3
   .omega
   .omega
   .have:=a.einj _ _ nm q2 p2
    omega
  .obtain ⟨q0,q1,q2⟩:=R.known id b h
   exact ⟨q0,zL q1 (Nat.le_add_right _ _),q2⟩
  .obtain ⟨q0,vs',e',fl,fz,ex',q1,q2,q3⟩:=R.globs gn ps h
   exact ⟨q0,vs',e',fl,fz,ex',q1,q2,q3.mono ok.len hle⟩
 have r1:Rep X sz w1 (qha (qgw st.next) r) v:=by
  refine q9f (w1:={w' with g:=J.get}) (w2:=w1) (nx:=st.next) ok2.plain rfl rfl ?_ ?_ ?_ a.owns (a.rep.mono ok.len hleJ) form
  .show w.ce=w'.ce
   rw [R.ce,a.ce]
  .intro i hi
   have hi:i<w'.n:=hi
   rw [a.n] at hi
   show st.next+i<st.next+m
   have:i<m:=hi
   omega
  .intro i
   show (if st.next+i<st.next then w.eta (st.next+i) else w'.eta (st.next+i-st.next))=w'.eta i
   rw [zF (by omega),Nat.add_sub_cancel_left]
 have htb:qbf st r=(match qha (qgw st.next) r with
   | .tuple l=>(.tuple (jf l st1.next).1,{st1 with next:=(jf l st1.next).2})
   | p=>qcr p st1):=by
  unfold qbf
  simp only
  cases qha (qgw st.next) r<;>rfl
 rw [htb]
 cases hq:qha (qgw st.next) r with
 | tuple l=>
  rw [hq] at r1
  obtain ⟨vs,rfl,rl⟩:=r1.qf1
  obtain ⟨nu',g1,g2,g3⟩:=qdj ok.len rl R1.one
  obtain ⟨hle2,R2⟩:=R1.ext ok g2 g1
  exact ⟨_,rfl,rfl,R2,hle.trans hle2,.tuple' g3⟩
 | _=>
  rw [hq] at r1
  obtain ⟨w2,hn,R2,hle2,r2⟩:=qg3 ok R1 r1
  exact ⟨w2,hn.tmps,hn.n,R2,hle.trans hle2,r2⟩
def zmq (w:Wd):Tgt->Tgt
 | .func f=>.func f
 | .round id=>.round (w.c id)
def qkm (X:Codecs K) (sz:Nat->Nat) (C:ZC K) (inl:ZI K):Prop:=
 ∀ t args (st:StV K) k,inl t args st k->∀ base H w vs,RelH X sz C base st H w->qn X sz w args vs->
  qcc C.E (zmq w t) vs H fun v H'=>∃ p st' w',k p st'/\st'.tmps=st.tmps/\st'.n=st.n/\RelH X sz C base st' H' w'/\Le w w'/\Rep X sz w' p v
structure Cut (X:Codecs K) (sz:Nat->Nat) (C:ZC K) (base H H1:Heap) (w:Wd):Prop where
 sub:∀ n x,H1.get n=some x->H.get n=some x
 old:∀ n,n<base.next->H1.get n=H.get n
 nx:H1.next=H.next
 gl:H1.qt=H.qt
 ro:H1.ro<=H1.next
 gs:∀ gn ps vs e fl fz ex,C.qt gn=some ps->base.get gn=some (.row vs e 0 fl fz ex)->gn<base.next->Rep X sz {w with g:=H1.get} (.eptr ps 0) (.ptr gn 0 0 vs.length)
theorem Cut.same (R:RelH X sz C base st H w) {H1:Heap} (hg1:∀ n,H1.get n=H.get n) (hn1:H1.next=H.next) (hgl:H1.qt=H.qt) (hro:H1.ro<=H1.next):Cut X sz C base H H1 w:=by
 have hw:({w with g:=H1.get}:Wd)=w:=by
  have:H1.get=w.g:=by rw [R.g];exact funext hg1
  rw [this]
 refine ⟨fun n x h=>by rw [<-hg1];exact h,fun n _=>hg1 n,hn1,hgl,hro,fun gn ps vs e fl fz ex h h1 _=>?_⟩
 obtain ⟨_,vs',e',fl',fz',ex',q1,q2,q3⟩:=R.globs gn ps h
 rw [h1] at q1
 cases q1
 rw [hw]
 exact q3
theorem Cut.start (ok2:CfgOk2 X C) (R:RelH X sz C base st H w) {H1:Heap} (cut:Cut X sz C base H H1 w):Start X sz C H1 w.M:=by
 refine ⟨fun n hn=>?_,⟨cut.ro,by rw [cut.gl,R.keeps.qt];exact R.rob.2.1,fun gn o ho=>⟨by rw [cut.old gn (R.rob.2.2 gn o ho).2,R.keeps.old gn (R.rob.2.2 gn o ho).2];exact (R.rob.2.2 gn o ho).1,by rw [cut.nx];exact zL (R.rob.2.2 gn o ho).2 R.keeps.next⟩⟩,fun n hn=>?_,fun gn ps hgn=>?_⟩
 .cases h:H1.get n with
  | none=>rfl
  | some x=>have:=cut.sub n x h;rw [R.wf n (by rw [<-cut.nx];exact hn)] at this;cases this
 .rw [cut.nx];exact R.Mlt n hn
 .obtain ⟨q0,vs',e',fl,fz,ex',q1,q2,q3⟩:=R.globs gn ps hgn
  refine ⟨by rw [cut.gl,R.keeps.qt];exact q0,vs',e',fl,fz,ex',by rw [cut.old gn q2,R.keeps.old gn q2];exact q1,by rw [cut.nx];exact zL q2 R.keeps.next,?_⟩
  exact Rep.plain (w:={w with g:=H1.get}) (w':=wd0 H1 w.M C.codec) ok2.plain rfl (fun _ _ _ h=>h) (cut.gs gn ps vs' e' fl fz ex' hgn q1 q2) (.eptr (ok2.qt gn ps hgn))
theorem qpw (ok2:CfgOk2 X C) (tok:qge X sz C tbl) (R:RelH X sz C base st H w) {g:Nat} {args:List (PV K)} {vs:List V} {pre:Prop} {r:PV K} {H1:Heap} (cut:Cut X sz C base H H1 w) (ra:qn X sz {w with g:=H1.get} args vs)
  (h:fnP (qp X tbl inv meas) st g args=some (pre,r)) (hp:pre):Form r/\qcc C.E (.func g) vs H1 fun v H'=>∃ w',Answer X sz C H1 w.M r (qnd (qar r.flat)) v H' w':=by
 unfold fnP at h
 obtain ⟨⟨shs,res⟩,h1,h2⟩:=zI.1 h
 obtain ⟨ns,h3,h4⟩:=zI.1 h2
 obtain ⟨cargs,hc,hf,form⟩:=tok g shs res ns pre r h1 h4 hp
 exact ⟨form,hf H1 w.M vs (cut.start ok2 R) (qjk ok2.plain (w:={w with g:=H1.get}) (w':=wd0 H1 w.M C.codec) rfl (fun _ _ _ h=>h) h3 ra hc)⟩
theorem qqx (ok2:CfgOk2 X C) {w w':Wd} (hg:w'.g=w.g) (hM:∀ nm x,w.g nm=some x->¬ w.M nm->¬ w'.M nm) {p q:PV K} {v:V} (r:Rep X sz w p v) (h:q0w (qp X tbl inv meas) p=some q) :
  Rep X sz w' q v/\Plain q/\Simple q/\∀ c x i,q≠.list c x (some i):=by
 cases p with
 | int k l n=>cases h;cases r with | int h1=>exact ⟨.int h1,.int,.int,by simp⟩
 | lit b=>cases h;cases r;exact ⟨.lit,.lit,.lit,by simp⟩
 | sb id neg b pt pf=>cases h;cases r;exact ⟨.sb .rfl (by show _=false↔_;exact .rfl) fun h0=>absurd rfl h0,.sb,.sb,by simp⟩
 | str s=>cases h;cases r;exact ⟨.str,.str,.str,by simp⟩
 | list c l o=>
  cases h
  refine ⟨?_,.list,.list,by simp⟩
  have r0:Rep X sz w (.list c l none) v:=by
   cases r with
   | nlist ho=>exact .nlist trivial
   | list hg hf hM hlen hb hz hcap hc ho=>exact .list hg hf hM hlen hb hz hcap hc trivial
  exact r0.plain ok2.plain hg hM .list
 | func f a c=>
  cases a with
  | nil=>
   cases c with
   | nil=>cases h;exact ⟨r.plain ok2.plain hg hM .func,.func,.func,by simp⟩
   | cons _ _=>cases h
  | cons _ _=>cases h
 | nilf=>cases h;exact ⟨r.plain ok2.plain hg hM .nilf,.nilf,.nilf,by simp⟩
 | plist es n fx cs=>
  simp only [q0w] at h
  cases hb:cs.all zbo with
  | false=>rw [hb] at h;cases h
  | true=>
   rw [hb] at h
   cases h
   have key:∀ p ∈ cs,p=.nilf∨∃ f,p=.func f [] []:=fun p hp=>by
    have:=List.all_eq_true.1 hb p hp
    unfold zbo at this
    split at this
    .exact .inr ⟨_,rfl⟩
    .exact .inl rfl
    .cases this
   have pl:Plain (.plist es n fx cs:PV K):=.plist fun p hp=>by rcases key p hp with rfl | ⟨f,rfl⟩<;>constructor
   exact ⟨r.plain ok2.plain hg hM pl,pl,.plist key,by simp⟩
 | _=>cases h
theorem qqy (ok2:CfgOk2 X C) {w w':Wd} (hg:w'.g=w.g) (hM:∀ nm x,w.g nm=some x->¬ w.M nm->¬ w'.M nm):∀ {ps qs:List (PV K)} {vs:List V},qn X sz w ps vs->q0y (qp X tbl inv meas) ps=some qs->
  qn X sz w' qs vs/\∀ q ∈ qs,Plain q/\Simple q/\∀ c x i,q≠.list c x (some i)
 | [],qs,vs,r,h=>by
  simp only [q0y,zS] at h
  subst h
  rw [r.z8]
  exact ⟨.nil,fun q hq=>by cases hq⟩
 | p::ps,qs,vs,r,h=>by
  obtain ⟨v,vs',rfl,r1,r2⟩:=r.zw
  simp only [q0y] at h
  obtain ⟨q,h1,h2⟩:=zI.1 h
  obtain ⟨qs',h3,rfl⟩:=zM.1 h2
  obtain ⟨a1,a2⟩:=qqx ok2 hg hM r1 h1
  obtain ⟨b1,b2⟩:=qqy ok2 hg hM r2 h3
  refine ⟨.cons a1 b1,fun q' hq=>?_⟩
  rcases zD.1 hq with rfl | hq
  .exact a2
  .exact b2 q' hq
theorem qs1 (ok2:CfgOk2 X C) {w w':Wd} (hg:w'.g=w.g) (hM:∀ nm x,w.g nm=some x->¬ w.M nm->¬ w'.M nm) {p q:PV K} {v:V} (r:Rep X sz w p v) (h:bare (qp X tbl inv meas) p=some q) :
  Rep X sz w' q v/\Plain q/\Form1 q/\∀ y ∈ q.cellsOf,∀ c x i,y≠.list c x (some i):=by
 by_cases ha:∃ cs,p=.agg cs
 .obtain ⟨cs,rfl⟩:=ha
  simp only [bare] at h
  obtain ⟨qs,h1,rfl⟩:=zM.1 h
  obtain ⟨vs,rfl,r'⟩:=r.qd8
  obtain ⟨a1,a2⟩:=qqy ok2 hg hM r' h1
  exact ⟨.qpi a1,.agg fun y hy=>(a2 y hy).1,.agg fun y hy=>(a2 y hy).2.1,fun y hy=>(a2 y hy).2.2⟩
 .have e:bare (qp X tbl inv meas) p=q0w (qp X tbl inv meas) p:=by
   cases p with
   | agg cs=>exact absurd ⟨cs,rfl⟩ ha
   | _=>rfl
  rw [e] at h
  obtain ⟨a1,a2,a3,a4⟩:=qqx ok2 hg hM r h
  refine ⟨a1,a2,.one a3,fun y hy=>?_⟩
  have:q.cellsOf=[q]:=by
   cases a3<;>rfl
  rw [this] at hy
  rw [List.mem_singleton.1 hy]
  exact a4
theorem qku (ok2:CfgOk2 X C) {w w':Wd} (hg:w'.g=w.g) (hM:∀ nm x,w.g nm=some x->¬ w.M nm->¬ w'.M nm):∀ {ps qs:List (PV K)} {vs:List V},qn X sz w ps vs->qs0 (qp X tbl inv meas) ps=some qs->
  qn X sz w' qs vs/\∀ q ∈ qs,Plain q/\Form1 q/\∀ y ∈ q.cellsOf,∀ c x i,y≠.list c x (some i)
 | [],qs,vs,r,h=>by
  simp only [qs0,zS] at h
  subst h
  rw [r.z8]
  exact ⟨.nil,fun q hq=>by cases hq⟩
 | p::ps,qs,vs,r,h=>by
  obtain ⟨v,vs',rfl,r1,r2⟩:=r.zw
  simp only [qs0] at h
  obtain ⟨q,h1,h2⟩:=zI.1 h
  obtain ⟨qs',h3,rfl⟩:=zM.1 h2
  obtain ⟨a1,a2⟩:=qs1 ok2 hg hM r1 h1
  obtain ⟨b1,b2⟩:=qku ok2 hg hM r2 h3
  refine ⟨.cons a1 b1,fun q' hq=>?_⟩
  rcases zD.1 hq with rfl | hq
  .exact a2
  .exact b2 q' hq
theorem qll:∀ {l:List (PV K)},(∀ y ∈ l,∀ c x i,y≠.list c x (some i))->qar l=[]
 | [],_=>rfl
 | p::l,h=>by
  have ih:=qll (l:=l) fun y hy=>h y (zG _ hy)
  cases p with
  | list c x o=>
   cases o with
   | none=>exact ih
   | some i=>exact absurd rfl (h _ zC c x i)
  | _=>exact ih
theorem q0x (ok2:CfgOk2 X C) {w w':Wd} (hg:w'.g=w.g) (hM:∀ nm x,w.g nm=some x->¬ w.M nm->¬ w'.M nm) {p q:PV K} {v:V} (r:Rep X sz w p v) (h:q58 (qp X tbl inv meas) p=some q) :
  Rep X sz w' q v/\Form q/\qar q.flat=[]:=by
 by_cases ha:∃ l,p=.tuple l
 .obtain ⟨l,rfl⟩:=ha
  simp only [q58] at h
  obtain ⟨qs,h1,rfl⟩:=zM.1 h
  obtain ⟨vs,rfl,r'⟩:=r.qf1
  obtain ⟨a1,a2⟩:=qku ok2 hg hM r' h1
  refine ⟨.tuple' a1,.tuple fun y hy=>(a2 y hy).2.1,qll fun y hy=>?_⟩
  obtain ⟨z,hz,hyz⟩:=List.mem_flatMap.1 hy
  exact (a2 z hz).2.2 y hyz
 .have e:q58 (qp X tbl inv meas) p=bare (qp X tbl inv meas) p:=by
   cases p with
   | tuple l=>exact absurd ⟨l,rfl⟩ ha
   | _=>rfl
  rw [e] at h
  obtain ⟨a1,a2,a3,a4⟩:=qs1 ok2 hg hM r h
  refine ⟨a1,.one a3,?_⟩
  have:q.flat=q.cellsOf:=by
   cases a3 with
   | one hs=>cases hs<;>rfl
   | agg _=>rfl
  rw [this]
  exact qll a4
theorem q5i (ok:CfgOk X sz C) (ok2:CfgOk2 X C) {inl:ZI K} (iok:qkm X sz C inl) (R:RelH X sz C base st H w) {g:Nat} {args:List (PV K)} {vs:List V} {k:PV K->StV K->Prop} {H1:Heap} (cut:Cut X sz C base H H1 w)
  (ra:qn X sz {w with g:=H1.get} args vs) (h:qzm (qp X tbl inv meas) inl (.func g) args st k) :
  qcc C.E (.func g) vs H1 fun v H'=>∃ r w',Form r/\Answer X sz C H1 w.M r (qnd (qar r.flat)) v H' w'/\k (qbf st r).1 (qbf st r).2:=by
 unfold qzm at h
 simp only at h
 split at h
 .rename_i as has
  obtain ⟨ras,_⟩:=qku (w:={w with g:=H1.get}) (w':=wd0 H1 w.M C.codec) ok2 rfl (fun _ _ _ h=>h) ra has
  have hle1:Le (wd0 H1 w.M C.codec) {wd0 H1 w.M C.codec with n:=1}:=Le.ext (w:=wd0 H1 w.M C.codec) (m:=1) (nu':=fun _=>false) (Nat.zero_le _) (fun _ _=>rfl)
  obtain ⟨nu',g1,g2,g3⟩:=qdj ok.len (ras.mono ok.len hle1) (zN 1)
  let w0:Wd:={wd0 H1 w.M C.codec with n:=(jf as 1).2,nu:=nu'}
  have hle0:Le (wd0 H1 w.M C.codec) w0:=Le.ext (w:=wd0 H1 w.M C.codec) (Nat.zero_le _) (fun id hi=>by have:id<0:=hi;omega)
  have S:=cut.start ok2 R
  have R0:RelH X sz C H1 {tmps:=.nil,n:=0,cells:=[],owns:=[],next:=(jf as 1).2,known:=[]} H1 w0:=by
   refine ⟨S.wf,S.ro,rfl,rfl,rfl,S.Mlt,rfl,g2,.refl H1,fun _ hc=>False.elim hc,fun _ _ hc=>False.elim hc,fun id ps hl=>(by cases hl),fun _=>rfl,fun i s hl=>(by cases hl),fun i s nm hl=>(by cases hl),fun i j s s' nm hl=>(by cases hl),rfl,fun id b hl=>(by cases hl),fun gn ps hgn=>?_⟩
   obtain ⟨q0,vs',e',fl,fz,ex',q1,q2,q3⟩:=S.globs gn ps hgn
   exact ⟨q0,vs',e',fl,fz,ex',q1,q2,q3.mono ok.len hle0⟩
  refine (iok (.func g) _ _ _ h H1 H1 w0 vs R0 g3).mono fun v H' hA=>?_
  obtain ⟨p,st',w',hk,_,_,R',hle,rp⟩:=hA
  split at hk
  .rename_i r hr
   let w2:Wd:={g:=H'.get,M:=fun n=>if n<H1.next then w.M n else w'.M n,c:=fun _=>0,nu:=fun _=>false,n:=0,owns:=fun _=>some 0,eta:=fun _=>none,ce:=C.codec,cl:=fun _=>False,nx:=H'.next,b:=H1.next,lp:=fun _=>none,fl:=0}
   obtain ⟨b1,b2,b3⟩:=q0x ok2 (w':=w2) R'.g.symm (fun nm x _ hm=>by
    show ¬ (if nm<H1.next then w.M nm else w'.M nm)
    split
    .rename_i hlt;exact fun h0=>hm (hle.Mu nm hlt h0)
    .exact hm) rp hr
   refine ⟨r,w2,b2,⟨R'.keeps,R'.wf,rfl,fun n hn=>?_,fun n hn=>?_,rfl,by rw [b3];rfl,fun _=>rfl,fun j nm he=>(by cases he),fun j1 j2 nm e1=>(by cases e1),b1⟩,hk⟩
   .show (if n<H1.next then w.M n else w'.M n)↔w.M n
    rw [zT hn]
   .have hn':(if n<H1.next then w.M n else w'.M n):=hn
    split at hn'
    .rename_i hlt;exact zL hlt R'.keeps.next
    .exact R'.Mlt n hn'
  .exact absurd hk id
 .exact absurd h id
theorem qq1 (ok:CfgOk X sz C) (ok2:CfgOk2 X C) (tok:qge X sz C tbl) {inl:ZI K} (iok:qkm X sz C inl) (R:RelH X sz C base st H w) {f:PV K} {vf:V} {args:List (PV K)} {vs:List V} {k:PV K->StV K->Prop}
  (rf:Rep X sz w f vf) (ra:qn X sz w args vs) (h:q03 (qp X tbl inv meas) inl f args st k) :
  ∃ t us,qdi vf vs=some (.call t us)/\qcc C.E t us H fun v H'=>∃ p st' w',k p st'/\st'.tmps=st.tmps/\st'.n=st.n/\RelH X sz C base st' H' w'/\Le w w'/\Rep X sz w' p v:=by
 unfold q03 at h
 split at h
 .rename_i g first cap
  cases rf with
  | @func f' a c va vc ha hc h1 h2=>
  have hra:qn X sz w (first++args++cap) (va++vs++vc):=qn.append (qn.append (ps:=first) ⟨ha,h1⟩ ra) ⟨hc,h2⟩
  refine ⟨.func g,va++vs++vc,rfl,?_⟩
  split at h
  .rename_i pre r hfn
   cases hd:distinct (qar r.flat) with
   | false=>rw [hd] at h;exact absurd h id
   | true=>
    rw [hd] at h
    simp only [zO] at h
    obtain ⟨hpre,hk⟩:=h
    have hro:H.ro<=H.next:=by rw [R.keeps.ro];exact zR R.rob.1 R.keeps.next
    have hw:({w with g:=H.get}:Wd)=w:=by rw [<-R.g]
    obtain ⟨form,hcall⟩:=qpw ok2 tok R (H1:=H) (.same R (fun _=>rfl) rfl rfl hro) (by rw [hw];exact hra) hfn hpre
    refine hcall.mono fun v H' hA=>?_
    obtain ⟨w',a⟩:=hA
    obtain ⟨w'',e1,e2,R',hle,r'⟩:=qhz ok ok2 R form (H1:=H) rfl a (J:=H') a.keeps.old (fun _ _ h=>h) (fun _ _=>rfl) rfl a.keeps.ro a.keeps.qt
    exact ⟨_,_,w'',hk,e1,e2,R',hle,r'⟩
  .exact iok (.func g) _ st k h base H w _ R hra
 .rename_i id
  cases rf with
  | yield hid=>exact ⟨.round (w.c id),vs,rfl,iok (.round id) _ st k h base H w _ R ra⟩
 .exact absurd h id
end
end Go.E3
/- E3: REGIONS in the order of the text. -/
namespace Go.E3
open Go Go.E2
variable {K:Nat->Type}
section
variable {X:Codecs K} {sz:Nat->Nat} {C:ZC K} {base H:Heap} {st:StV K} {fr:Fr} {w:Wd}
variable {tbl:Tbl K} {inv:Nat->List (NV K)->Prop} {meas:Nat->List (NV K)->Nat} {inl:ZI K}
variable {nd:Bool} {all:Array Oper} {Q:Ex->Fr->Heap->Prop}
theorem Rel.put (R:Rel X sz C base st fr H w) {dst:Option Tmp} {p:PV K} {v:V} (r:Rep X sz w p v):Rel X sz C base (st.put dst p) (fr.put dst v) H w:=by
 obtain ⟨h,f,n,ds⟩:=R
 cases dst with
 | none=>exact ⟨h,f,n,ds⟩
 | some d=>
  obtain ⟨t,m,c,o,x,kn⟩:=st
  obtain ⟨t',m',ds'⟩:=fr
  have hn:m'=m:=n
  subst hn
  simp only [St.put,Fr.put]
  cases hb:Nat.blt d m' with
  | false=>simp only [zQ];exact ⟨h,f,rfl,ds⟩
  | true=>
   simp only [zO]
   refine ⟨⟨h.wf,h.rob,h.g,h.nx,h.b,h.Mlt,h.n,h.one,h.keeps,h.cl,h.cinj,h.cells,h.owns,h.ownn,h.eta,h.einj,h.ce,h.known,h.globs⟩,fun i q hq=>?_,rfl,ds⟩
   simp only [Tree.ka] at hq
   simp only [Fr.tmp,Tree.ka]
   by_cases hi:i=d
   .rw [zT hi] at hq ⊢
    cases hq
    exact ⟨v,rfl,r⟩
   .rw [zF hi] at hq ⊢
    exact f i q hq
theorem Rel.step (ok:CfgOk X sz C) (R:Rel X sz C base st fr H w) {st':StV K} {H':Heap} {w':Wd} (ht:st'.tmps=st.tmps) (hn:st'.n=st.n) (hh:RelH X sz C base st' H' w') (hle:Le w w'):Rel X sz C base st' fr H' w':=
 ⟨hh,fun i p hp=>by
  rw [ht] at hp
  obtain ⟨v,h1,h2⟩:=R.f i p hp
  exact ⟨v,h1,h2.mono ok.len hle⟩,by rw [hn];exact R.n,R.ds.mono hle⟩
theorem qrv (R:Rel X sz C base st fr H w) {o:Oper} {k:Bool->StV K->Prop} (h:q7r (qp X tbl inv meas) o all st k) :
  ∃ b st',qbm o all fr=some b/\k b st'/\Near st st'/\st'.next=st.next/\RelH X sz C base st' H w:=by
 unfold q7r at h
 split at h
 .rename_i hg
  exact ⟨true,st,zan hg,h,.refl st,rfl,R.h⟩
 .rename_i j want hg
  split at h
  .rename_i hd
   exact ⟨false,st,by simp only [qbm,hg,hd],h,.refl st,rfl,R.h⟩
  .rename_i d hd
   split at h
   .rename_i b hb
    obtain ⟨v,h1,h2⟩:=R.f d _ hb
    cases h2
    exact ⟨b == want,st,q7s hg hd h1,h,.refl st,rfl,R.h⟩
   .rename_i id neg b pt pf hb
    obtain ⟨v,h1,h2⟩:=R.f d _ hb
    cases h2 with
    | sb q1 q2 q3=>
     obtain ⟨st',h',hn,hx,R'⟩:=qs5 R.h (.sb q1 q2 q3) h
     exact ⟨b == want,st',q7s hg hd h1,h',hn,hx,R'⟩
   .rename_i hb
    obtain ⟨v,h1,h2⟩:=R.f d _ hb
    obtain ⟨vs,rfl,hr⟩:=h2.qf1
    have:=hr.z8;subst this
    exact ⟨false,st,q5v hg hd h1,h,.refl st,rfl,R.h⟩
   .exact absurd h id
theorem qti {H:Heap} {s:List UInt8}:zv H 1 (.str s)=some (s.length,s.map fun b=>.int .u8 b.toNat):=by
 simp only [zv,V.qbx,qa2,Nat.beq_refl,zO]
theorem qx2 (ok:CfgOk X sz C) (s:List UInt8):(X.u8 ▸ s:List (K 0)).length=s.length/\qn X sz w ((X.u8 ▸ s:List (K 0)).flatMap (X.cells 0)) (s.map fun b=>V.int .u8 b.toNat):=by
 have key:∀ (l:List (K 0)),qn X sz w (l.flatMap (X.cells 0)) ((X.u8 ▸ l:List UInt8).map fun b=>V.int .u8 b.toNat):=by
  intro l
  rw [qlv]
  induction l with
  | nil=>exact .nil
  | cons x l ih=>
   rw [List.flatMap_cons,ok.u8,List.singleton_append,List.map_cons,List.map_cons]
   exact .cons (.int fun m hm=>by cases hm) ih
 have h2:(X.u8 ▸ (X.u8 ▸ s:List (K 0)):List UInt8)=s:=by
  have:∀ {α β:Type} (h:α=β) (s:List β),(h ▸ (h ▸ s:List α):List β)=s:=by intro α β h s;subst h;rfl
  exact this X.u8 s
 have h3:∀ {α β:Type} (h:α=β) (s:List β),(h ▸ s:List α).length=s.length:=by intro α β h s;subst h;rfl
 refine ⟨h3 X.u8 s,?_⟩
 have:=key (X.u8 ▸ s)
 rw [h2] at this
 exact this
theorem q1q (ok:CfgOk X sz C) (R:Rel X sz C base st fr H w) {inl:ZI K} {o:Oper} {t:TypeId} {x:Operand} {lo hi mx:Option Operand} {id c:Nat} {fx:Bool} {n:Int} {k:PV K->StV K->Prop} (ho:o.op=.slice t x lo hi mx)
  (hop:z6 (qp X tbl inv meas) C st x=some (.mlist id c fx n)) (h:jv (qp X tbl inv meas) C inl o st k) :
  ∃ st' v p w',k p st'/\st'.tmps=st.tmps/\st'.n=st.n/\RelH X sz C base st' H w'/\Le w w'/\Rep X sz w' p v/\z5 C.E o fr H=some (.val v,H):=by
 cases mx with
 | some m=>
  cases lo with
  | some l=>simp only [jv,ho] at h;exact h.elim
  | none=>
   cases hi with
   | none=>simp only [jv,ho] at h;exact h.elim
   | some hx=>
    simp only [jv,ho] at h
    obtain ⟨ti,hti,h1⟩:=qa h
    obtain ⟨p,h2,h3⟩:=qa h1
    obtain ⟨a,ha,h4⟩:=qa h3
    obtain ⟨b,hb,h5⟩:=qa h4
    rw [hop] at h2
    cases h2
    obtain ⟨vx,ex,rx⟩:=qj R hop
    obtain ⟨va,ea,ra⟩:=qj R ha
    obtain ⟨vb,eb,rb⟩:=qj R hb
    split at h5
    .rename_i e _ _ _ _ _ nh _ _ nm hu hp
     cases hp
     cases hcd:qlw C e c with
     | false=>rw [hcd] at h5;exact h5.elim
     | true=>
      rw [hcd] at h5
      obtain ⟨hn1,hn2,hk⟩:=h5
      have hn1:nh=n:=hn1
      have hn2:nm=n:=hn2
      subst hn1;subst hn2
      have hce:C.codec e=some c/\∃ ei,C.E.types e=some ei:=by
       unfold qlw at hcd
       split at hcd
       .rename_i c' ei q1 q2
        rw [<-zE hcd]
        exact ⟨q1,ei,q2⟩
       .cases hcd
      obtain ⟨hc,ei,hei⟩:=hce
      have hsz:=ok.size e c ei hc hei
      refine ⟨_,vx,_,w,hk,rfl,rfl,R.h,.refl w,rx,?_⟩
      have h0:0<=nm:=by cases rx;assumption
      cases rx with
      | mlist hi h0 hz=>
       cases ra;cases rb
       have hb1:((0:Nat):Int)<=nm/\nm<=((nm.toNat:Nat):Int):=⟨h0,by omega⟩
       have hb2:Nat.beq (sz c) (sz c)=true:=Nat.beq_refl _
       simp only [z5,ho,hti,ex,ea,eb,qil,zB,hu,hei,qdc,hsz,zO,V.qdp,qfc,hb2,Bool.not_true,zQ,Option.getD_some,k7,zT hb1,zH,Nat.zero_mul,Nat.add_zero,Nat.sub_zero]
    .exact h5.elim
 | none=>
  simp only [jv,ho] at h
  obtain ⟨ti,hti,hh⟩:=qa h;clear h;have h:=hh;clear hh
  obtain ⟨p,h1,hh⟩:=qa h;clear h;have h:=hh;clear hh
  obtain ⟨nlo,h2,hh⟩:=qa h;clear h;have h:=hh;clear hh
  obtain ⟨nhi,h3,hh⟩:=qa h;clear h;have h:=hh;clear hh
  rw [hop] at h1
  cases h1
  obtain ⟨a,ea,ra⟩:=qj R hop
  obtain ⟨vlo,elo,l1,l2⟩:=qka R h2
  obtain ⟨vhi,ehi,r1,r2⟩:=qka R h3
  unfold q6y at h
  obtain ⟨l,hl,hh⟩:=qa h;clear h;have h:=hh;clear hh
  have hl:=qep hl
  split at h
  .rename_i e hu
   cases hcd:qlw C e c with
   | false=>rw [hcd] at h;exact h.elim
   | true=>
    rw [hcd] at h
    simp only [zO] at h
    obtain ⟨hn,hs,hk⟩:=h
    have hn:n=(l.length:Int):=hn
    have hce:C.codec e=some c/\∃ ei,C.E.types e=some ei:=by
     unfold qlw at hcd
     split at hcd
     .rename_i c' ei q1 q2
      rw [<-zE hcd]
      exact ⟨q1,ei,q2⟩
     .cases hcd
    obtain ⟨hc,ei,hei⟩:=hce
    obtain ⟨w',R',hle,hn',hg',hrep⟩:=qju ok R.h hl (ok.pos e c hc)
    have rl:=hrep none (bif fx then some l.length else none) (fun k hk=>by cases fx<;>simp at hk<;>omega) trivial
    cases ra with
    | mlist hi' h0=>
     have hnn:n.toNat=l.length:=by omega
     rw [hnn] at ea
     obtain ⟨u,hu1,hu2⟩:=q7k rl l1 l2 r1 r2 hs
     refine ⟨_,u,_,w',hk,rfl,rfl,R',hle,hu2,?_⟩
     have hsz:=ok.size e c ei hc hei
     rw [<-hsz] at hu1
     rw [<-hsz] at ea
     simp only [z5,ho,hti,ea,elo,ehi,zB,hu,hei,hu1,zH]
  .exact h.elim
theorem zb4 (ok:CfgOk X sz C) (ok2:CfgOk2 X C) (tok:qge X sz C tbl) (iok:qkm X sz C inl) (R:Rel X sz C base st fr H w) {o:Oper} {l:List Oper} {k:PV K->StV K->Prop} (hd:qn7 o.op=false) (hw:qbm o all fr=some true) (h:jv (qp X tbl inv meas) C inl o st k)
  (next:∀ p st' v H' w',k p st'->st'.tmps=st.tmps->st'.n=st.n->RelH X sz C base st' H' w'->Le w w'->Rep X sz w' p v->WpO C.E nd all l (fr.put o.dst v) H' Q):WpO C.E nd all (o::l) fr H Q:=by
 have hd':qjz o=false:=hd
 by_cases hfz:∃ t x lo hi mx id c fx n,o.op=.slice t x lo hi mx/\z6 (qp X tbl inv meas) C st x=some (.mlist id c fx n)
 .obtain ⟨t,x,lo,hi,mx,id,c,fx,n,ho,hop⟩:=hfz
  obtain ⟨st',v,p,w',h1,h2,h3,h4,h5,h6,h7⟩:=q1q ok R ho hop h
  exact qhm hd' hw h7 (next p st' v H w' h1 h2 h3 h4 h5 h6)
 by_cases hp:qdv o.op=true
 .obtain ⟨p,st',v,w',h1,h2,h3,h4,h5,h6⟩:=qlx ok R hp (fun _ _=>rfl) (fun _ _ _ _=>.inl rfl) (fun t x lo hi mx p ho hop id c fx n he=>hfz ⟨t,x,lo,hi,mx,id,c,fx,n,ho,by rw [hop,he]⟩) h
  exact qhm hd' hw h6 (next p st' v H w' h1 h2.tmps h2.n h3 h4 h5)
 by_cases hn:qlf o.op=true
 .obtain ⟨p,st',v,row,w',h1,h2,h3,h4,h5,h6,h7⟩:=q1r ok R hn h
  exact qhm hd' hw (h7 fr H rfl (fun _ _=>rfl)) (next p st' v _ w' h1 h2 h3 h4 h5 h6)
 cases ho:o.op with
 | load t x=>
  simp only [jv,ho] at h
  obtain ⟨ti,hti,h1⟩:=qa h
  obtain ⟨p,hp',h2⟩:=qa h1
  obtain ⟨v,ev,rv⟩:=qj R hp'
  obtain ⟨q,h3,nm,gn,off,lim,rfl,_,hl,_⟩:=qlb ok R.h rv h2
  obtain ⟨u,hu,ru⟩:=hl H rfl
  obtain ⟨w',hn',R',hle,r'⟩:=qg3 ok R.h ru
  refine qhm hd' hw (v:=u) (H':=H) ?_ (next _ _ u H w' h3 hn'.tmps hn'.n R' hle r')
  simp only [z5,ho,hti,zB,ev,hu,zH]
 | store t a x=>
  simp only [jv,ho] at h
  obtain ⟨ti,hti,h1⟩:=qa h
  obtain ⟨pa,hpa,h2⟩:=qa h1
  obtain ⟨px,hpx,h3⟩:=qa h2
  obtain ⟨va,ea,ra⟩:=qj R hpa
  obtain ⟨vx,ex,rx⟩:=qj R hpx
  obtain ⟨st',id,off,lim,H',w',h4,_,_,_,_,_,_,_,hs,e1,e2,_,R',hle,_⟩:=qo5 ok R.h ra rx h3
  refine qvf hd' hw (H':=H') ?_ (next _ _ kj H' w' h4 e1 e2 R' hle .undef)
  simp only [z5,ho,hti,zB,ea,ex,hs,zH]
 | lookup t m x okb=>
  simp only [jv,ho] at h
  obtain ⟨pm,hpm,h1⟩:=qa h
  obtain ⟨px,hpx,h2⟩:=qa h1
  obtain ⟨vm,em,rm⟩:=qj R hpm
  obtain ⟨vx,ex,rx⟩:=qj R hpx
  obtain ⟨id,p,st',v,w',_,rfl,_,_,_,h3,hn',R',hle,r',hev⟩:=qmp ok R.h rm rx h2
  exact qhm hd' hw (hev o m x fr H ho em ex rfl) (next p st' v H w' h3 hn'.tmps hn'.n R' hle r')
 | mapUpdate t m x y=>
  simp only [jv,ho] at h
  obtain ⟨pm,hpm,h1⟩:=qa h
  obtain ⟨px,hpx,h2⟩:=qa h1
  obtain ⟨py,hpy,h3⟩:=qa h2
  obtain ⟨vm,em,rm⟩:=qj R hpm
  obtain ⟨vx,ex,rx⟩:=qj R hpx
  obtain ⟨vy,ey,ry⟩:=qj R hpy
  obtain ⟨id,st',row,w',_,rfl,_,hb,_,_,h4,e1,e2,R',hle,_,hev⟩:=qi2 ok R.h rm rx ry h3
  exact qvf hd' hw (hev o m x y fr H (.inl ho) em ex ey rfl (by rw [R.h.keeps.ro];exact zR R.h.rob.1 hb)) (next _ _ kj _ w' h4 e1 e2 R' hle .undef)
 | insert t m x y=>
  simp only [jv,ho] at h
  obtain ⟨pm,hpm,h1⟩:=qa h
  obtain ⟨px,hpx,h2⟩:=qa h1
  obtain ⟨py,hpy,h3⟩:=qa h2
  obtain ⟨vm,em,rm⟩:=qj R hpm
  obtain ⟨vx,ex,rx⟩:=qj R hpx
  obtain ⟨vy,ey,ry⟩:=qj R hpy
  obtain ⟨id,st',row,w',_,rfl,_,hb,_,_,h4,e1,e2,R',hle,_,hev⟩:=qi2 ok R.h rm rx ry h3
  exact qvf hd' hw (hev o m x y fr H (.inr ho) em ex ey rfl (by rw [R.h.keeps.ro];exact zR R.h.rob.1 hb)) (next _ _ kj _ w' h4 e1 e2 R' hle .undef)
 | next x b=>
  cases b with
  | false=>simp only [jv,ho] at h;exact h.elim
  | true=>
   simp only [jv,ho] at h
   obtain ⟨pm,hpm,h1⟩:=qa h
   obtain ⟨vm,em,rm⟩:=qj R hpm
   obtain ⟨q,st',v,H',w',h3,e1,e2,R',hle,r',hev⟩:=q2i ok R.h rm h1
   exact qhm hd' hw (hev o x fr ho em) (next q st' v H' w' h3 e1 e2 R' hle r')
 | call c=>
  simp only [jv,ho] at h
  obtain ⟨ps,hps,h1⟩:=qa h
  obtain ⟨vs,ev,rv⟩:=qb3 R hps
  split at h1
  .rename_i f hf
   obtain ⟨pf,hpf,h2⟩:=qa h1
   obtain ⟨vf,ef,rf⟩:=qj R hpf
   obtain ⟨g,us,hc,hcall⟩:=qq1 ok ok2 tok iok R.h rf rv h2
   refine zem hd' hw (t:=g) (args:=us) (H1:=H) ?_ (hcall.mono fun v H' hA=>?_)
   .simp only [z5,ho,hf,ef,ev,zB,hc,zH]
   .obtain ⟨p,st',w',a1,a2,a3,a4,a5,a6⟩:=hA
    exact next p st' v H' w' a1 a2 a3 a4 a5 a6
  .rename_i b hf
   have hnp:qdv o.op=false:=by simpa using hp
   simp only [qdv,ho,hf] at hnp
   unfold qhy at h1
   split at h1
   .simp at hnp
   .rename_i s x t u hats
    obtain ⟨vs1,vs',rfl,r1,r2⟩:=rv.zw
    obtain ⟨vx,vs'',rfl,r3,r4⟩:=r2.zw
    have:=r4.z8;subst this
    split at h1
    .rename_i ti ui hti hui
     split at h1
     .rename_i e e' hu1 hu2
      split at h1
      .rename_i c' ei hc hei
       cases hb:(Nat.ble ei.bytes 1024&&!Nat.beq ei.size 0) with
       | false=>rw [hb] at h1;exact absurd h1 id
       | true=>
        rw [hb] at h1
        simp only [zO] at h1
        simp only [zA,Nat.ble_eq] at hb
        split at h1
        .rename_i l' hl
         have rl:=qdh r3 hl
         have hsz:=ok.size e c' ei hc hei
         obtain ⟨items,hel,hit⟩:=qc3 ok.len R.h.g rl (ok.pos e c' hc)
         rw [<-hsz] at hel
         obtain ⟨p,st',v,H',w',a1,a2,a3,a4,a5,a6,a7⟩:=qdg ok R.h hc hei hb.1 r1 hel hit h1
         refine qhm hd' hw (v:=v) (H':=H') ?_ (next p st' v H' w' a1 a2 a3 a5 a6 a7)
         simp only [z5,ho,hf,ev,zB,qaz,hats,hti,hui,hu1,hu2,hei,a4,zH]
        .exact absurd h1 id
      .rename_i ei hc hei
       split at h1
       .rename_i es n cs es' m fx cs'
        cases hb:(Nat.beq es es'&&Nat.beq es ei.size&&Nat.blt 0 m&&Nat.ble ei.bytes 1024&&Nat.ble (n+m) 100000&&cs'.all ja) with
        | false=>rw [hb] at h1;exact h1.elim
        | true=>
         rw [hb] at h1
         simp only [zA,Nat.ble_eq] at hb
         obtain ⟨⟨⟨⟨⟨b1,b2⟩,b3⟩,b4⟩,b5⟩,b6⟩:=hb
         have b1:=zE b1
         have b2:=zE b2
         subst b1;subst b2
         obtain ⟨v,H',w',a4,a5,a6,a7⟩:=qun (e:=e) ok R.h b4 r1 r3 (Nat.le_of_ble_eq_true b3) b5 b6
         refine qhm hd' hw (v:=v) (H':=H') ?_ (next _ _ v H' w' h1 rfl rfl a5 a6 a7)
         simp only [z5,ho,hf,ev,zB,qaz,hats,hti,hui,hu1,hu2,hei,a4,zH]
       .exact h1.elim
      .exact absurd h1 id
     .rename_i e hu1 hu2
      split at h1
      .rename_i ei y hc hei
       cases hb:(Nat.ble ei.bytes 1024&&Nat.beq ei.size 1) with
       | false=>rw [hb] at h1;exact absurd h1 id
       | true=>
        rw [hb] at h1
        simp only [zO] at h1
        simp only [zA,Nat.ble_eq] at hb
        cases r3
        have hs1:=zE hb.2
        obtain ⟨hlen,hit⟩:=qx2 (w:=w) ok y
        have hel:zv H ei.size (.str y)=some ((X.u8 ▸ y:List (K 0)).length,y.map fun b=>V.int .u8 b.toNat):=by rw [hs1,qti,hlen]
        obtain ⟨p,st',v,H',w',a1,a2,a3,a4,a5,a6,a7⟩:=qdg ok R.h hc hei hb.1 r1 hel hit h1
        refine qhm hd' hw (v:=v) (H':=H') ?_ (next p st' v H' w' a1 a2 a3 a5 a6 a7)
        simp only [z5,ho,hf,ev,zB,qaz,hats,hti,hui,hu1,hu2,hei,a4,zH]
      .exact absurd h1 id
     .exact absurd h1 id
    .exact absurd h1 id
   .simp at hnp
   .simp at hnp
   .exact absurd h1 id
  .exact absurd h1 id
 | _=>first
  | (simp [qdv,ho] at hp;done)
  | (simp [qlf,ho] at hn;done)
  | (simp only [jv,ho] at h;exact absurd h id)
theorem qlt (ok:CfgOk X sz C) (ok2:CfgOk2 X C) (tok:qge X sz C tbl) (iok:qkm X sz C inl):∀ {l:List Oper} {st:StV K} {fr:Fr} {H:Heap} {w:Wd} {k:StV K->Prop},Rel X sz C base st fr H w->wpOps (qp X tbl inv meas) C inl all l st k->
  WpO C.E nd all l fr H fun ex fr' H'=>ex=.normal/\∃ st' w',k st'/\Rel X sz C base st' fr' H' w'/\Le w w'
 | [],st,fr,H,w,k,R,h=>zhv ⟨rfl,st,w,h,R,.refl w⟩
 | o::l,st,fr,H,w,k,R,h=>by
  simp only [wpOps] at h
  cases hd:qn7 o.op with
  | true=>rw [hd] at h;exact h.elim
  | false=>
   rw [hd] at h
   simp only [zQ] at h
   obtain ⟨b,st1,hw,h1,hn,hnx,R1⟩:=qrv R h
   have R1':Rel X sz C base st1 fr H w:=R.step ok hn.tmps hn.n R1 (.refl w)
   cases b with
   | true=>
    simp only [zO] at h1
    refine zb4 ok ok2 tok iok R1' hd hw h1 fun p st' v H' w' hk ht hn' hh hle hr=>?_
    have R2:=((R1'.step ok ht hn' hh hle).put (dst:=o.dst) hr)
    exact (qlt ok ok2 tok iok R2 hk).mono fun ex fr' H'' hA=>by
     obtain ⟨e,st'',w'',a1,a2,a3⟩:=hA
     exact ⟨e,st'',w'',a1,a2,hle.trans a3⟩
   | false=>
    simp only [zQ] at h1
    exact zhw hd hw (qlt ok ok2 tok iok (R1'.put (dst:=o.dst) .undef) h1)
end
end Go.E3
/- E3: REGIONS that draw their order: footprints. -/
namespace Go.E3
open Go Go.E2
variable {K:Nat->Type}
section
variable {X:Codecs K} {sz:Nat->Nat} {C:ZC K} {base H:Heap} {st:StV K} {fr:Fr} {w:Wd}
variable {tbl:Tbl K} {inv:Nat->List (NV K)->Prop} {meas:Nat->List (NV K)->Nat} {inl:ZI K}
variable {nd:Bool} {all:Array Oper} {Q:Ex->Fr->Heap->Prop} {b:Array Nat} {i:Nat}
theorem RelH.congr (R:RelH X sz C base st H w) {J:Heap} (h1:∀ n,J.get n=H.get n) (h2:J.next=H.next) (h3:J.ro=H.ro) (h4:J.qt=H.qt):RelH X sz C base st J w:=by
 have hg:J.get=H.get:=funext h1
 exact ⟨fun n hn=>by rw [h1];exact R.wf n (by omega),R.rob,R.g.trans hg.symm,R.nx.trans h2.symm,R.b,fun n hn=>by rw [h2];exact R.Mlt n hn,R.n,R.one,
  ⟨by rw [h2];exact R.keeps.next,by rw [h3];exact R.keeps.ro,by rw [h4];exact R.keeps.qt,fun nm hn=>by rw [h1];exact R.keeps.old nm hn⟩,
  fun id h=>by rw [h2];exact R.cl id h,R.cinj,fun id ps h=>by rw [h1];exact R.cells id ps h,R.owns,R.ownn,fun i s nm h hn=>by rw [h2];exact R.eta i s nm h hn,R.einj,R.ce,R.known,R.globs⟩
theorem qo6 {E:Env} {o:Oper} (h:kz E o.op=false) (hp:qdv o.op=true∨qlf o.op=true):∀ x ∈ o.op.operands.toList,∀ g,x≠.global g:=by
 have key:∀ l:List Operand,(l.any fun x=>match x with | .global _=>true | _=>false)=false->∀ x ∈ l,∀ g,x≠.global g:=by
  intro l hl x hx g he
  subst he
  rw [<-Bool.not_eq_true,List.any_eq_true] at hl
  exact hl ⟨_,hx,rfl⟩
 cases ho:o.op with
 | load=>simp [kz,ho] at h
 | store=>simp [kz,ho] at h
 | lookup=>simp [kz,ho] at h
 | mapUpdate=>simp [kz,ho] at h
 | insert=>simp [kz,ho] at h
 | next=>simp [kz,ho] at h
 | convert=>simp [kz,ho] at h
 | slice t x lo hi mx=>
  rw [ho] at h
  simp only [kz,Bool.or_eq_false_iff] at h
  refine key _ ?_
  rw [<-Array.any_toList] at h
  exact h.2
 | call c=>
  rw [ho] at h hp
  have hargs:(c.args.any fun x=>match x with | .global _=>true | _=>false)=false/\∃ bi,c.callee=.builtin bi:=by
   simp only [qdv,qlf,Bool.false_eq_true,or_false] at hp
   simp only [kz] at h
   split at hp
   .rename_i hc
    simp only [hc] at h
    refine ⟨?_,_,hc⟩
    split at h
    .split at h
     .cases h
     .cases h
     .exact h
    .cases h
   .rename_i hc
    simp only [hc] at h
    exact ⟨h,_,hc⟩
   .rename_i hc
    simp only [hc] at h
    exact ⟨h,_,hc⟩
   .cases hp
  obtain ⟨h1,bi,h2⟩:=hargs
  have e:(Op.call c).operands.toList=c.args.toList:=by
   simp only [Op.operands,Call.operands,h2]
   simp
  rw [e]
  refine key _ ?_
  rw [<-Array.any_toList] at h1
  exact h1
 | _=>
  first
   | (simp [ho,qdv,qlf] at hp;done)
   | (rw [ho] at h
      refine key _ ?_
      simp only [kz] at h
      rw [<-Array.any_toList] at h
      exact h)
theorem qeh {o:Oper} {H':Heap} {x:Operand} (hx:x ∈ o.op.operands.toList) (hg:∀ g,x≠.global g):opd {fr with tmps:=zx fr.tmps (o.looksAt all) .nil} H' x=opd fr H x:=by
 cases x with
 | tmp t=>
  simp only [opd]
  refine qfz ?_
  simp only [Oper.looksAt,List.mem_append,List.mem_filterMap]
  exact .inl ⟨_,hx,rfl⟩
 | const v=>rfl
 | global g=>exact absurd rfl (hg g)
 | func f=>rfl
def qmh (B:Nat) (done:List Done) (n:Nat):Src->Prop
 | .any=>True
 | .calm=>n<B
 | .own j=>∃ d ∈ done,d.i=j/\d.lo<=n/\n<d.hi
theorem qmh.more {B n:Nat} {done done':List Done} (h:∀ d ∈ done,d ∈ done') {s:Src} (hs:qmh B done n s):qmh B done' n s:=by
 cases s with
 | any=>trivial
 | calm=>exact hs
 | own j=>obtain ⟨d,h1,h2⟩:=hs;exact ⟨d,h d h1,h2⟩
def Still (w:Wd) (n:Nat):Prop:=¬ w.M n/\∃ cs e gen floor frz ex,w.g n=some (.row cs e gen floor frz ex)
def fpR (B:Nat) (done:List Done) (lo:Nat) (w:Wd):FP3->FP->Prop
 | .none,fp=>fp=.none
 | .read id,fp=>fp=.reads [w.c id]/\w.cl id
 | .write id,fp=>fp=.writes [w.c id]/\w.cl id
 | .stable ss,fp=>∃ l,fp=.reads l/\∀ n ∈ l,Still w n/\∃ s ∈ ss,qmh B done n s
 | .call _,fp=>fp=.call
 | .lone,fp=>fp=.lone∨∃ l,(fp=.writes l∨fp=.reads l)/\∀ n ∈ l,n<lo
theorem Still.mono {w w':Wd} (h:Le w w') {n:Nat} (hs:Still w n):Still w' n:=by
 obtain ⟨hM,cs,e,gen,floor,frz,ex,hg⟩:=hs
 obtain ⟨hM',cs2,gen',frz',ex',hg'⟩:=h.mem n cs e gen floor frz ex hg hM
 exact ⟨hM',_,_,_,_,_,_,hg'⟩
structure DR (B:Nat) (all:List Done) (w:Wd) (d3:Done3) (d:Done):Prop where
 i:d.i=d3.i
 lo:B<=d.lo
 le:d.lo<=d.hi
 no:d3.makes=false->d.hi=d.lo
 fp:fpR B all d.lo w d3.fp d.fp
theorem fpR.mono {B lo:Nat} {done done':List Done} {w w':Wd} (h:Le w w') (hd:∀ d ∈ done,d ∈ done') (hcl:∀ id,w.cl id->id<w.n) {f:FP3} {fp:FP} (hf:fpR B done lo w f fp):fpR B done' lo w' f fp:=by
 cases f with
 | none=>exact hf
 | read id=>
  obtain ⟨h1,h2⟩:=hf
  exact ⟨by rw [h.c id (hcl id h2)];exact h1,(h.cl id (hcl id h2)).2 h2⟩
 | write id=>
  obtain ⟨h1,h2⟩:=hf
  exact ⟨by rw [h.c id (hcl id h2)];exact h1,(h.cl id (hcl id h2)).2 h2⟩
 | stable ss=>
  obtain ⟨l,h1,h2⟩:=hf
  refine ⟨l,h1,fun n hn=>?_⟩
  obtain ⟨h3,s,hs,hsn⟩:=h2 n hn
  exact ⟨h3.mono h,s,hs,hsn.more hd⟩
 | call=>exact hf
 | lone=>exact hf
inductive DRs (B:Nat) (all:List Done) (w:Wd):List Done3->List Done->Prop
 | nil:DRs B all w [] []
 | cons {d3:Done3} {d:Done} {l3:List Done3} {l:List Done} (h:DR B all w d3 d) (hs:∀ d' ∈ l,d'.hi<=d.lo/\d'.i<d.i) (h':DRs B all w l3 l):DRs B all w (d3::l3) (d::l)
theorem DRs.mono {B:Nat} {all all':List Done} {w w':Wd} (h:Le w w') (ha:∀ d ∈ all,d ∈ all') (hcl:∀ id,w.cl id->id<w.n) {l3:List Done3} {l:List Done} (hd:DRs B all w l3 l):DRs B all' w' l3 l:=by
 induction hd with
 | nil=>exact .nil
 | cons h1 h2 _ ih=>exact .cons ⟨h1.i,h1.lo,h1.le,h1.no,h1.fp.mono h ha hcl⟩ h2 ih
theorem DRs.free {B:Nat} {all:List Done} {l3:List Done3} {l:List Done} (hd:DRs B all w l3 l) {P:Done3->Prop} (hp:∀ d ∈ l3.filter (fun d=>!(b.getD i 0).testBit d.i),P d):∀ d ∈ zk b i l,∃ d3,DR B all w d3 d/\P d3:=by
 unfold zk
 induction hd with
 | nil=>intro d hd;simp at hd
 | @cons a3 a l3 l h1 _ _ ih=>
  intro d hd'
  rw [List.filter_cons] at hd' hp
  rw [h1.i] at hd'
  by_cases hb:(!(b.getD i 0).testBit a3.i)=true
  .rw [zT hb] at hd' hp
   rcases zD.1 hd' with rfl | hd'
   .exact ⟨a3,h1,hp a3 zC⟩
   .exact ih (fun d hd=>hp d (zG _ hd)) d hd'
  .rw [zF hb] at hd' hp
   exact ih hp d hd'
theorem DRs.sorted {B:Nat} {all:List Done} {l3:List Done3} {l:List Done} (hd:DRs B all w l3 l):∀ d ∈ l,∀ d' ∈ l,d.i<d'.i->d.hi<=d'.lo:=by
 induction hd with
 | nil=>intro d hd;cases hd
 | @cons a3 a l3 l h1 h2 _ ih=>
  intro d hd d' hd' hlt
  rcases zD.1 hd with rfl | hda<;>rcases zD.1 hd' with rfl | hdb
  .omega
  .have:=(h2 d' hdb).2;omega
  .exact (h2 d hda).1
  .exact ih d hda d' hdb hlt
theorem DRs.same {B:Nat} {all:List Done} {l3:List Done3} {l:List Done} (hd:DRs B all w l3 l):∀ d ∈ l,∀ d' ∈ l,d.i=d'.i->d=d':=by
 induction hd with
 | nil=>intro d hd;cases hd
 | @cons a3 a l3 l h1 h2 _ ih=>
  intro d hd d' hd' he
  rcases zD.1 hd with rfl | hda<;>rcases zD.1 hd' with rfl | hdb
  .rfl
  .have:=(h2 d' hdb).2;omega
  .have:=(h2 d hda).2;omega
  .exact ih d hda d' hdb he
theorem qtz {l:List Done} {d:Done} (h:d ∈ zk b i l):d ∈ l:=(List.mem_filter.1 h).1
theorem qc9 {B old lo:Nat} (R:RelH X sz C base st H w) {l3:List Done3} {l:List Done} (hd:DRs B l w l3 l) {f:FP3} {fp:FP} (hlv:∀ d ∈ l3,∀ id,d.fp=.write id->w.M (w.c id)) (hlf:∀ id,f=.write id->w.M (w.c id)) (hf:fpR B l lo w f fp)
  (ha:(l3.filter fun d=>!(b.getD i 0).testBit d.i).all (fun d=>qhx old d f)=true) {dels:List Nat}:((zk b i l).any fun d=>qa7 d dels fp)=false:=by
 rw [<-Bool.not_eq_true,List.any_eq_true]
 rintro ⟨d,hdm,hc⟩
 obtain ⟨⟨j,g,mk⟩,hdr,hap,hin⟩:=hd.free (P:=fun d=>qhx old d f=true/\d ∈ l3) (fun d hd=>⟨List.all_eq_true.1 ha d hd,(List.mem_filter.1 hd).1⟩) d hdm
 have hdl:=qtz hdm
 have hg:=hdr.fp
 have hlg:=hlv _ hin
 have hle:=hdr.le
 have hdi:=hdr.i
 simp only at hg hdi
 simp only [qhx,zA] at hap
 obtain ⟨hap,_⟩:=hap
 have srt:=hd.sorted d hdl
 have hnone:qa7 d dels .none=false:=qtc
 obtain ⟨di,dfp,dlo,dhi,dd⟩:=d
 simp only at hg hdi hle srt
 cases g with
 | none=>simp only [fpR] at hg;subst hg;simp [qa7] at hc
 | read i1=>
  obtain ⟨rfl,c1⟩:=hg
  cases f with
  | none=>simp only [fpR] at hf;rw [hf,hnone] at hc;cases hc
  | read i2=>obtain ⟨rfl,_⟩:=hf;simp [qa7] at hc
  | stable=>obtain ⟨l2,rfl,_⟩:=hf;simp [qa7] at hc
  | call=>simp only [fpR] at hf;subst hf;simp [qa7] at hc
  | write i2=>
   obtain ⟨rfl,c2⟩:=hf
   simp only [goes,Bool.not_eq_true',<-Bool.not_eq_true,Nat.beq_eq] at hap
   simp only [qa7,List.any_cons,List.any_nil,Bool.or_false,Nat.beq_eq] at hc
   exact hap (R.cinj _ _ c1 c2 hc.symm)
  | lone=>simp [goes] at hap
 | write i1=>
  obtain ⟨rfl,c1⟩:=hg
  cases f with
  | none=>simp only [fpR] at hf;rw [hf,hnone] at hc;cases hc
  | read i2=>
   obtain ⟨rfl,c2⟩:=hf
   simp only [goes,Bool.not_eq_true',<-Bool.not_eq_true,Nat.beq_eq] at hap
   simp only [qa7,List.any_cons,List.any_nil,Bool.or_false,Nat.beq_eq] at hc
   exact hap (R.cinj _ _ c1 c2 hc)
  | stable=>
   obtain ⟨l2,rfl,c2⟩:=hf
   simp only [qa7,List.any_cons,List.any_nil,Bool.or_false,List.any_eq_true] at hc
   obtain ⟨n,hn,hb⟩:=hc
   have:=zE hb
   subst this
   exact (c2 _ hn).1.1 (hlg _ rfl)
  | call=>simp [goes] at hap
  | write i2=>
   obtain ⟨rfl,c2⟩:=hf
   simp only [goes,Bool.not_eq_true',<-Bool.not_eq_true,Nat.beq_eq] at hap
   simp only [qa7,List.any_cons,List.any_nil,Bool.or_false,Nat.beq_eq] at hc
   exact hap (R.cinj _ _ c1 c2 hc)
  | lone=>simp [goes] at hap
 | stable=>
  obtain ⟨l1,rfl,c1⟩:=hg
  cases f with
  | none=>simp only [fpR] at hf;rw [hf,hnone] at hc;cases hc
  | read i2=>obtain ⟨rfl,_⟩:=hf;simp [qa7] at hc
  | stable=>obtain ⟨l2,rfl,_⟩:=hf;simp [qa7] at hc
  | call=>simp only [fpR] at hf;subst hf;simp [qa7] at hc
  | write i2=>
   obtain ⟨rfl,c2⟩:=hf
   simp only [qa7,List.any_cons,List.any_nil,Bool.or_false,List.any_eq_true] at hc
   obtain ⟨n,hn,hb⟩:=hc
   have:=zE hb
   subst this
   exact (c1 _ hn).1.1 (hlf _ rfl)
  | lone=>simp [goes] at hap
 | call=>
  simp only [fpR] at hg
  subst hg
  cases f with
  | none=>simp only [fpR] at hf;rw [hf,hnone] at hc;cases hc
  | read i2=>obtain ⟨rfl,_⟩:=hf;simp [qa7] at hc
  | stable=>obtain ⟨l2,rfl,_⟩:=hf;simp [qa7] at hc
  | call=>simp only [fpR] at hf;subst hf;simp [qa7] at hc
  | write i2=>simp [goes] at hap
  | lone=>simp [goes] at hap
 | lone=>
  cases f with
  | none=>simp only [fpR] at hf;rw [hf,hnone] at hc;cases hc
  | stable ss=>
   obtain ⟨l2,rfl,c2⟩:=hf
   simp only [goes,List.all_eq_true] at hap
   have late:∀ n ∈ l2,dlo<=n:=by
    intro n hn
    obtain ⟨_,s,hs,hsn⟩:=c2 n hn
    have h1:=hap s hs
    cases s with
    | own j'=>
     simp only [Nat.blt_eq] at h1
     obtain ⟨d',hd',e1,e2,e3⟩:=hsn
     have:=srt d' hd' (by rw [e1];omega)
     omega
    | _=>simp at h1
   rcases hg with rfl | ⟨l1,rfl | rfl,hl1⟩
   .simp only [qa7,List.any_eq_true,zA,Nat.blt_eq] at hc
    obtain ⟨n,hn,hb,_⟩:=hc
    have:=late n hn
    omega
   .simp only [qa7,List.any_eq_true] at hc
    obtain ⟨n,hn,m,hm,hb⟩:=hc
    have:=zE hb
    subst this
    have h1:=late _ hm
    have h2:=hl1 _ hn
    omega
   .simp [qa7] at hc
  | _=>simp [goes] at hap
theorem qhc {B old nm:Nat} {l3:List Done3} {l:List Done} (hd:DRs B l w l3 l) {f:FP3} (ha:(l3.filter fun d=>!(b.getD i 0).testBit d.i).all (fun d=>qhx old d f)=true)
  (hf:(∃ j,(f=.read j∨f=.write j)/\(j<old->nm<B))∨(∃ ss,f=.stable ss/\∃ s ∈ ss,qmh B l nm s)∨f=.lone∨f=.call false):nm ∉ (zk b i l).flatMap Done.names:=by
 intro hm
 obtain ⟨d,hdm,hn⟩:=List.mem_flatMap.1 hm
 obtain ⟨⟨j,g,mk⟩,hdr,hap⟩:=hd.free (fun d hd=>List.all_eq_true.1 ha d hd) d hdm
 simp only [qhx,zA] at hap
 obtain ⟨_,hap⟩:=hap
 have hr:=List.mem_range'_1.1 hn
 have hdi:=hdr.i
 simp only at hdi
 cases mk with
 | false=>
  have:=hdr.no rfl
  omega
 | true=>
  simp only [Bool.not_true,Bool.false_or] at hap
  rcases hf with ⟨j',hj,hlt⟩ | ⟨ss,rfl,s,hs,hsn⟩ | rfl | rfl
  .have:j'<old:=by
    rcases hj with rfl | rfl<;>simpa [fits,Nat.blt_eq] using hap
   have:=hlt this
   have:=hdr.lo
   omega
  .simp only [fits,List.all_eq_true] at hap
   have h1:=hap s hs
   cases s with
   | any=>simp at h1
   | calm=>have:=hdr.lo;simp only [qmh] at hsn;omega
   | own j'=>
    simp only [Bool.not_eq_true',<-Bool.not_eq_true,Nat.beq_eq] at h1
    obtain ⟨d',hd',e1,e2,e3⟩:=hsn
    have s1:=hd.sorted d (qtz hdm) d' hd'
    have s2:=hd.sorted d' hd' d (qtz hdm)
    omega
  .simp [fits] at hap
  .simp [fits] at hap
theorem qli {B nm:Nat} {all:List Done} {l3:List Done3} {l:List Done} (hd:DRs B all w l3 l) (h:nm<B):nm ∉ (zk b i l).flatMap Done.names:=by
 intro hm
 obtain ⟨d,hdm,hn⟩:=List.mem_flatMap.1 hm
 obtain ⟨⟨j,g,mk⟩,hdr,_⟩:=hd.free (P:=fun _=>True) (fun _ _=>trivial) d hdm
 have hr:=List.mem_range'_1.1 hn
 have:=hdr.lo
 omega
theorem qoa {B old:Nat} {l3:List Done3} {l:List Done} (hd:DRs B l w l3 l) {f:FP3} (ha:(l3.filter fun d=>!(b.getD i 0).testBit d.i).all (fun d=>qhx old d f)=true) (hf:f=.lone∨f=.call false):(zk b i l).flatMap Done.names=[]:=by
 rw [List.eq_nil_iff_forall_not_mem]
 intro nm
 exact qhc hd ha (.inr (.inr hf))
end
end Go.E3
/- E3: REGIONS that draw their order. -/
namespace Go.E3
open Go Go.E2
variable {K:Nat->Type}
section
variable {E:Env} {all:Array Oper} {fr:Fr} {H:Heap} {Q:Ex->Fr->Heap->Prop} {b:Array Nat} {i:Nat} {l:List Oper} {done:List Done} {o:Oper}
theorem q3l {fp:FP} {t:Tgt} {args:List V} {K0:Heap} (hw:qbm o all fr=some true) (hfp:qg2 E o fr=.call) (hfp':fp=bif qp7 E all b i then .lone else .call) (hcl:((zk b i done).any fun d=>qa7 d ((zk b i done).flatMap Done.names) fp)=false)
  (hev:z5 E o {fr with tmps:=zx fr.tmps (o.looksAt all) .nil} (zp H fp ((zk b i done).flatMap Done.names))=some (.call t args,K0))
  (hc:qcc E t args K0 fun v K1=>H.next<=K1.next/\WpD E all b (i+1) l (⟨i,fp,H.next,K1.next,(zk b i done).flatMap Done.names⟩::done) (fr.put o.dst v) (qbl H K1 fp ((zk b i done).flatMap Done.names)) Q):WpD E all b i (o::l) done fr H Q:=by
 obtain ⟨v,K1,⟨k1,hr⟩,hlt,⟨x,⟨k0,h1⟩,h2⟩⟩:=hc
 refine ⟨x,⟨max k0 k1,fun k hk=>?_⟩,h2⟩
 have hb:Nat.blt K1.next H.next=false:=by
  rw [<-Bool.not_eq_true,Nat.blt_eq]
  omega
 have hro:qdx E (jn E k) all o {fr with tmps:=zx fr.tmps (o.looksAt all) .nil} (zp H fp ((zk b i done).flatMap Done.names))=some (.ret v,K1):=by
  simp only [qdx,qnr,hw,hev,hr k (by omega)]
 have h1':=h1 k (by omega)
 subst hfp'
 simp only [zk] at h1' hcl hro
 simp only [qbo,hw,zB,zO,hfp,hcl,zQ,hro,hb]
 exact h1'
theorem qg0 {H H1:Heap} {sz:Nat} {x:V} (hs:∀ n ∈ x.nm,H1.get n=H.get n):zv H1 sz x=zv H sz x:=by
 cases x with
 | slice nm g off len sz' cap=>
  have:=hs nm (by simp [V.nm])
  unfold zv
  rcases V.qda (nm:=nm) (g:=g) (off:=off) (len:=len) (z:=sz') (sz:=sz) (cap:=cap) with e | ⟨_,e⟩<;>rw [e]<;>simp only [qa2,j6,this]
 | _=>rfl
theorem qqr {H H1 H':Heap} {vs:List V} {nm g off lim:Nat} (hro:H1.ro=H.ro) (hs:H1.get nm=H.get nm) (h:jg H vs (.ptr nm g off lim)=some H'):∃ row,H.get nm≠none/\jg H1 vs (.ptr nm g off lim)=some (H1.put nm row)/\H'=H.put nm row:=by
 simp only [jg,hs] at h ⊢
 split at h
 .rename_i cells elem gen floor frz ex hg
  cases hb:(Nat.beq g gen&&Nat.ble (off+vs.length) lim&&Nat.ble lim cells.length&&Nat.ble frz off&&vs.all V.jd) with
  | false=>rw [hb] at h;cases h
  | true=>
   rw [hb] at h
   simp only [zO] at h
   obtain ⟨u1,rfl⟩:=qfg h
   refine ⟨_,by rw [hg];simp,?_,rfl⟩
   simp only [zO]
   exact qa9 (by rw [hro];exact u1)
 .cases h
theorem qsx {H H1 H':Heap} {e sz by_:Nat} {s x v:V} (hn:H1.next=H.next) (hro:H1.ro=H.ro) (hs:∀ n,n ∈ s.nm∨n ∈ x.nm->H1.get n=H.get n) (h:jm H e sz by_ s x=some (v,H')) :
  ∃ K',jm H1 e sz by_ s x=some (v,K')/\((K'=H1/\H'=H)∨(∃ row,K'=H1.new row/\H'=H.new row)∨(∃ nm row,nm ∈ s.nm/\H.get nm≠none/\K'=H1.put nm row/\H'=H.put nm row)):=by
 have ex:zv H1 sz x=zv H sz x:=qg0 fun n h=>hs n (.inr h)
 have es:zv H1 sz s=zv H sz s:=qg0 fun n h=>hs n (.inl h)
 unfold jm at h ⊢
 rw [ex,es,hn]
 obtain ⟨⟨n,items⟩,hx,h⟩:=zI.1 h
 rw [hx]
 simp only [zB]
 cases s with
 | nils=>
  simp only at h ⊢
  cases hb:Nat.beq n 0 with
  | true=>
   rw [hb] at h
   simp only [zO,zS,zP] at h
   obtain ⟨rfl,rfl⟩:=h
   exact ⟨H1,rfl,.inl ⟨rfl,rfl⟩⟩
  | false=>
   rw [hb] at h
   simp only [zQ] at h ⊢
   cases hr:(Nat.ble (n * by_) room&&Nat.ble n room) with
   | false=>rw [hr] at h;cases h
   | true=>
    rw [hr] at h
    simp only [zO,zS,zP] at h
    obtain ⟨rfl,rfl⟩:=h
    exact ⟨_,rfl,.inr (.inl ⟨_,rfl,rfl⟩)⟩
 | slice nm g off len sz' cap=>
  have hnm:=hs nm (.inl (by simp [V.nm]))
  simp only [hnm] at h ⊢
  cases h1:(!Nat.beq sz sz') with
  | true=>rw [h1] at h;cases h
  | false=>
   rw [h1] at h
   simp only [zQ] at h ⊢
   cases hb:Nat.beq n 0 with
   | true=>
    rw [hb] at h
    simp only [zO,zS,zP] at h
    obtain ⟨rfl,rfl⟩:=h
    exact ⟨H1,rfl,.inl ⟨rfl,rfl⟩⟩
   | false=>
    rw [hb] at h
    simp only [zQ] at h ⊢
    cases h2:(!(Nat.ble ((len+n) * by_) room&&Nat.ble (len+n) room)) with
    | true=>rw [h2] at h;cases h
    | false=>
     rw [h2] at h
     simp only [zQ] at h ⊢
     cases h3:(!items.all V.jd) with
     | true=>rw [h3] at h;cases h
     | false=>
      rw [h3] at h
      simp only [zQ] at h ⊢
      split at h
      .rename_i cells e' gen floor frz exx hg
       cases cap with
       | some c=>
        simp only at h ⊢
        cases h4:Nat.ble (len+n) c with
        | true=>
         rw [h4] at h
         simp only [zO] at h ⊢
         obtain ⟨H2,hw,hv⟩:=zM.1 h
         cases hv
         obtain ⟨row,hne,hw1,rfl⟩:=qqr hro hnm hw
         exact ⟨_,by rw [hw1];rfl,.inr (.inr ⟨nm,row,by simp [V.nm],hne,rfl,rfl⟩)⟩
        | false=>
         rw [h4] at h
         simp only [zQ] at h ⊢
         obtain ⟨⟨n2,old⟩,hw,hv⟩:=zM.1 h
         cases hv
         exact ⟨_,by rw [hw];rfl,.inr (.inl ⟨_,rfl,rfl⟩)⟩
       | none=>
        simp only at h ⊢
        cases h4:(Nat.beq g gen&&Nat.beq (off+len * sz) cells.length&&Nat.ble frz cells.length&&Nat.ble floor gen&&!Nat.beq sz 0&&Nat.beq e' e) with
        | false=>rw [h4] at h;cases h
        | true=>
         rw [h4] at h
         simp only [zO] at h ⊢
         obtain ⟨H2,hu,hv⟩:=zM.1 h
         cases hv
         obtain ⟨u1,rfl⟩:=qfg hu
         rw [qa9 (by rw [hro];exact u1)]
         exact ⟨_,rfl,.inr (.inr ⟨nm,_,by simp [V.nm],by rw [hg];simp,rfl,rfl⟩)⟩
      .cases h
 | _=>simp only at h;cases h
theorem qvj {H H1 H':Heap} {e sz by_:Nat} {s x v:V} (hn:H1.next=H.next) (hro:H1.ro=H.ro) (hs:∀ n,n ∈ s.nm∨n ∈ x.nm->H1.get n=H.get n) (h:jl H e sz by_ s x=some (v,H')) :
  ∃ K',jl H1 e sz by_ s x=some (v,K')/\((K'=H1/\H'=H)∨(∃ row,K'=H1.new row/\H'=H.new row)∨(∃ nm row,nm ∈ s.nm/\H.get nm≠none/\K'=H1.put nm row/\H'=H.put nm row)):=by
 have:=qsx hn hro (s:=s.qbx sz) (by rw [V.qzt];exact hs) h
 rw [V.qzt] at this
 exact this
def q13 (m:Nat):V->Bool
 | .nils=>true
 | .slice _ _ _ len _ (some c)=>Nat.beq m 0 || !Nat.ble (len+m) c
 | _=>false
theorem qvi {H H1 H':Heap} {e sz by_:Nat} {s x v:V} (hn:H1.next=H.next) (hs:∀ n,n ∈ s.nm∨n ∈ x.nm->H1.get n=H.get n)
  (hgr:s=.nils∨∃ nm g off len sz' c n,s=.slice nm g off len sz' (some c)/\x.many=some n/\(Nat.beq n 0 || !Nat.ble (len+n) c)=true) (h:jm H e sz by_ s x=some (v,H')) :
  ∃ K',jm H1 e sz by_ s x=some (v,K')/\((K'=H1/\H'=H)∨(∃ row,K'=H1.new row/\H'=H.new row)):=by
 have ex:zv H1 sz x=zv H sz x:=qg0 fun n h=>hs n (.inr h)
 have es:zv H1 sz s=zv H sz s:=qg0 fun n h=>hs n (.inl h)
 have hmany:∀ n items m,zv H sz x=some (n,items)->x.many=some m->n=m:=by
  intro n items m h1 h2
  cases x with
  | nils=>
   simp only [zv,V.qbx,qa2,zS,zP] at h1
   simp only [V.many,zS] at h2
   omega
  | slice nm g off len sz' cap=>
   simp only [V.many,zS] at h2
   have:=qm5 h1
   omega
  | str s=>
   simp only [V.many,zS] at h2
   simp only [zv,V.qbx,qa2] at h1
   cases hb:Nat.beq sz 1 with
   | false=>rw [hb] at h1;cases h1
   | true=>
    rw [hb] at h1
    simp only [zO,zS,zP] at h1
    omega
  | _=>cases h2
 unfold jm at h ⊢
 rw [ex,es,hn]
 obtain ⟨⟨n,items⟩,hx,h⟩:=zI.1 h
 rw [hx]
 simp only [zB]
 rcases hgr with rfl | ⟨nm,g,off,len,sz',c,m,rfl,hm,hc⟩
 .simp only at h ⊢
  cases hb:Nat.beq n 0 with
  | true=>
   rw [hb] at h
   simp only [zO,zS,zP] at h
   obtain ⟨rfl,rfl⟩:=h
   exact ⟨H1,rfl,.inl ⟨rfl,rfl⟩⟩
  | false=>
   rw [hb] at h
   simp only [zQ] at h ⊢
   cases hr:(Nat.ble (n * by_) room&&Nat.ble n room) with
   | false=>rw [hr] at h;cases h
   | true=>
    rw [hr] at h
    simp only [zO,zS,zP] at h
    obtain ⟨rfl,rfl⟩:=h
    exact ⟨_,rfl,.inr ⟨_,rfl,rfl⟩⟩
 .have hnm:=hs nm (.inl (by simp [V.nm]))
  have:=hmany n items m hx hm
  subst this
  simp only [hnm] at h ⊢
  cases h1:(!Nat.beq sz sz') with
  | true=>rw [h1] at h;cases h
  | false=>
   rw [h1] at h
   simp only [zQ] at h ⊢
   cases hb:Nat.beq n 0 with
   | true=>
    rw [hb] at h
    simp only [zO,zS,zP] at h
    obtain ⟨rfl,rfl⟩:=h
    exact ⟨H1,rfl,.inl ⟨rfl,rfl⟩⟩
   | false=>
    rw [hb] at h hc
    simp only [zQ,Bool.false_or,Bool.not_eq_true'] at h hc ⊢
    cases h2:(!(Nat.ble ((len+n) * by_) room&&Nat.ble (len+n) room)) with
    | true=>rw [h2] at h;cases h
    | false=>
     rw [h2] at h
     simp only [zQ] at h ⊢
     cases h3:(!items.all V.jd) with
     | true=>rw [h3] at h;cases h
     | false=>
      rw [h3] at h
      simp only [zQ] at h ⊢
      split at h
      .rename_i cells e' gen floor frz exx hg
       simp only [hc,zQ] at h ⊢
       obtain ⟨⟨n2,old⟩,hw,hv⟩:=zM.1 h
       cases hv
       exact ⟨_,by rw [hw];rfl,.inr ⟨_,rfl,rfl⟩⟩
      .cases h
theorem qyc {H H1 H':Heap} {e sz by_:Nat} {s x v:V} (hn:H1.next=H.next) (hs:∀ n,n ∈ s.nm∨n ∈ x.nm->H1.get n=H.get n)
  (hgr:s=.nils∨∃ nm g off len sz' c n,s=.slice nm g off len sz' (some c)/\x.many=some n/\(Nat.beq n 0 || !Nat.ble (len+n) c)=true) (h:jl H e sz by_ s x=some (v,H')) :
  ∃ K',jl H1 e sz by_ s x=some (v,K')/\((K'=H1/\H'=H)∨(∃ row,K'=H1.new row/\H'=H.new row)):=by
 refine qvi hn (s:=s.qbx sz) (by rw [V.qzt];exact hs) ?_ h
 rcases hgr with rfl | ⟨nm,g,off,len,sz',c,n,rfl,h1,h2⟩
 .exact .inl rfl
 .rcases V.qda (nm:=nm) (g:=g) (off:=off) (len:=len) (z:=sz') (sz:=sz) (cap:=some c) with e | ⟨_,e⟩
  .exact .inr ⟨_,_,_,_,_,_,_,e,h1,h2⟩
  .exact .inr ⟨_,_,_,_,_,_,_,e,h1,h2⟩
theorem qrz {K1:Heap} {l dels:List Nat} {n:Nat}:(qbl H K1 (.reads l) dels).get n=if n ∈ List.range' H.next (K1.next-H.next) then K1.get n else H.get n:=by
 simp only [qbl,Heap.get,kq]
theorem qfw {K1:Heap} {l dels:List Nat} {n:Nat}:(qbl H K1 (.writes l) dels).get n=if n ∈ (l.filter fun n=>Nat.blt n H.next&&!dels.any fun m=>Nat.beq n m)++List.range' H.next (K1.next-H.next) then K1.get n else H.get n:=by
 simp only [qbl,Heap.get,kq]
theorem quc {K1:Heap} {dels:List Nat} {n:Nat}:(qbl H K1 .call dels).get n=if n ∈ List.range' H.next (K1.next-H.next) then K1.get n else H.get n:=by
 simp only [qbl,Heap.get,kq]
end
end Go.E3
/- E3: REGIONS that draw their order: the theorem. -/
namespace Go.E3
open Go Go.E2
variable {K:Nat->Type}
section
variable {X:Codecs K} {sz:Nat->Nat} {C:ZC K} {base:Heap}
variable {tbl:Tbl K} {inv:Nat->List (NV K)->Prop} {meas:Nat->List (NV K)->Nat} {inl:ZI K}
variable {all:Array Oper} {b:Array Nat} {B old:Nat}
structure Mid (X:Codecs K) (sz:Nat->Nat) (C:ZC K) (base:Heap) (B old i:Nat) (w0:Wd) (l3:List Done3) (done:List Done) (st:StV K) (fr:Fr) (H:Heap) (w:Wd):Prop where
 R:Rel X sz C base st fr H w
 D:DRs B done w l3 done
 hB:B<=H.next
 hold:old<=st.next
 lt:∀ id,id<old->w.cl id->w.c id<B
 live:∀ d ∈ l3,∀ id,d.fp=.write id->(look st.cells id).isSome=true
 top:∀ d ∈ done,d.hi<=H.next/\d.i<i
 z:Le w0 w
 z0:∃ st0 H0,RelH X sz C base st0 H0 w0/\H0.next=B
theorem RelH.live {st:StV K} {H:Heap} {w:Wd} (R:RelH X sz C base st H w) {id:Nat} (h:(look st.cells id).isSome=true):w.M (w.c id):=by
 obtain ⟨ct,hc⟩:=Option.isSome_iff_exists.1 h
 exact (R.cells id ct hc).2.1
theorem RelH.lts {st:StV K} {H:Heap} {w:Wd} (R:RelH X sz C base st H w) {nm:Nat} {x:O} (h:w.g nm=some x):nm<H.next:=by
 rw [R.g] at h
 by_cases hlt:nm<H.next
 .exact hlt
 .rw [R.wf nm (by omega)] at h;cases h
theorem Mid.wr {i:Nat} {w0:Wd} {l3:List Done3} {done:List Done} {st:StV K} {fr:Fr} {H:Heap} {w:Wd} (m:Mid X sz C base B old i w0 l3 done st fr H w):∀ d ∈ l3,∀ id,d.fp=.write id->w.M (w.c id):=
 fun d hd id he=>m.R.h.live (m.live d hd id he)
theorem Mid.lt0 {i:Nat} {w0:Wd} {l3:List Done3} {done:List Done} {st:StV K} {fr:Fr} {H:Heap} {w:Wd} (m:Mid X sz C base B old i w0 l3 done st fr H w) {nm:Nat} {x:O} (h:w0.g nm=some x):nm<B:=by
 obtain ⟨st0,H0,R0,e⟩:=m.z0
 rw [<-e]
 exact R0.lts h
theorem Mid.go (ok:CfgOk X sz C) {i:Nat} {w0:Wd} {l3:List Done3} {done:List Done} {st st':StV K} {fr:Fr} {H J:Heap} {w w':Wd} (m:Mid X sz C base B old i w0 l3 done st fr H w) {f:FP3} {mk:Bool} {fp:FP} {hi:Nat} {dels:List Nat} {dst:Option Tmp} {p:PV K} {v:V}
  (ht:st'.tmps=st.tmps) (hn:st'.n=st.n) (hh:RelH X sz C base st' J w') (hle:Le w w') (hr:Rep X sz w' p v) (hJ:H.next<=J.next) (hhi:H.next<=hi/\hi<=J.next) (hno:mk=false->hi=H.next) (hfp:fpR B done H.next w' f fp)
  (hlive:∀ j,(look st.cells j).isSome=true->(look st'.cells j).isSome=true) (hnew:∀ id,f=.write id->(look st'.cells id).isSome=true) :
  Mid X sz C base B old (i+1) w0 (⟨i,f,mk⟩::l3) (⟨i,fp,H.next,hi,dels⟩::done) (st'.put dst p) (fr.put dst v) J w':=by
 have hcl:∀ id,w.cl id->id<w.n:=fun id h=>by rw [m.R.h.n];exact (m.R.h.cl id h).1
 have hcl':∀ id,w'.cl id->id<w'.n:=fun id h=>by rw [hh.n];exact (hh.cl id h).1
 have hpn:∀ (s:StV K),(s.put dst p).next=s.next:=by
  intro s
  unfold St.put
  split
  .obtain ⟨t,n,c,o,x,kn⟩:=s
   simp only
   cases Nat.blt _ n<;>rfl
  .rfl
 have hpc:∀ (s:StV K),(s.put dst p).cells=s.cells:=by
  intro s
  unfold St.put
  split
  .obtain ⟨t,n,c,o,x,kn⟩:=s
   simp only
   cases Nat.blt _ n<;>rfl
  .rfl
 refine ⟨(m.R.step ok ht hn hh hle).put hr,.cons ⟨rfl,m.hB,hhi.1,hno,hfp.mono (.refl w') (fun d hd=>zG _ hd) hcl'⟩ (fun d hd=>m.top d hd) (m.D.mono hle (fun d hd=>zG _ hd) hcl),zR m.hB hJ,?_,fun id hid hc=>?_,fun d hd id he=>?_,fun d hd=>?_,m.z.trans hle,m.z0⟩
 .rw [hpn]
  have:=hle.n
  rw [m.R.h.n,hh.n] at this
  exact zR m.hold this
 .have hlt:id<w.n:=by rw [m.R.h.n];exact zL hid m.hold
  rw [hle.c id hlt]
  exact m.lt id hid ((hle.cl id hlt).1 hc)
 .rw [hpc]
  rcases zD.1 hd with rfl | hd
  .exact hnew id he
  .exact hlive id (m.live d hd id he)
 .rcases zD.1 hd with rfl | hd
  .exact ⟨hhi.2,Nat.lt_succ_self _⟩
  .exact ⟨zR (m.top d hd).1 hJ,Nat.lt_succ_of_lt (m.top d hd).2⟩
def q1j:PV K->Bool
 | .eptr ..=>true
 | .list ..=>true
 | _=>false
def Whole (v:V):Prop:=∃ nm len z,v=.slice nm 0 0 len z (some len)
structure Cm (X:Codecs K) (sz:Nat->Nat) (B:Nat) (w0:Wd) (done:List Done) (dt:Dirt) (st:StV K) (fr:Fr):Prop where
 calm:∀ t p v,dt.dirty.any (Nat.beq t)=false->st.tmps.get t=some p->q1j p=true->fr.tmp t=some v->∀ n ∈ v.nm,n<B
 rep:∀ t c l own v,dt.dirty.any (Nat.beq t)=false->st.tmps.get t=some (.list c l own)->fr.tmp t=some v->Rep X sz w0 (.list c l none) v
 fresh:∀ t j wh v,look dt.fresh t=some (j,wh)->fr.tmp t=some v->(∀ n ∈ v.nm,qmh B done n (.own j))/\(wh=true->Whole v)
structure NewV (X:Codecs K) (sz:Nat->Nat) (B:Nat) (w0:Wd) (done:List Done) (cb:Bool) (fb:Option (Nat×Bool)) (p:PV K) (v:V):Prop where
 calm:cb=true->q1j p=true->∀ n ∈ v.nm,n<B
 rep:∀ c l own,cb=true->p=.list c l own->Rep X sz w0 (.list c l none) v
 fresh:∀ j wh,fb=some (j,wh)->(∀ n ∈ v.nm,qmh B done n (.own j))/\(wh=true->Whole v)
theorem NewV.no {w0:Wd} {done:List Done} {p:PV K} {v:V}:NewV X sz B w0 done false none p v:=⟨fun h=>by (cases h),fun _ _ _ h=>by (cases h),fun _ _ h=>by (cases h)⟩
theorem qm8 {fr:Fr} {dst:Option Tmp} {v u:V} {t:Nat} (h:(fr.put dst v).tmp t=some u):(dst=some t/\u=v)∨fr.tmp t=some u:=by
 cases dst with
 | none=>exact .inr h
 | some d=>
  obtain ⟨tt,n,ds⟩:=fr
  simp only [Fr.put] at h
  cases hb:Nat.blt d n with
  | false=>rw [hb] at h;exact .inr h
  | true=>
   rw [hb] at h
   simp only [zO,Fr.tmp,Tree.ka] at h
   by_cases he:t=d
   .rw [zT he] at h
    cases h
    exact .inl ⟨by rw [he],rfl⟩
   .rw [zF he] at h
    exact .inr h
theorem qu3 {st:StV K} {dst:Option Tmp} {p q:PV K} {t:Nat} (h:(st.put dst p).tmps.get t=some q):dst=some t∨st.tmps.get t=some q:=by
 cases dst with
 | none=>exact .inr h
 | some d=>
  obtain ⟨tt,n,c,ow,x,kn⟩:=st
  simp only [St.put] at h
  cases hb:Nat.blt d n with
  | false=>rw [hb] at h;exact .inr h
  | true=>
   rw [hb] at h
   simp only [zO,Tree.ka] at h
   by_cases he:t=d
   .exact .inl (by rw [he])
   .rw [zF he] at h
    exact .inr h
theorem qpx {fr:Fr} {t:Nat} {v:V} (h:Nat.blt t fr.n=true):(fr.put (some t) v).tmp t=some v:=by
 obtain ⟨tt,m,ds⟩:=fr
 simp only at h
 simp only [Fr.put,h,zO,Fr.tmp,Tree.ka,zT]
theorem qx0 {st:StV K} {t:Nat} {p:PV K} (h:Nat.blt t st.n=true):(st.put (some t) p).tmps.get t=some p:=by
 obtain ⟨tt,m,c,ow,x,kn⟩:=st
 simp only at h
 simp only [St.put,h,zO,Tree.ka,zT]
theorem zb9 {fr:Fr} {t:Nat} {v:V} (h:Nat.blt t fr.n=false):(fr.put (some t) v)=fr:=by
 obtain ⟨tt,m,ds⟩:=fr
 simp only at h
 simp only [Fr.put,h,zQ]
theorem zd4 {st:StV K} {t:Nat} {p:PV K} (h:Nat.blt t st.n=false):(st.put (some t) p)=st:=by
 obtain ⟨tt,m,c,ow,x,kn⟩:=st
 simp only at h
 simp only [St.put,h,zQ]
theorem qix {α:Type}:∀ {l:List (Nat×α)} {d t:Nat} {x:α},look (jz l d) t=some x->t≠d/\look l t=some x
 | [],d,t,x,h=>by simp [jz,look] at h
 | (i,y)::l,d,t,x,h=>by
  simp only [jz,cond_eq_ite,Nat.beq_eq] at h
  by_cases hi:i=d
  .rw [zT hi] at h
   obtain ⟨h1,h2⟩:=qix h
   refine ⟨h1,?_⟩
   simp only [look,cond_eq_ite,Nat.beq_eq]
   rw [zF (by omega)]
   exact h2
  .rw [zF hi] at h
   simp only [look,cond_eq_ite,Nat.beq_eq] at h ⊢
   by_cases ht:i=t
   .rw [zT ht] at h ⊢
    exact ⟨by omega,h⟩
   .rw [zF ht] at h ⊢
    exact qix h
theorem Cm.put {w0:Wd} {done done':List Done} {dt:Dirt} {st st':StV K} {fr:Fr} {cb:Bool} {fb:Option (Nat×Bool)} {dst:Option Tmp} {p:PV K} {v:V} (h:Cm X sz B w0 done dt st fr) (hd:∀ d ∈ done,d ∈ done') (ht:st'.tmps=st.tmps) (hn':fr.n=st'.n) (hfb:∀ x d,fb=some x->dst=some d->Nat.blt d fr.n=true)
  (hv:NewV X sz B w0 done' cb fb p v):Cm X sz B w0 done' (q5o dt cb fb dst) (st'.put dst p) (fr.put dst v):=by
 cases dst with
 | none=>
  refine ⟨fun t q u h1 h2 h3 h4=>?_,fun t c l own u h1 h2 h3=>?_,fun t j wh u h1 h2=>?_⟩
  .exact h.calm t q u h1 (by rw [<-ht];exact h2) h3 h4
  .exact h.rep t c l own u h1 (by rw [<-ht];exact h2) h3
  .obtain ⟨a1,a2⟩:=h.fresh t j wh u h1 h2
   exact ⟨fun n hn=>(a1 n hn).more hd,a2⟩
 | some d=>
  have hdirt:∀ t,(q5o dt cb fb (some d)).dirty.any (Nat.beq t)=false->dt.dirty.any (Nat.beq t)=false/\(t=d->cb=true):=by
   intro t hh
   simp only [q5o] at hh
   cases hc:cb with
   | true=>rw [hc] at hh;exact ⟨hh,fun _=>rfl⟩
   | false=>
    rw [hc] at hh
    simp only [zQ,List.any_cons,Bool.or_eq_false_iff] at hh
    refine ⟨hh.2,fun he=>?_⟩
    rw [he] at hh
    simp at hh
  have hfr:∀ t j wh,look (q5o dt cb fb (some d)).fresh t=some (j,wh)->(t=d/\fb=some (j,wh))∨(t≠d/\look dt.fresh t=some (j,wh)):=by
   intro t j wh hh
   simp only [q5o] at hh
   cases hf:fb with
   | none=>
    rw [hf] at hh
    exact .inr (qix hh)
   | some x=>
    rw [hf] at hh
    simp only [look,cond_eq_ite,Nat.beq_eq] at hh
    by_cases he:d=t
    .rw [zT he] at hh
     simp only [zS,zP] at hh
     exact .inl ⟨he.symm,by rw [<-hh.1,<-hh.2]⟩
    .rw [zF he] at hh
     exact .inr (qix hh)
  cases hb:Nat.blt d fr.n with
  | false=>
   rw [zb9 hb,zd4 (by rw [<-hn'];exact hb)]
   refine ⟨fun t q u h1 h2 h3 h4=>?_,fun t c l own u h1 h2 h3=>?_,fun t j wh u h1 h2=>?_⟩
   .exact h.calm t q u (hdirt t h1).1 (by rw [<-ht];exact h2) h3 h4
   .exact h.rep t c l own u (hdirt t h1).1 (by rw [<-ht];exact h2) h3
   .rcases hfr t j wh h1 with ⟨rfl,hf⟩ | ⟨_,hf⟩
    .exfalso
     rw [hfb _ _ hf rfl] at hb
     cases hb
    .obtain ⟨a1,a2⟩:=h.fresh t j wh u hf h2
     exact ⟨fun n hn=>(a1 n hn).more hd,a2⟩
  | true=>
   refine ⟨fun t q u h1 h2 h3 h4=>?_,fun t c l own u h1 h2 h3=>?_,fun t j wh u h1 h2=>?_⟩
   .by_cases he:t=d
    .subst he
     rw [qpx hb] at h4
     rw [qx0 (by rw [<-hn'];exact hb)] at h2
     cases h4
     cases h2
     exact hv.calm ((hdirt t h1).2 rfl) h3
    .rcases qm8 h4 with ⟨h5,_⟩ | h5
     .simp only [zS] at h5;exact absurd h5.symm he
     .rcases qu3 h2 with h6 | h6
      .simp only [zS] at h6;exact absurd h6.symm he
      .exact h.calm t q u (hdirt t h1).1 (by rw [<-ht];exact h6) h3 h5
   .by_cases he:t=d
    .subst he
     rw [qpx hb] at h3
     rw [qx0 (by rw [<-hn'];exact hb)] at h2
     cases h3
     exact hv.rep c l own ((hdirt t h1).2 rfl) (Option.some.inj h2)
    .rcases qm8 h3 with ⟨h5,_⟩ | h5
     .simp only [zS] at h5;exact absurd h5.symm he
     .rcases qu3 h2 with h6 | h6
      .simp only [zS] at h6;exact absurd h6.symm he
      .exact h.rep t c l own u (hdirt t h1).1 (by rw [<-ht];exact h6) h5
   .rcases hfr t j wh h1 with ⟨rfl,hf⟩ | ⟨he,hf⟩
    .rw [qpx hb] at h2
     cases h2
     exact hv.fresh j wh hf
    .rcases qm8 h2 with ⟨h5,_⟩ | h5
     .simp only [zS] at h5;exact absurd h5.symm he
     .obtain ⟨a1,a2⟩:=h.fresh t j wh u hf h5
      exact ⟨fun n hn=>(a1 n hn).more hd,a2⟩
theorem q2v {o:Oper} {fr:Fr} {H H':Heap} (hng:∀ x ∈ o.op.operands.toList,∀ g,x≠.global g):∀ x ∈ o.op.operands.toList,opd {fr with tmps:=zx fr.tmps (o.looksAt all) .nil} H' x=opd fr H x:=
 fun x hx=>qeh hx (hng x hx)
theorem Rel.cm {st:StV K} {fr:Fr} {H:Heap} {w:Wd} (R:Rel X sz C base st fr H w):Cm X sz H.next w [] ⟨[],[]⟩ st fr:=by
 refine ⟨fun t p v _ hp he hv n hn=>?_,fun t c l own v _ hp hv=>?_,fun t j wh v h=>by simp [look] at h⟩
 .obtain ⟨u,hu,r⟩:=R.f t p hp
  rw [hv] at hu
  cases hu
  cases r with
  | eptr hg=>simp only [V.nm,List.mem_singleton] at hn;subst hn;exact R.h.lts hg
  | list hg=>simp only [V.nm,List.mem_singleton] at hn;subst hn;exact R.h.lts hg
  | nlist=>simp [V.nm] at hn
  | _=>simp [q1j] at he
 .obtain ⟨u,hu,r⟩:=R.f t _ hp
  rw [hv] at hu
  cases hu
  cases r with
  | nlist h=>exact .nlist trivial
  | list hg hf hM hlen hb hz hcap hc ho=>exact .list hg hf hM hlen hb hz hcap hc trivial
theorem qc2 {α:Type} {c:Bool} {x:Option α} {r:α} (h:(bif c then x else none)=some r):c=true/\x=some r:=by
 cases c with
 | false=>cases h
 | true=>exact ⟨rfl,h⟩
theorem zhb {fr fr':Fr} {H' J:Heap} {o:Oper} {v:V} {t:Nat} (hc:(∃ ty i,o.op=.indexAddr ty (.tmp t) i)∨(∃ ty i,o.op=.fieldAddr ty (.tmp t) i))
  (hop:∀ x ∈ o.op.operands.toList,opd fr' H' x=opd fr J x) (he:z5 C.E o fr' H'=some (.val v,H')):(∃ a b c d,v=.ptr a b c d)/\∃ u,fr.tmp t=some u/\∀ n ∈ v.nm,n ∈ u.nm:=by
 rcases hc with ⟨ty,i,ho⟩ | ⟨ty,i,ho⟩
 .simp only [z5,ho] at he
  obtain ⟨ti,_,he⟩:=zI.1 he
  obtain ⟨u,hu,he⟩:=zI.1 he
  obtain ⟨j,_,he⟩:=zI.1 he
  rw [hop _ (by simp [ho,Op.operands])] at hu
  split at he
  .obtain ⟨ei,_,he⟩:=zI.1 he
   obtain ⟨z,hz,he⟩:=zM.1 he
   simp only [zP,Out.val.injEq,and_true] at he
   subst he
   unfold qee at hz
   split at hz
   .split at hz
    .cases hz;exact ⟨⟨_,_,_,_,rfl⟩,_,hu,fun n hn=>hn⟩
    .cases hz
   .cases hz
  .obtain ⟨ei,_,he⟩:=zI.1 he
   split at he
   .split at he
    .cases he;exact ⟨⟨_,_,_,_,rfl⟩,_,hu,fun n hn=>hn⟩
    .cases he
   .cases he
  .cases he
 .simp only [z5,ho] at he
  obtain ⟨ti,_,he⟩:=zI.1 he
  obtain ⟨f,_,he⟩:=zI.1 he
  obtain ⟨fi,_,he⟩:=zI.1 he
  cases hz:Nat.beq fi.size 0 with
  | true=>rw [hz] at he;cases he
  | false=>
   rw [hz] at he
   simp only [zQ] at he
   obtain ⟨u,hu,he⟩:=zI.1 he
   rw [hop _ (by simp [ho,Op.operands])] at hu
   split at he
   .cases he;exact ⟨⟨_,_,_,_,rfl⟩,_,hu,fun n hn=>hn⟩
   .cases he
theorem q1i {st:StV K} {t:Nat} (h:elemAt st t=true):∃ p,st.tmps.get t=some p/\q1j p=true:=by
 unfold elemAt at h
 split at h
 .rename_i hp;exact ⟨_,hp,rfl⟩
 .rename_i hp;exact ⟨_,hp,rfl⟩
 .cases h
theorem qxg {w0:Wd} {done done':List Done} {dt:Dirt} {st:StV K} {fr fr':Fr} {H' J:Heap} {o:Oper} {p:PV K} {v:V} {i:Nat} {w':Wd} (h:Cm X sz B w0 done dt st fr) (hd:∀ d ∈ done,d ∈ done') (r:Rep X sz w' p v)
  (hp:qdv o.op=true) (hmv:∀ t,o.op≠.move (.tmp t)) (hop:∀ x ∈ o.op.operands.toList,opd fr' H' x=opd fr J x) (he:z5 C.E o fr' H'=some (.val v,H')) :
  NewV X sz B w0 done' (qfm dt st o.op) (jr dt st i o) p v:=by
 have key:∀ t,((∃ ty i,o.op=.indexAddr ty (.tmp t) i)∨(∃ ty i,o.op=.fieldAddr ty (.tmp t) i))->NewV X sz B w0 done' (!dt.dirty.any (Nat.beq t)&&elemAt st t) (match o.dst with | some d=>bif Nat.blt d st.n then (bif elemAt st t then (look dt.fresh t).map fun x=>(x.1,false) else none) else none | none=>none) p v:=by
  intro t ho
  obtain ⟨⟨a1,a2,a3,a4,rfl⟩,u,hu,hn⟩:=zhb ho hop he
  refine ⟨fun hc _ n hn'=>?_,fun c l own hc hp=>?_,fun j wh hf=>?_⟩
  .simp only [zA,Bool.not_eq_true'] at hc
   obtain ⟨q,hq,hel⟩:=q1i hc.2
   exact h.calm t q u hc.1 hq hel hu n (hn n hn')
  .subst hp;cases r
  .split at hf
   .rename_i d _
    cases hb:Nat.blt d st.n with
    | false=>rw [hb] at hf;cases hf
    | true=>
     rw [hb] at hf
     cases hel:elemAt st t with
     | false=>rw [hel] at hf;cases hf
     | true=>
      rw [hel] at hf
      simp only [zO] at hf
      obtain ⟨⟨j',wh'⟩,h1,h2⟩:=zM.1 hf
      simp only [zP] at h2
      obtain ⟨rfl,rfl⟩:=h2
      obtain ⟨a1,_⟩:=h.fresh t _ _ u h1 hu
      exact ⟨fun n hn'=>(a1 n (hn n hn')).more hd,fun hh=>by cases hh⟩
   .cases hf
 cases ho:o.op with
 | indexAddr ty x i'=>
  cases x with
  | tmp t=>
   have:=key t (.inl ⟨_,_,ho⟩)
   simp only [jr,ho,qf5,qfm]
   exact this
  | _=>
   have e1:jr dt st i o=none:=by
    unfold jr
    split
    .simp only [ho,qf5];cases Nat.blt _ st.n<;>rfl
    .rfl
   rw [e1];exact .no
 | fieldAddr ty x i'=>
  cases x with
  | tmp t=>
   have:=key t (.inr ⟨_,_,ho⟩)
   simp only [jr,ho,qf5,qfm]
   exact this
  | _=>
   have e1:jr dt st i o=none:=by
    unfold jr
    split
    .simp only [ho,qf5];cases Nat.blt _ st.n<;>rfl
    .rfl
   rw [e1];exact .no
 | move x=>
  cases x with
  | tmp t=>exact absurd ho (hmv t)
  | _=>
   have e1:jr dt st i o=none:=by
    unfold jr
    split
    .simp only [ho,qf5];cases Nat.blt _ st.n<;>rfl
    .rfl
   rw [e1];exact .no
 | buildSlice=>rw [ho] at hp;simp [qdv] at hp
 | _=>
  have e1:jr dt st i o=none:=by
   unfold jr
   split
   .simp only [ho,qf5];cases Nat.blt _ st.n<;>rfl
   .rfl
  rw [e1];exact .no
theorem q49 {w0:Wd} {done:List Done} {dt:Dirt} {st:StV K} {o:Oper} {p:PV K} {v:V} {i:Nat} {fr':Fr} {T T':Heap} {t:TypeId} {n:Nat} {parts:Array (Nat×Operand)} (ho:o.op=.buildSlice t n parts)
  (he:z5 C.E o fr' T=some (.val v,T')) (hd:∃ d ∈ done,d.i=i/\d.lo<=T.next/\T.next<d.hi):NewV X sz B w0 done (qfm dt st o.op) (jr dt st i o) p v:=by
 have hv:∃ len z,v=.slice T.next 0 0 len z (some len):=by
  simp only [z5,ho] at he
  obtain ⟨ti,_,he⟩:=zI.1 he
  obtain ⟨vs,_,he⟩:=zI.1 he
  split at he
  .obtain ⟨ei,_,he⟩:=zI.1 he
   cases hb:Nat.ble (n * ei.size) 16777216 with
   | false=>rw [hb] at he;cases he
   | true=>
    rw [hb] at he
    simp only [zO] at he
    obtain ⟨cells,_,he⟩:=zM.1 he
    simp only [zP,Out.val.injEq] at he
    exact ⟨_,_,he.1.symm⟩
  .cases he
 obtain ⟨len,z,rfl⟩:=hv
 have e2:qfm dt st o.op=false:=by rw [ho];rfl
 rw [e2]
 refine ⟨fun hc=>(by cases hc),fun _ _ _ hc=>(by cases hc),fun j wh hf=>?_⟩
 unfold jr at hf
 split at hf
 .rw [ho] at hf
  rcases qc2 hf with ⟨_,h1⟩
  simp only [qf5,zS,zP] at h1
  obtain ⟨rfl,rfl⟩:=h1
  refine ⟨fun m hm=>?_,fun _=>⟨_,_,_,rfl⟩⟩
  simp only [V.nm,List.mem_singleton] at hm
  subst hm
  exact hd
 .cases hf
theorem q7j {w0:Wd} {done:List Done} {dt:Dirt} {st:StV K} {fr:Fr} (h:Cm X sz B w0 done dt st fr) {t:Nat} {p:PV K} {v:V} (hp:st.tmps.get t=some p) (he:q1j p=true) (hv:fr.tmp t=some v):∀ n ∈ v.nm,qmh B done n (zhi dt t):=by
 intro n hn
 unfold zhi
 cases hd:dt.dirty.any (Nat.beq t) with
 | false=>exact h.calm t p v hd hp he hv n hn
 | true=>
  simp only [Bool.not_true,zQ]
  split
  .rename_i j wh hl
   exact (h.fresh t j wh v hl hv).1 n hn
  .trivial
theorem qxo {st:StV K}:∀ {l:List Operand} {ps:List (PV K)},qeq (qp X tbl inv meas) C st l=some ps->∀ x ∈ l,∃ p,z6 (qp X tbl inv meas) C st x=some p
 | [],_,_,x,hx=>by cases hx
 | y::l,ps,h,x,hx=>by
  simp only [qeq] at h
  obtain ⟨q,h1,h2⟩:=zI.1 h
  obtain ⟨qs,h3,_⟩:=zM.1 h2
  rcases zD.1 hx with rfl | hx
  .exact ⟨q,h1⟩
  .exact qxo h3 x hx
theorem q06 (ok:CfgOk X sz C) (ok2:CfgOk2 X C) {w w0:Wd} {done:List Done} {dt:Dirt} {st:StV K} {fr:Fr} {H:Heap} (hcm:Cm X sz B w0 done dt st fr) {g1:Nat->Option O}
  (hrow:∀ nm cs e gen floor frz ex,w0.g nm=some (.row cs e gen floor frz ex)->¬ w0.M nm->¬ ({w with g:=g1}:Wd).M nm/\∃ cs2 gen' frz' ex',({w with g:=g1}:Wd).g nm=some (.row (cs++cs2) e gen' floor frz' ex'))
  (hsame:∀ nm,nm<B->g1 nm=w.g nm) {x:Operand} {p:PV K} {v:V} (hc:qn3 (qp X tbl inv meas) C dt st x=true) (hp:z6 (qp X tbl inv meas) C st x=some p) (hv:opd fr H x=some v) (r:Rep X sz w p v):Rep X sz {w with g:=g1} p v:=by
 unfold qn3 at hc
 rw [hp] at hc
 cases p with
 | int=>cases r with | int h=>exact .int h
 | str=>cases r;exact .str
 | lit=>cases r;exact .lit
 | sb=>cases r with | sb h1 h2 h3=>exact .sb h1 h2 h3
 | nils=>cases r;exact .nils
 | list c l own=>
  simp only at hc
  split at hc
  .rename_i t
   have hd:dt.dirty.any (Nat.beq t)=false:=by simpa using hc
   have hp':st.tmps.get t=some (.list c l own):=hp
   have hv':fr.tmp t=some v:=hv
   have r0:=(hcm.rep t c l own v hd hp' hv').zdu ok.len ok2.plain hrow .list
   have hlt:=hcm.calm t _ v hd hp' rfl hv'
   have ho:qjh w sz c own v->qjh {w with g:=g1} sz c own v:=by
    intro h
    cases own with
    | none=>trivial
    | some y=>
     obtain ⟨i,s⟩:=y
     obtain ⟨h1,h2,h3,h4⟩:=h
     refine ⟨h1,h2,fun hs=>?_,h4⟩
     have:=h3 hs
     cases v with
     | slice nm gn off len z cap=>
      simp only [qrw] at this ⊢
      rcases this with h5 | ⟨h5,h6,cs,e,floor,frz,ex,h7,h8⟩
      .exact .inl h5
      .exact .inr ⟨h5,h6,cs,e,floor,frz,ex,by rw [hsame nm (hlt nm (by simp [V.nm]))];exact h7,h8⟩
     | _=>exact this
   cases r0 with
   | nlist _=>
    cases r with
    | nlist h=>exact .nlist (ho h)
   | list hg hf hM hlen hb hz hcap hc' _=>
    cases r with
    | list _ _ _ _ _ _ _ _ h=>exact .list hg hf hM hlen hb hz hcap hc' (ho h)
  .cases hc
 | _=>simp at hc
theorem qn4 (ok:CfgOk X sz C) (ok2:CfgOk2 X C) {w w0:Wd} {done:List Done} {dt:Dirt} {st:StV K} {fr:Fr} {H:Heap} (hcm:Cm X sz B w0 done dt st fr) {g1:Nat->Option O}
  (hrow:∀ nm cs e gen floor frz ex,w0.g nm=some (.row cs e gen floor frz ex)->¬ w0.M nm->¬ ({w with g:=g1}:Wd).M nm/\∃ cs2 gen' frz' ex',({w with g:=g1}:Wd).g nm=some (.row (cs++cs2) e gen' floor frz' ex'))
  (hsame:∀ nm,nm<B->g1 nm=w.g nm):∀ {l:List Operand} {ps:List (PV K)} {vs:List V},l.all (qn3 (qp X tbl inv meas) C dt st)=true->qeq (qp X tbl inv meas) C st l=some ps->qa5 fr H l=some vs->qn X sz w ps vs->qn X sz {w with g:=g1} ps vs
 | [],ps,vs,_,hp,hv,r=>by
  simp only [qeq,zS] at hp
  subst hp
  rw [r.z8]
  exact .nil
 | x::l,ps,vs,hc,hp,hv,r=>by
  simp only [List.all_cons,zA] at hc
  simp only [qeq] at hp
  obtain ⟨p,h1,h2⟩:=zI.1 hp
  obtain ⟨ps',h3,rfl⟩:=zM.1 h2
  simp only [qa5] at hv
  obtain ⟨v,h4,h5⟩:=zI.1 hv
  obtain ⟨vs',h6,rfl⟩:=zM.1 h5
  obtain ⟨v',vs'',he,r1,r2⟩:=r.zw
  cases he
  exact .cons (q06 ok ok2 hcm hrow hsame hc.1 h1 h4 r1) (qn4 ok ok2 hcm hrow hsame hc.2 h3 h6 r2)
theorem qbh {w0:Wd} {done:List Done} {dt:Dirt} {st:StV K} {o:Oper} {p:PV K} {v:V} {i:Nat} (h:(match o.op with | .move _ | .indexAddr .. | .fieldAddr .. | .buildSlice ..=>false | _=>true)=true) :
  NewV X sz B w0 done (qfm dt st o.op) (jr dt st i o) p v:=by
 have e1:jr dt st i o=none:=by
  unfold jr
  split
  .cases ho:o.op<;>simp [ho] at h<;>simp only [qf5]<;>cases Nat.blt _ st.n<;>rfl
  .rfl
 have e2:qfm dt st o.op=false:=by
  cases ho:o.op<;>simp [ho] at h<;>rfl
 rw [e1,e2]
 exact .no
theorem qj9 {st:StV K} {fr:Fr} {H:Heap} {o:Oper} {x:Operand} {v:V} (hx:x ∈ o.op.operands.toList) (hgl:(qed x).isEmpty=true) (ev:opd fr H x=some v) (H0:Heap):opd {fr with tmps:=zx fr.tmps (o.looksAt all) .nil} H0 x=some v:=by
 have:opd {fr with tmps:=zx fr.tmps (o.looksAt all) .nil} H0 x=opd fr H x:=qeh hx (by intro g hg;subst hg;simp [qed] at hgl)
 rw [this];exact ev
theorem zcv (ok:CfgOk X sz C) {i:Nat} {w0:Wd} {l3:List Done3} {done:List Done} {st:StV K} {fr:Fr} {H:Heap} {w:Wd} (m:Mid X sz C base B old i w0 l3 done st fr H w) {dt:Dirt} {o:Oper} {l:List Oper} {Q:Ex->Fr->Heap->Prop}
  {k:PV K->StV K->Prop} {f:FP3} (hw:qbm o all fr=some true) (ha:(l3.filter fun d=>!(b.getD i 0).testBit d.i).all (fun d=>qhx old d f)=true)
  (hkc:∀ p st',k p st'->∀ j,(look st.cells j).isSome=true->(look st'.cells j).isSome=true)
  {t:TypeId} {m0 x:Operand} {okb:Bool} (ho:o.op=.lookup t m0 x okb) (hf:∃ d id,m0=.tmp d/\st.tmps.get d=some (.map id)/\(bif (qed x).isEmpty then some (FP3.read id) else none)=some f) {pm px:PV K} (hpm:z6 (qp X tbl inv meas) C st m0=some pm) (hpx:z6 (qp X tbl inv meas) C st x=some px) (h:qr9 (qp X tbl inv meas) C t okb pm px st k)
  (next:∀ p st' v J w' done',k p st'->(st'.tmps=st.tmps/\st'.n=st.n)->(∀ d ∈ done,d ∈ done')->NewV X sz B w0 done' (qfm dt st o.op) (jr dt st i o) p v->Le w w'->Mid X sz C base B old (i+1) w0 (⟨i,f,makes o.op⟩::l3) done' (st'.put o.dst p) (fr.put o.dst v) J w'->WpD C.E all b (i+1) l done' (fr.put o.dst v) J Q):WpD C.E all b i (o::l) done fr H Q:=by
 have more:∀ (d:Done),∀ x ∈ done,x ∈ d::done:=fun d x hx=>zG _ hx
 have R:=m.R
 obtain ⟨vm,em,rm⟩:=qj R hpm
 obtain ⟨vx,ex,rx⟩:=qj R hpx
 obtain ⟨id,p,st',v,w',rfl,rfl,hlt,hcl,hnm,h3,hn',R',hle,r',hev⟩:=qmp ok R.h rm rx h
 obtain ⟨d,id2,rfl,hpd,hf⟩:=hf
 have hpd2:st.tmps.get d=some (.map id):=hpm
 rw [hpd] at hpd2
 cases hpd2
 obtain ⟨hgl,hf⟩:=qc2 hf
 cases hf
 have hd:d ∈ o.looksAt all:=by simp [Oper.looksAt,ho,Op.operands]
 have hdf:fr.tmp d=some (.map (w.c id)):=em
 have hxn:jx fr [x]=[]:=by
  cases x with
  | tmp t'=>
   have:fr.tmp t'=some vx:=ex
   simp only [jx,List.flatMap_cons,List.flatMap_nil,qlg,this,hnm,zJ]
  | global g=>simp [qed] at hgl
  | _=>rfl
 have hfp:qg2 C.E o fr=.reads [w.c id]:=by
  simp only [qg2,ho,kz,Op.operands]
  refine congrArg FP.reads ?_
  show qlg fr (.tmp d)++jx fr [x]=_
  rw [hxn]
  simp only [qlg,hdf,V.nm,zJ]
 have hdel:=qhc (nm:=w.c id) m.D ha (.inl ⟨id,.inl rfl,fun hlt'=>m.lt id hlt' hcl⟩)
 have hget:=qi0 (H:=H) (l:=[w.c id]) (dels:=(zk b i done).flatMap Done.names) (List.mem_singleton.2 rfl) hlt hdel
 have hfR:fpR B done H.next w (.read id) (.reads [w.c id]):=⟨rfl,hcl⟩
 have hcl':∀ id,w.cl id->id<w.n:=fun id h=>by rw [R.h.n];exact (R.h.cl id h).1
 refine qdf (fp:=.reads [w.c id]) (out:=.val v) (v:=v) (K:=zp H (.reads [w.c id]) ((zk b i done).flatMap Done.names)) hw hfp (by simp) (qc9 R.h m.D m.wr (fun id he=>by cases he) hfR ha) ?_ (.inl rfl) (zN _) ?_
 .refine hev o (.tmp d) x _ _ ho ?_ (qj9 (st:=st) (by simp [ho,Op.operands]) hgl ex _) hget
  simp only [opd,qfz hd]
  exact em
 .rw [qiv]
  exact next _ _ v H w' _ h3 ⟨hn'.tmps,hn'.n⟩ (more _) (qbh (by rw [ho])) hle (m.go ok hn'.tmps hn'.n R' hle r' (zN _) ⟨zN _,zN _⟩ (fun _=>rfl) (hfR.mono hle (fun _ h=>h) hcl') (hkc _ _ h3) (fun id he=>by cases he))
theorem qxc (ok:CfgOk X sz C) {i:Nat} {w0:Wd} {l3:List Done3} {done:List Done} {st:StV K} {fr:Fr} {H:Heap} {w:Wd} (m:Mid X sz C base B old i w0 l3 done st fr H w) {dt:Dirt} {o:Oper} {l:List Oper} {Q:Ex->Fr->Heap->Prop}
  {k:PV K->StV K->Prop} {f:FP3} (hw:qbm o all fr=some true) (ha:(l3.filter fun d=>!(b.getD i 0).testBit d.i).all (fun d=>qhx old d f)=true)
  (hkc:∀ p st',k p st'->∀ j,(look st.cells j).isSome=true->(look st'.cells j).isSome=true)
  {t:TypeId} {m0 x y:Operand} (ho:o.op=.mapUpdate t m0 x y∨o.op=.insert t m0 x y) (hf:∃ d id,m0=.tmp d/\st.tmps.get d=some (.map id)/\(bif (qed x).isEmpty&&(qed y).isEmpty then some (FP3.write id) else none)=some f) {pm px py:PV K} (hpm:z6 (qp X tbl inv meas) C st m0=some pm) (hpx:z6 (qp X tbl inv meas) C st x=some px) (hpy:z6 (qp X tbl inv meas) C st y=some py) (h:qok (qp X tbl inv meas) C t pm px py st k)
  (next:∀ p st' v J w' done',k p st'->(st'.tmps=st.tmps/\st'.n=st.n)->(∀ d ∈ done,d ∈ done')->NewV X sz B w0 done' (qfm dt st o.op) (jr dt st i o) p v->Le w w'->Mid X sz C base B old (i+1) w0 (⟨i,f,makes o.op⟩::l3) done' (st'.put o.dst p) (fr.put o.dst v) J w'->WpD C.E all b (i+1) l done' (fr.put o.dst v) J Q):WpD C.E all b i (o::l) done fr H Q:=by
 have more:∀ (d:Done),∀ x ∈ done,x ∈ d::done:=fun d x hx=>zG _ hx
 have R:=m.R
 obtain ⟨vm,em,rm⟩:=qj R hpm
 obtain ⟨vx,ex,rx⟩:=qj R hpx
 obtain ⟨vy,ey,ry⟩:=qj R hpy
 obtain ⟨id,st',row,w',rfl,rfl,hlt,hbase,hcl,hlv0,h4,e1,e2,R',hle,hsm,hev⟩:=qi2 ok R.h rm rx ry h
 obtain ⟨d,id2,rfl,hpd,hf⟩:=hf
 have hpd2:st.tmps.get d=some (.map id):=hpm
 rw [hpd] at hpd2
 cases hpd2
 obtain ⟨hgl,hf⟩:=qc2 hf
 cases hf
 simp only [zA] at hgl
 have hglx:qed x=[]:=by simpa using hgl.1
 have hgly:qed y=[]:=by simpa using hgl.2
 have hmem:Operand.tmp d ∈ o.op.operands.toList/\x ∈ o.op.operands.toList/\y ∈ o.op.operands.toList:=by rcases ho with ho | ho<;>simp [ho,Op.operands]
 have hd:d ∈ o.looksAt all:=by rcases ho with ho | ho<;>simp [Oper.looksAt,ho,Op.operands]
 have hdf:fr.tmp d=some (.map (w.c id)):=em
 have hlf:∀ id',FP3.write id=FP3.write id'->w.M (w.c id'):=by
  intro id' he
  cases he
  exact R.h.live hlv0
 have hfp:qg2 C.E o fr=.writes [w.c id]:=by
  rcases ho with ho | ho<;>simp only [qg2,ho,kz,Bool.not_true,zQ,qlg,hdf,V.nm,hglx,hgly,zJ]
 have hfR:fpR B done H.next w (.write id) (.writes [w.c id]):=⟨rfl,hcl⟩
 have hcl':∀ id,w.cl id->id<w.n:=fun id h=>by rw [R.h.n];exact (R.h.cl id h).1
 have hdel:=qhc (nm:=w.c id) m.D ha (.inl ⟨id,.inr rfl,fun hlt'=>m.lt id hlt' hcl⟩)
 have hget:=qkd (H:=H) (l:=[w.c id]) (dels:=(zk b i done).flatMap Done.names) (List.mem_singleton.2 rfl) hlt hdel
 have hro:(zp H (.writes [w.c id]) ((zk b i done).flatMap Done.names)).ro<=w.c id:=by
  show H.ro<=w.c id
  rw [R.h.keeps.ro]
  exact zR R.h.rob.1 hbase
 have hmk:makes o.op=false:=by rcases ho with ho | ho<;>rw [ho]<;>rfl
 refine qdf (fp:=.writes [w.c id]) (out:=.skip) (v:=kj) (K:=(zp H (.writes [w.c id]) ((zk b i done).flatMap Done.names)).put (w.c id) row) hw hfp (by simp) (qc9 R.h m.D m.wr hlf hfR ha) ?_ (.inr ⟨rfl,rfl⟩) (zN _) ?_
 .refine hev o (.tmp d) x y _ _ ho ?_ (qj9 (st:=st) hmem.2.1 hgl.1 ex _) (qj9 (st:=st) hmem.2.2 hgl.2 ey _) hget hro
  simp only [opd,qfz hd]
  exact em
 .have RJ:RelH X sz C base st' (qbl H ((zp H (.writes [w.c id]) ((zk b i done).flatMap Done.names)).put (w.c id) row) (.writes [w.c id]) ((zk b i done).flatMap Done.names)) w':=by
   refine R'.congr (fun n=>?_) ?_ ?_ ?_
   .rw [qfw]
    have hnx:((zp H (.writes [w.c id]) ((zk b i done).flatMap Done.names)).put (w.c id) row).next-H.next=0:=Nat.sub_self _
    rw [hnx]
    simp only [List.range'_zero,zJ,List.mem_filter,List.mem_singleton]
    have hok:(Nat.blt (w.c id) H.next&&!((zk b i done).flatMap Done.names).any fun m=>Nat.beq (w.c id) m)=true:=qnj hlt hdel
    by_cases hn:n=w.c id
    .subst hn
     rw [zT ⟨rfl,hok⟩,j8,j8]
    .rw [zF (fun hh=>hn hh.1),qau hn]
   .rfl
   .rfl
   .rfl
  exact next _ _ kj _ w' _ h4 ⟨e1,e2⟩ (more _) (qbh (by rcases ho with ho | ho<;>rw [ho])) hle (m.go ok e1 e2 RJ hle .undef (zN _) ⟨zN _,zN _⟩ (fun _=>rfl) (hfR.mono hle (fun _ h=>h) hcl') (hkc _ _ h4) (by intro id' he;cases he;rw [hsm];exact hlv0))
theorem zf1 (ok:CfgOk X sz C) (ok2:CfgOk2 X C) (tok:qge X sz C tbl) (iok:qkm X sz C inl) {i:Nat} {w0:Wd} {l3:List Done3} {done:List Done} {st:StV K} {fr:Fr} {H:Heap} {w:Wd} (m:Mid X sz C base B old i w0 l3 done st fr H w) {dt:Dirt} (hcm:Cm X sz B w0 done dt st fr) {o:Oper} {l:List Oper} {Q:Ex->Fr->Heap->Prop}
  {k:PV K->StV K->Prop} {f:FP3} (hw:qbm o all fr=some true) (hf:fp3 (qp X tbl inv meas) C all b i o dt st=some f) (ha:(l3.filter fun d=>!(b.getD i 0).testBit d.i).all (fun d=>qhx old d f)=true)
  (hkc:∀ p st',k p st'->∀ j,(look st.cells j).isSome=true->(look st'.cells j).isSome=true)
  (h:jv (qp X tbl inv meas) C (zch (qp X tbl inv meas) inl f) o st k)
  (next:∀ p st' v J w' done',k p st'->(st'.tmps=st.tmps/\st'.n=st.n)->(∀ d ∈ done,d ∈ done')->NewV X sz B w0 done' (qfm dt st o.op) (jr dt st i o) p v->Le w w'->Mid X sz C base B old (i+1) w0 (⟨i,f,makes o.op⟩::l3) done' (st'.put o.dst p) (fr.put o.dst v) J w'->WpD C.E all b (i+1) l done' (fr.put o.dst v) J Q):WpD C.E all b i (o::l) done fr H Q:=by
 have more:∀ (d:Done),∀ x ∈ done,x ∈ d::done:=fun d x hx=>zG _ hx
 have R:=m.R
 unfold fp3 at hf
 cases ht:kz C.E o.op with
 | false=>
  rw [ht] at hf
  simp only [Bool.not_false,zO] at hf
  have hfn:f=.none/\∀ t x lo hi mx p,o.op=.slice t x lo hi mx->z6 (qp X tbl inv meas) C st x=some p->∀ id c fx n,p≠.mlist id c fx n:=by
   split at hf
   .rename_i t x lo hi mx ho
    split at hf
    .cases hf
    .rename_i hno
     cases hf
     refine ⟨rfl,fun t' x' lo' hi' mx' p ho' hp id c fx n he=>?_⟩
     rw [ho] at ho'
     cases ho'
     subst he
     exact hno _ _ _ _ hp
   .rename_i hno
    cases hf
    exact ⟨rfl,fun t' x' lo' hi' mx' p ho'=>absurd ho' (hno _ _ _ _ _)⟩
  obtain ⟨rfl,hml⟩:=hfn
  have hfp:qg2 C.E o fr=.none:=by simp only [qg2,ht,Bool.not_false,zO]
  have hcl:=qc9 (fp:=.none) (lo:=H.next) (dels:=(zk b i done).flatMap Done.names) R.h m.D (f:=.none) m.wr (by simp) rfl ha
  by_cases hmv:∃ t,o.op=.move (.tmp t)
  .obtain ⟨t,ho⟩:=hmv
   simp only [jv,ho] at h
   obtain ⟨p,hp',hk⟩:=qa h
   obtain ⟨v,ev,rv⟩:=qj R hp'
   have ev':fr.tmp t=some v:=ev
   have hp'':st.tmps.get t=some p:=hp'
   have hd:t ∈ o.looksAt all:=by simp [Oper.looksAt,ho,Op.operands]
   refine qdf (fp:=.none) (K:=zp H .none ((zk b i done).flatMap Done.names)) (out:=.val v) (v:=v) hw hfp (by simp) hcl ?_ (.inl rfl) (zN _) ?_
   .simp only [z5,ho,opd,qfz hd,ev',zH]
   .rw [qng]
    refine next p st v H w _ hk ⟨rfl,rfl⟩ (more _) ⟨fun hc he=>?_,fun c l' own hc he=>?_,fun j wh hfz=>?_⟩ (.refl w) (m.go ok rfl rfl R.h (.refl w) rv (zN _) ⟨zN _,zN _⟩ (fun _=>rfl) rfl (fun _ h=>h) (by simp))
    .simp only [ho,qfm,zA,Bool.not_eq_true'] at hc
     exact hcm.calm t p v hc.1 hp'' he ev'
    .simp only [ho,qfm,zA,Bool.not_eq_true'] at hc
     subst he
     exact hcm.rep t c l' own v hc.1 hp'' ev'
    .unfold jr at hfz
     split at hfz
     .rw [ho] at hfz
      have h1:=(qc2 hfz).2
      simp only [qf5] at h1
      obtain ⟨a1,a2⟩:=hcm.fresh t j wh v h1 ev'
      exact ⟨fun n hn=>(a1 n hn).more (more _),a2⟩
     .cases hfz
  have hmv':∀ t,o.op≠.move (.tmp t):=fun t ht=>hmv ⟨t,ht⟩
  by_cases hp:qdv o.op=true
  .have hng:=qo6 ht (.inl hp)
   obtain ⟨p,st',v,w',h1,h2,h3,h4,h5,h6⟩:=qlx (fr':={fr with tmps:=zx fr.tmps (o.looksAt all) .nil}) (H':=zp H .none ((zk b i done).flatMap Done.names)) ok R hp (q2v hng)
    (fun s d x ho=>by rw [ho] at ht;simp [kz] at ht) hml h
   refine qdf (fp:=.none) (K:=zp H .none _) hw hfp (by simp) hcl h6 (.inl rfl) (zN _) ?_
   rw [qng]
   exact next p st' v H w' _ h1 ⟨h2.tmps,h2.n⟩ (more _) (qxg (J:=H) hcm (more _) h5 hp hmv' (q2v hng) h6) h4 (m.go ok h2.tmps h2.n h3 h4 h5 (zN _) ⟨zN _,zN _⟩ (fun _=>rfl) rfl (hkc _ _ h1) (by simp))
  by_cases hn:qlf o.op=true
  .have hng:=qo6 ht (.inr hn)
   obtain ⟨p,st',v,row,w',h1,h2,h3,h4,h5,h6,h7⟩:=q1r ok R hn h
   have hmk:makes o.op=true:=by
    cases ho:o.op<;>simp [qlf,ho] at hn<;>rfl
   refine qdf (fp:=.none) (out:=.val v) (v:=v) (K:=(zp H .none ((zk b i done).flatMap Done.names)).new row) hw hfp (by simp) hcl (h7 _ _ rfl (q2v hng)) (.inl rfl) (by rw [qu];exact Nat.le_succ _) ?_
   rw [q9k]
   refine next p st' v _ w' _ h1 ⟨h2,h3⟩ (more _) ?_ h5 (m.go ok h2 h3 h4 h5 h6 (by rw [qu];exact Nat.le_succ _) ⟨by rw [qu];exact Nat.le_succ _,by rw [qu,qu];exact zN _⟩ (fun hc=>by rw [hmk] at hc;cases hc) rfl (hkc _ _ h1) (by simp))
   cases ho:o.op with
   | buildSlice t' n' parts'=>
    rw [<-ho]
    exact q49 (fr':={fr with tmps:=zx fr.tmps (o.looksAt all) .nil}) ho (h7 _ (zp H .none ((zk b i done).flatMap Done.names)) rfl (q2v hng)) ⟨_,zC,rfl,zN _,by rw [qu];exact Nat.lt_succ_self _⟩
   | _=>rw [<-ho];exact qbh (by first | (simp [qlf,ho] at hn;done) | (simp [ho];done))
  exfalso
  cases ho:o.op with
  | load=>rw [ho] at ht;simp [kz] at ht
  | store=>rw [ho] at ht;simp [kz] at ht
  | lookup=>rw [ho] at ht;simp [kz] at ht
  | mapUpdate=>rw [ho] at ht;simp [kz] at ht
  | insert=>rw [ho] at ht;simp [kz] at ht
  | next=>rw [ho] at ht;simp [kz] at ht
  | call c=>
   rw [ho] at ht
   simp only [jv,ho] at h
   obtain ⟨ps,hps,h1⟩:=qa h
   split at h1
   .rename_i f hc
    simp [kz,hc] at ht
   .rename_i bi hc
    simp only [kz,hc] at ht
    simp only [qdv,ho,hc] at hp
    unfold qhy at h1
    split at h1
    all_goals first
     | (simp at hp;done)
     | (simp at ht;done)
     | (exact absurd h1 id)
   .exact absurd h1 id
  | _=>first
   | (simp [qdv,ho] at hp;done)
   | (simp [qlf,ho] at hn;done)
   | (simp only [jv,ho] at h;exact absurd h id)
 | true=>
  rw [ht] at hf
  simp only [Bool.not_true,zQ] at hf
  cases ho:o.op with
  | load t x=>
   rw [ho] at hf
   simp only [jv,ho] at h
   obtain ⟨ti,hti,h1⟩:=qa h
   obtain ⟨p,hp',h2⟩:=qa h1
   obtain ⟨v,ev,rv⟩:=qj R hp'
   have hmk:makes (.load t x)=false:=rfl
   have run:∀ nm,v.nm=[nm]->jx fr [x]=[nm]->nm ∉ (zk b i done).flatMap Done.names->fpR B done H.next w f (.reads [nm])->(∀ id,f≠.write id)->(∀ H1:Heap,H1.qt=H.qt->H1.get nm=H.get nm->opd {fr with tmps:=zx fr.tmps (o.looksAt all) .nil} H1 x=some v)->WpD C.E all b i (o::l) done fr H Q:=by
    intro nm hnm hnms hdel hfR hnw hop
    have hfp:qg2 C.E o fr=.reads [nm]:=by
     simp only [qg2,ho,Op.operands]
     exact congrArg FP.reads hnms
    obtain ⟨q,h3,nm',gn,off,lim,rfl,hlt,hl,_⟩:=qlb ok R.h rv h2
    simp only [V.nm,List.cons.injEq,and_true] at hnm
    subst hnm
    have hget:=qi0 (H:=H) (l:=[nm']) (dels:=(zk b i done).flatMap Done.names) (List.mem_singleton.2 rfl) hlt hdel
    obtain ⟨u,hu,ru⟩:=hl _ hget
    obtain ⟨w',hn',R',hle,r'⟩:=qg3 ok R.h ru
    have hcl':∀ id,w.cl id->id<w.n:=fun id h=>by rw [R.h.n];exact (R.h.cl id h).1
    refine qdf (fp:=.reads [nm']) (out:=.val u) (v:=u) (K:=zp H (.reads [nm']) ((zk b i done).flatMap Done.names)) hw hfp (by simp) (qc9 R.h m.D m.wr (fun id he=>absurd he (hnw id)) hfR ha) ?_ (.inl rfl) (zN _) ?_
    .simp only [z5,ho,hti,zB,hop (zp H (.reads [nm']) ((zk b i done).flatMap Done.names)) rfl hget,hu,zH]
    .rw [qiv]
     exact next _ _ u H w' _ h3 ⟨hn'.tmps,hn'.n⟩ (more _) (qbh (by rw [ho])) hle (m.go ok hn'.tmps hn'.n R' hle r' (zN _) ⟨zN _,zN _⟩ (fun _=>rfl) (hfR.mono hle (fun _ h=>h) hcl') (hkc _ _ h3) (fun id he=>absurd he (hnw id)))
   obtain ⟨q,_,nm,gn,off,lim,hv,hlt,_,hkind⟩:=qlb ok R.h rv h2
   subst hv
   cases x with
   | tmp d=>
    simp only at hf
    have hd:d ∈ o.looksAt all:=by simp [Oper.looksAt,ho,Op.operands]
    have hop:∀ H1:Heap,H1.qt=H.qt->H1.get nm=H.get nm->opd {fr with tmps:=zx fr.tmps (o.looksAt all) .nil} H1 (.tmp d)=some (.ptr nm gn off lim):=by
     intro H1 _ _
     simp only [opd,qfz hd]
     exact ev
    have hnms:jx fr [.tmp d]=[nm]:=by
     have:fr.tmp d=some (.ptr nm gn off lim):=ev
     simp only [jx,List.flatMap_cons,List.flatMap_nil,qlg,this,V.nm,zJ]
    split at hf
    .rename_i id o' l' hg
     have hp'':st.tmps.get d=some p:=hp'
     rw [hg] at hp''
     cases hp''
     cases hf
     rcases hkind with ⟨id',he,hnm,ct,hl⟩ | ⟨cs,o2,he,_⟩
     .have hii:id'=id:=by
       rcases he with ⟨_,_,he⟩ | ⟨_,_,_,_,he⟩
       .cases he;rfl
       .cases he
      subst hii
      have hc:=(R.h.cells _ ct hl).1
      refine run nm rfl hnms (qhc m.D ha (.inl ⟨_,.inl rfl,fun hlt'=>?_⟩)) ⟨by rw [hnm],hc⟩ (by simp) hop
      rw [hnm]
      exact m.lt _ hlt' hc
     .cases he
    .rename_i id c' i' n' o' hg
     have hp'':st.tmps.get d=some p:=hp'
     rw [hg] at hp''
     cases hp''
     cases hf
     rcases hkind with ⟨id',he,hnm,ct,hl⟩ | ⟨cs,o2,he,_⟩
     .have hii:id'=id:=by
       rcases he with ⟨_,_,he⟩ | ⟨_,_,_,_,he⟩
       .cases he
       .cases he;rfl
      subst hii
      have hc:=(R.h.cells _ ct hl).1
      refine run nm rfl hnms (qhc m.D ha (.inl ⟨_,.inl rfl,fun hlt'=>?_⟩)) ⟨by rw [hnm],hc⟩ (by simp) hop
      rw [hnm]
      exact m.lt _ hlt' hc
     .cases he
    .rename_i cs' o' hg
     have hp'':st.tmps.get d=some p:=hp'
     rw [hg] at hp''
     cases hp''
     cases hf
     cases rv with
     | eptr q1 q2 q3 q4 q5 q6=>
      have hsrc:=q7j hcm hg rfl ev nm (by simp [V.nm])
      have hdel:nm ∉ (zk b i done).flatMap Done.names:=qhc m.D ha (.inr (.inl ⟨_,rfl,_,List.mem_singleton.2 rfl,hsrc⟩))
      refine run nm rfl hnms hdel ⟨[nm],rfl,fun n hn=>?_⟩ (by simp) hop
      rw [List.mem_singleton.1 hn]
      exact ⟨⟨q3,_,_,_,_,_,_,q1⟩,_,List.mem_singleton.2 rfl,hsrc⟩
    .cases hf
   | global gl=>
    simp only [zS] at hf
    subst hf
    have hglob:∃ ps,C.qt gl=some ps/\p=.eptr ps 0:=by
     simp only [z6] at hp'
     obtain ⟨ps,h1',h2'⟩:=zM.1 hp'
     exact ⟨ps,h1',h2'.symm⟩
    obtain ⟨ps,hgl,rfl⟩:=hglob
    obtain ⟨g0,vs,e,fl,fz,ex,g1,g2,g3⟩:=R.h.globs gl ps hgl
    have hgH:H.get gl=some (.row vs e 0 fl fz ex):=by rw [R.h.keeps.old gl g2];exact g1
    have hb:Nat.blt gl H.qt=true:=by rw [Nat.blt_eq,R.h.keeps.qt];exact g0
    have hv:V.ptr nm gn off lim=.ptr gl 0 0 vs.length:=by
     have:=ev
     simp only [opd,hb,zO,hgH,zS] at this
     exact this.symm
    cases hv
    cases rv with
    | eptr q1 q2 q3 q4 q5 q6=>
     have hold':nm<B:=by
      obtain ⟨st0,H0,R0,e0⟩:=m.z0
      have:=R0.keeps.next
      omega
     refine run nm rfl (by simp [jx,qlg]) (qli m.D hold') ⟨[nm],rfl,fun n hn=>?_⟩ (by simp) ?_
     .rw [List.mem_singleton.1 hn]
      exact ⟨⟨q3,_,_,_,_,_,_,q1⟩,_,List.mem_singleton.2 rfl,hold'⟩
     .intro H1 hg1 hg2
      simp only [opd,hg1,hb,zO,hg2,hgH]
   | _=>simp at hf
  | indexAddr ty x ix=>
   rw [ho] at hf
   cases x with
   | global gl=>
    simp only at hf
    have hp:qdv o.op=true:=by rw [ho];rfl
    have h0:=h
    simp only [jv,ho] at h0
    obtain ⟨ti,hti,h1⟩:=qa h0
    obtain ⟨pg,hpg,_⟩:=qa h1
    obtain ⟨vg,eg,rg⟩:=qj R hpg
    split at hf
    .rename_i hix
     obtain ⟨hgl0,hf⟩:=qc2 hf
     simp only [zS] at hf
     subst hf
     obtain ⟨vi,ei,ri⟩:=qj R hix
     have hvi:vi.nm=[]:=by cases ri<;>rfl
     have hin:jx fr [ix]=[]:=by
      cases ix with
      | tmp t'=>
       have:fr.tmp t'=some vi:=ei
       simp only [jx,List.flatMap_cons,List.flatMap_nil,qlg,this,hvi,zJ]
      | global g=>simp [qed] at hgl0
      | _=>rfl
     have hglob:∃ ps,C.qt gl=some ps/\pg=.eptr ps 0:=by
      simp only [z6] at hpg
      obtain ⟨ps,h1',h2'⟩:=zM.1 hpg
      exact ⟨ps,h1',h2'.symm⟩
     obtain ⟨ps,hgl,rfl⟩:=hglob
     obtain ⟨g0,vs,e,fl,fz,ex,g1,g2,g3⟩:=R.h.globs gl ps hgl
     have hgH:H.get gl=some (.row vs e 0 fl fz ex):=by rw [R.h.keeps.old gl g2];exact g1
     have hb:Nat.blt gl H.qt=true:=by rw [Nat.blt_eq,R.h.keeps.qt];exact g0
     have hv:vg=.ptr gl 0 0 vs.length:=by
      have:=eg
      simp only [opd,hb,zO,hgH,zS] at this
      exact this.symm
     subst hv
     cases rg with
     | eptr q1 q2 q3 q4 q5 q6=>
      have hold':gl<B:=by
       obtain ⟨st0,H0,R0,e0⟩:=m.z0
       have:=R0.keeps.next
       omega
      have hlt:gl<H.next:=by
       have:=R.h.keeps.next
       omega
      have hfp:qg2 C.E o fr=.reads [gl]:=by
       have ht':=ht
       rw [ho] at ht'
       simp only [qg2,ho,ht',Bool.not_true,zQ,Op.operands]
       refine congrArg FP.reads ?_
       show qlg fr (.global gl)++jx fr [ix]=_
       rw [hin]
       rfl
      have hfR:fpR B done H.next w (.stable [.calm]) (.reads [gl]):=⟨[gl],rfl,fun n hn=>by
       rw [List.mem_singleton.1 hn]
       exact ⟨⟨q3,_,_,_,_,_,_,q1⟩,_,List.mem_singleton.2 rfl,hold'⟩⟩
      have hdel:=qli (nm:=gl) m.D (b:=b) (i:=i) hold'
      have hget:=qi0 (H:=H) (l:=[gl]) (dels:=(zk b i done).flatMap Done.names) (List.mem_singleton.2 rfl) hlt hdel
      have hop:∀ y ∈ o.op.operands.toList,opd {fr with tmps:=zx fr.tmps (o.looksAt all) .nil} (zp H (.reads [gl]) ((zk b i done).flatMap Done.names)) y=opd fr H y:=by
       intro y hy
       have hy':=hy
       simp only [ho,Op.operands,zD,List.not_mem_nil,or_false] at hy'
       rcases hy' with rfl | rfl
       .have hg1:(zp H (.reads [gl]) ((zk b i done).flatMap Done.names)).qt=H.qt:=rfl
        simp only [opd,hg1,hget]
       .rw [qj9 (st:=st) hy hgl0 ei,ei]
      have hcl':∀ id,w.cl id->id<w.n:=fun id h=>by rw [R.h.n];exact (R.h.cl id h).1
      obtain ⟨p,st',v,w',k1,k2,k3,k4,k5,k6⟩:=qlx (fr':={fr with tmps:=zx fr.tmps (o.looksAt all) .nil}) (H':=zp H (.reads [gl]) ((zk b i done).flatMap Done.names)) ok R hp hop
       (fun s d x hh=>by rw [ho] at hh;cases hh) (fun t x lo hi mx p hh=>by rw [ho] at hh;cases hh) h
      refine qdf (fp:=.reads [gl]) (K:=zp H (.reads [gl]) ((zk b i done).flatMap Done.names)) hw hfp (by simp) (qc9 R.h m.D m.wr (fun id he=>by cases he) hfR ha) k6 (.inl rfl) (zN _) ?_
      rw [qiv]
      exact next p st' v H w' _ k1 ⟨k2.tmps,k2.n⟩ (more _) (qxg (J:=H) hcm (more _) k5 hp (fun t hh=>by rw [ho] at hh;cases hh) hop k6) k4 (m.go ok k2.tmps k2.n k3 k4 k5 (zN _) ⟨zN _,zN _⟩ (fun _=>rfl) (hfR.mono k4 (fun _ h=>h) hcl') (hkc _ _ k1) (fun id he=>by cases he))
    .cases hf
   | _=>simp at hf
  | store t a x=>
   rw [ho] at hf
   simp only [jv,ho] at h
   obtain ⟨ti,hti,h1⟩:=qa h
   obtain ⟨pa,hpa,h2⟩:=qa h1
   obtain ⟨px,hpx,h3⟩:=qa h2
   obtain ⟨va,ea,ra⟩:=qj R hpa
   obtain ⟨vx,ex,rx⟩:=qj R hpx
   obtain ⟨st',id,off,lim,H',w',h4,hpf,rfl,hlt,hid,hcl,hbase,hloc,hs,e1,e2,_,R',hle,hsm,hlv0⟩:=qo5 ok R.h ra rx h3
   cases a with
   | tmp d=>
    simp only at hf
    have hpd:st.tmps.get d=some pa:=hpa
    rw [hpd] at hf
    have hf:(bif (qed x).isEmpty then some (FP3.write id) else none)=some f:=by
     rcases hpf with ⟨_,_,rfl⟩ | ⟨_,_,_,_,rfl⟩
     .exact hf
     .exact hf
    cases hgl:(qed x).isEmpty with
    | false=>rw [hgl] at hf;cases hf
    | true=>
     rw [hgl] at hf
     simp only [zO,zS] at hf
     subst hf
     have hlf:∀ id',FP3.write id=FP3.write id'->w.M (w.c id'):=by
      intro id' he
      cases he
      exact R.h.live hlv0
     have hglx:qed x=[]:=by simpa using hgl
     have hd:d ∈ o.looksAt all:=by simp [Oper.looksAt,ho,Op.operands]
     have hdf:fr.tmp d=some (.ptr (w.c id) 0 off lim):=ea
     have hfp:qg2 C.E o fr=.writes [w.c id]:=by
      have ht':=ht
      rw [ho] at ht'
      simp only [qg2,ho,ht',Bool.not_true,zQ,qlg,hdf,V.nm,hglx,zJ]
     have hfR:fpR B done H.next w (.write id) (.writes [w.c id]):=⟨rfl,hcl⟩
     have hcl':∀ id,w.cl id->id<w.n:=fun id h=>by rw [R.h.n];exact (R.h.cl id h).1
     have hdel:=qhc (nm:=w.c id) m.D ha (.inl ⟨id,.inr rfl,fun hlt'=>m.lt id hlt' hcl⟩)
     have hget:=qkd (H:=H) (l:=[w.c id]) (dels:=(zk b i done).flatMap Done.names) (List.mem_singleton.2 rfl) hlt hdel
     have hro:(zp H (.writes [w.c id]) ((zk b i done).flatMap Done.names)).ro<=w.c id:=by
      show H.ro<=w.c id
      rw [R.h.keeps.ro]
      exact zR R.h.rob.1 hbase
     obtain ⟨row,hH',hst2⟩:=hloc _ hget hro
     have hmk:makes (.store t (.tmp d) x)=false:=rfl
     have hxr:∀ H0,opd {fr with tmps:=zx fr.tmps (o.looksAt all) .nil} H0 x=some vx:=by
      intro H0
      have:opd {fr with tmps:=zx fr.tmps (o.looksAt all) .nil} H0 x=opd fr H x:=qeh (by simp [ho,Op.operands]) (by intro g hg;subst hg;simp [qed] at hglx)
      rw [this];exact ex
     refine qdf (fp:=.writes [w.c id]) (out:=.skip) (v:=kj) (K:=(zp H (.writes [w.c id]) ((zk b i done).flatMap Done.names)).put (w.c id) row) hw hfp (by simp) (qc9 R.h m.D m.wr hlf hfR ha) ?_ (.inr ⟨rfl,rfl⟩) (zN _) ?_
     .have hop:opd {fr with tmps:=zx fr.tmps (o.looksAt all) .nil} (zp H (.writes [w.c id]) ((zk b i done).flatMap Done.names)) (.tmp d)=some (.ptr (w.c id) 0 off lim):=by
       simp only [opd,qfz hd]
       exact ea
      simp only [z5,ho,hti,zB,hop,hxr,hst2,zH]
     .have RJ:RelH X sz C base st' (qbl H ((zp H (.writes [w.c id]) ((zk b i done).flatMap Done.names)).put (w.c id) row) (.writes [w.c id]) ((zk b i done).flatMap Done.names)) w':=by
       refine R'.congr (fun n=>?_) ?_ ?_ ?_
       .rw [qfw,hH']
        have hnx:((zp H (.writes [w.c id]) ((zk b i done).flatMap Done.names)).put (w.c id) row).next-H.next=0:=Nat.sub_self _
        rw [hnx]
        simp only [List.range'_zero,zJ,List.mem_filter,List.mem_singleton]
        have hok:(Nat.blt (w.c id) H.next&&!((zk b i done).flatMap Done.names).any fun m=>Nat.beq (w.c id) m)=true:=qnj hlt hdel
        by_cases hn:n=w.c id
        .subst hn
         rw [zT ⟨rfl,hok⟩,j8,j8]
        .rw [zF (fun hh=>hn hh.1),qau hn]
       .rw [hH'];rfl
       .rw [hH'];rfl
       .rw [hH'];rfl
      exact next _ _ kj _ w' _ h4 ⟨e1,e2⟩ (more _) (qbh (by rw [ho])) hle (m.go ok e1 e2 RJ hle .undef (zN _) ⟨zN _,zN _⟩ (fun _=>rfl) (hfR.mono hle (fun _ h=>h) hcl') (hkc _ _ h4) (by intro id' he;cases he;rw [hsm];exact hlv0))
   | _=>simp at hf
  | lookup t m0 x okb=>
   rw [ho] at hf
   simp only [jv,ho] at h
   obtain ⟨pm,hpm,h1⟩:=qa h
   obtain ⟨px,hpx,h2⟩:=qa h1
   exact zcv ok m hw ha hkc ho (by
    cases m0 with
    | tmp d=>
     simp only at hf
     split at hf
     .rename_i id hpd
      exact ⟨d,id,rfl,hpd,hf⟩
     .cases hf
    | _=>simp at hf) hpm hpx h2 next
  | mapUpdate t m0 x y=>
   rw [ho] at hf
   simp only [jv,ho] at h
   obtain ⟨pm,hpm,h1⟩:=qa h
   obtain ⟨px,hpx,h2⟩:=qa h1
   obtain ⟨py,hpy,h3⟩:=qa h2
   exact qxc ok m hw ha hkc (.inl ho) (by
    cases m0 with
    | tmp d=>
     simp only at hf
     split at hf
     .rename_i id hpd
      exact ⟨d,id,rfl,hpd,hf⟩
     .cases hf
    | _=>simp at hf) hpm hpx hpy h3 next
  | insert t m0 x y=>
   rw [ho] at hf
   simp only [jv,ho] at h
   obtain ⟨pm,hpm,h1⟩:=qa h
   obtain ⟨px,hpx,h2⟩:=qa h1
   obtain ⟨py,hpy,h3⟩:=qa h2
   exact qxc ok m hw ha hkc (.inr ho) (by
    cases m0 with
    | tmp d=>
     simp only at hf
     split at hf
     .rename_i id hpd
      exact ⟨d,id,rfl,hpd,hf⟩
     .cases hf
    | _=>simp at hf) hpm hpx hpy h3 next
  | convert s d x=>
   rw [ho] at hf
   simp only at hf
   have hform:∃ p,z6 (qp X tbl inv meas) C st x=some p/\((∃ k l n,p=.int k l n)∨∃ s,p=.str s)/\(qed x).isEmpty=true/\f=.stable []:=by
    split at hf
    .rename_i k' l' n' hx
     cases hg:(qed x).isEmpty with
     | false=>rw [hg] at hf;cases hf
     | true=>rw [hg] at hf;cases hf;exact ⟨_,hx,.inl ⟨_,_,_,rfl⟩,rfl,rfl⟩
    .rename_i s' hx
     cases hg:(qed x).isEmpty with
     | false=>rw [hg] at hf;cases hf
     | true=>rw [hg] at hf;cases hf;exact ⟨_,hx,.inr ⟨_,rfl⟩,rfl,rfl⟩
    .cases hf
   obtain ⟨p,hpx,hkind,hgl,rfl⟩:=hform
   have hglx:qed x=[]:=by simpa using hgl
   obtain ⟨v,ev,rv⟩:=qj R hpx
   have hvn:v.nm=[]:=by
    rcases hkind with ⟨k',l',n',rfl⟩ | ⟨s',rfl⟩<;>cases rv<;>rfl
   have hng:∀ y ∈ o.op.operands.toList,∀ g,y≠.global g:=by
    intro y hy g he
    subst he
    simp [ho,Op.operands] at hy
    subst hy
    simp [qed] at hglx
   have hfp:qg2 C.E o fr=.reads []:=by
    simp only [qg2,ho,Op.operands]
    refine congrArg FP.reads ?_
    cases x with
    | tmp t=>
     have:fr.tmp t=some v:=ev
     simp [jx,qlg,this,hvn]
    | global g=>simp [qed] at hglx
    | _=>simp [jx,qlg]
   have hfR:fpR B done H.next w (.stable []) (.reads []):=⟨[],rfl,fun n hn=>by cases hn⟩
   have hcl':∀ id,w.cl id->id<w.n:=fun id h=>by rw [R.h.n];exact (R.h.cl id h).1
   obtain ⟨q,st',u,w',h1,h2,h3,h4,h5,h6⟩:=qlx (fr':={fr with tmps:=zx fr.tmps (o.looksAt all) .nil}) (H':=zp H (.reads []) ((zk b i done).flatMap Done.names)) ok R (by rw [ho];rfl) (q2v hng)
    (fun s' d' x' ho'=>by rw [ho] at ho';cases ho';exact .inr ⟨p,hpx,hkind⟩) (fun t' x' lo' hi' mx' p' ho'=>by rw [ho] at ho';cases ho') h
   refine qdf (fp:=.reads []) (out:=.val u) (v:=u) (K:=zp H (.reads []) _) hw hfp (by simp) (qc9 R.h m.D m.wr (by simp) hfR ha) h6 (.inl rfl) (zN _) ?_
   rw [qiv]
   exact next q st' u H w' _ h1 ⟨h2.tmps,h2.n⟩ (more _) (qbh (by rw [ho])) h4 (m.go ok h2.tmps h2.n h3 h4 h5 (zN _) ⟨zN _,zN _⟩ (fun _=>rfl) (hfR.mono h4 (fun _ h=>h) hcl') (hkc _ _ h1) (by simp))
  | call c=>
   rw [ho] at hf
   simp only [jv,ho] at h
   obtain ⟨ps,hps,h1⟩:=qa h
   obtain ⟨vs,ev,rv⟩:=qb3 R hps
   have ht':=ht
   rw [ho] at ht'
   have hroB:H.ro=base.ro:=R.h.keeps.ro
   split at h1
   .rename_i f' hc
    obtain ⟨pf,hpf,h2⟩:=qa h1
    obtain ⟨vf,ef,rf⟩:=qj R hpf
    simp only [hc] at hf
    have hfp:qg2 C.E o fr=.call:=by
     simp only [qg2,ho,ht',Bool.not_true,zQ,hc]
    have hops:∀ (H1:Heap),(∀ n,H1.get n=H.get n)->H1.qt=H.qt->∀ x ∈ o.op.operands.toList,opd {fr with tmps:=zx fr.tmps (o.looksAt all) .nil} H1 x=opd fr H x:=by
     intro H1 hg1 hg2 x hx
     cases x with
     | global g=>simp only [opd,hg1,hg2]
     | tmp t=>exact qeh hx (by simp)
     | const v=>rfl
     | func f=>rfl
    have hmem:∀ x ∈ c.args.toList,x ∈ o.op.operands.toList:=by
     intro x hx
     simp only [ho,Op.operands,Call.operands,Array.toList_append,List.mem_append]
     exact .inr hx
    have hmemf:f' ∈ o.op.operands.toList:=by
     simp only [ho,Op.operands,Call.operands,Array.toList_append,List.mem_append,hc]
     exact .inl (by simp)
    cases hlone:qp7 C.E all b i with
    | true=>
     rw [hlone] at hf
     simp only [zO,zS] at hf
     subst hf
     obtain ⟨g,us,hco,hcall⟩:=qq1 ok ok2 tok iok R.h rf rv h2
     have hdel:=qoa m.D ha (.inl rfl)
     have hH:zp H .lone []=H:=by cases H;rfl
     refine q3l (fp:=.lone) (t:=g) (args:=us) (K0:=H) hw hfp (by rw [hlone];rfl) (qc9 (fp:=.lone) (lo:=H.next) R.h m.D (f:=.lone) m.wr (by simp) (.inl rfl) ha) ?_ ?_
     .rw [hdel,hH]
      have e1:qa5 {fr with tmps:=zx fr.tmps (o.looksAt all) .nil} H c.args.toList=some vs:=by
       rw [qer fun x hx=>hops H (fun _=>rfl) rfl x (hmem x hx)];exact ev
      have e2:=(hops H (fun _=>rfl) rfl f' hmemf).trans ef
      simp only [z5,ho,hc,e1,e2,zB,hco,zH]
     .refine hcall.mono fun v H1 hA=>?_
      obtain ⟨p,st',w',a1,a2,a3,a4,a5,a6⟩:=hA
      have hnx:H.next<=H1.next:=by have:=a5.nx;rw [R.h.nx,a4.nx] at this;exact this
      rw [hdel]
      have hJ:RelH X sz C base st' (qbl H H1 .lone []) w':=by
       refine a4.congr (fun n=>?_) rfl ?_ ?_
       .simp only [qbl,Heap.get,zx]
       .rw [a4.keeps.ro];exact hroB
       .rw [a4.keeps.qt];exact R.h.keeps.qt
      exact ⟨hnx,next p st' v _ w' _ a1 ⟨a2,a3⟩ (more _) (qbh (by rw [ho])) a5 (m.go ok a2 a3 hJ a5 a6 hnx ⟨hnx,zN _⟩ (fun hmk=>by rw [ho] at hmk;simp [makes,hc] at hmk) (.inl rfl) (hkc _ _ a1) (by simp))⟩
    | false=>
     rw [hlone] at hf
     simp only [zQ,hpf,hps] at hf
     split at hf
     .rename_i g first cap args heq1 heq2
      cases heq1
      cases heq2
      obtain ⟨_,hf⟩:=qc2 hf
      cases hf
      cases rf with
      | @func f2 a c2 va vc hla hlc q1 q2=>
      generalize hcb:(first.isEmpty&&cap.isEmpty&&c.args.toList.all (qn3 (qp X tbl inv meas) C dt st))=cb at *
      let D:=(zk b i done).flatMap Done.names
      let H1:Heap:=zp H .call D
      have hg1:∀ n,H1.get n=if n ∈ D then none else H.get n:=fun n=>by
       simp only [H1,zp,Heap.get,kq]
       split<;>rfl
      have hDB:∀ n ∈ D,B<=n:=by
       intro n hn
       rcases Nat.lt_or_ge n B with h1 | h1
       .exact absurd hn (qli m.D h1)
       .exact h1
      obtain ⟨st0,H0,R0,e0⟩:=m.z0
      have hbB:base.next<=B:=by have:=R0.keeps.next;omega
      have hrow:∀ nm cs e gen floor frz ex,w0.g nm=some (.row cs e gen floor frz ex)->¬ w0.M nm->¬ ({w with g:=H1.get}:Wd).M nm/\∃ cs2 gen' frz' ex',({w with g:=H1.get}:Wd).g nm=some (.row (cs++cs2) e gen' floor frz' ex'):=by
       intro nm cs e gen floor frz ex h1 h2
       obtain ⟨h3,cs2,gen',frz',ex',h4⟩:=m.z.mem nm cs e gen floor frz ex h1 h2
       refine ⟨h3,cs2,gen',frz',ex',?_⟩
       show H1.get nm=_
       have hlt:=m.lt0 h1
       rw [hg1,zF (fun hd=>by have:=hDB nm hd;omega),<-R.h.g]
       exact h4
      have cut:Cut X sz C base H H1 w:=by
       refine ⟨fun n x hx=>?_,fun n hn=>?_,rfl,rfl,zN _,fun gn ps' vs' e' fl' fz' ex' h1 h2 h3=>?_⟩
       .rw [hg1] at hx
        split at hx
        .cases hx
        .exact hx
       .rw [hg1,zF (fun hd=>by have:=hDB n hd;omega)]
       .obtain ⟨_,vs2,e2,fl2,fz2,ex2,q1',q2',q3'⟩:=R0.globs gn ps' h1
        rw [h2] at q1'
        cases q1'
        exact q3'.zdu ok.len ok2.plain hrow (.eptr (ok2.qt gn ps' h1))
      have hDnil:cb=false->D=[]:=by
       intro hc0
       rw [hc0] at ha
       exact qoa m.D ha (.inr rfl)
      have hra:qn X sz {w with g:=H1.get} (first++ps++cap) (va++vs++vc):=by
       cases hcb':cb with
       | false=>
        have hw1:({w with g:=H1.get}:Wd)=w:=by
         have:H1.get=w.g:=by
          rw [R.h.g]
          funext n
          rw [hg1,hDnil hcb',zF (by simp)]
         rw [this]
        rw [hw1]
        exact qn.append (qn.append (ps:=first) ⟨hla,q1⟩ rv) ⟨hlc,q2⟩
       | true=>
        rw [hcb'] at hcb
        simp only [zA,List.isEmpty_iff] at hcb
        obtain ⟨⟨rfl,rfl⟩,hall⟩:=hcb
        have hva:va=[]:=by cases va with | nil=>rfl | cons=>simp at hla
        have hvc:vc=[]:=by cases vc with | nil=>rfl | cons=>simp at hlc
        subst hva;subst hvc
        simp only [List.nil_append,zJ]
        exact qn4 ok ok2 hcm hrow (fun nm hlt=>by show H1.get nm=w.g nm;rw [hg1,zF (fun hd=>by have:=hDB nm hd;omega),R.h.g]) hall hps ev rv
      have fin:(qcc C.E (.func g) (va++vs++vc) H1 fun v H'=>∃ r w',Form r/\Answer X sz C H1 w.M r (qnd (qar r.flat)) v H' w'/\k (qbf st r).1 (qbf st r).2)->WpD C.E all b i (o::l) done fr H Q:=by
       intro hcall
       refine q3l (fp:=.call) (t:=.func g) (args:=va++vs++vc) (K0:=H1) hw hfp (by rw [hlone];rfl) (qc9 (fp:=.call) (lo:=H.next) R.h m.D (f:=.call cb) m.wr (by simp) rfl ha) ?_ ?_
       .have hglo:∀ x p,x ∈ o.op.operands.toList->z6 (qp X tbl inv meas) C st x=some p->opd {fr with tmps:=zx fr.tmps (o.looksAt all) .nil} H1 x=opd fr H x:=by
         intro x p hx hpx
         cases x with
         | global gl=>
          simp only [z6] at hpx
          obtain ⟨gs,hgs,_⟩:=zM.1 hpx
          obtain ⟨_,_,_,_,_,_,_,hlt,_⟩:=R.h.globs gl gs hgs
          have:H1.get gl=H.get gl:=by rw [hg1,zF (fun hd=>by have:=hDB gl hd;omega)]
          simp only [opd,this]
          rfl
         | tmp t=>exact qeh hx (by simp)
         | const v=>rfl
         | func f=>rfl
        have e1:qa5 {fr with tmps:=zx fr.tmps (o.looksAt all) .nil} H1 c.args.toList=some vs:=by
         rw [qer fun x hx=>by obtain ⟨p,hp⟩:=qxo hps x hx;exact hglo x p (hmem x hx) hp];exact ev
        have e2:=(hglo f' _ hmemf hpf).trans ef
        show z5 C.E o _ H1=_
        simp only [z5,ho,hc,e1,e2,zB,qdi,zH]
       .refine hcall.mono fun v H2 hA=>?_
        obtain ⟨r,w',form,a,hk⟩:=hA
        have hnx:H.next<=H2.next:=a.keeps.next
        have hJget:∀ n,(qbl H H2 .call D).get n=if n ∈ List.range' H.next (H2.next-H.next) then H2.get n else H.get n:=fun n=>quc
        obtain ⟨w'',e1,e2,R',hle,r'⟩:=qhz ok ok2 R.h form (H1:=H1) rfl a (J:=qbl H H2 .call D) (fun n hn=>by
          rw [hJget,zF (fun hh=>by have:=(List.mem_range'_1.1 hh).1;omega)]) (fun n x hx=>by
          rw [hJget]
          split
          .exact hx
          .rename_i hn
           by_cases hlt:n<H.next
           .rw [a.keeps.old n hlt] at hx
            exact cut.sub n x hx
           .exfalso
            have hn2:H2.next<=n:=by
             rcases Nat.lt_or_ge n H2.next with h1 | h1
             .exact absurd (List.mem_range'_1.2 ⟨by omega,by omega⟩) hn
             .exact h1
            rw [a.wf n hn2] at hx
            cases hx) (fun n hn=>by
          rw [hJget]
          split
          .rfl
          .rename_i hn'
           have hn2:H2.next<=n:=by
            rcases Nat.lt_or_ge n H2.next with h1 | h1
            .exact absurd (List.mem_range'_1.2 ⟨by omega,by omega⟩) hn'
            .exact h1
           rw [R.h.wf n hn,a.wf n hn2]) rfl rfl rfl
        exact ⟨hnx,next _ _ v _ w'' _ hk ⟨e1,e2⟩ (more _) (qbh (by rw [ho])) hle (m.go ok e1 e2 R' hle r' hnx ⟨hnx,zN _⟩ (fun hmk=>by rw [ho] at hmk;simp [makes,hc] at hmk) rfl (hkc _ _ hk) (by simp))⟩
      cases hfn:fnP (qp X tbl inv meas) st g (first++ps++cap) with
      | none=>
       simp only [q03,hfn] at h2
       exact fin (q5i ok ok2 iok R.h cut hra h2)
      | some x=>
       obtain ⟨pre,r⟩:=x
       simp only [q03,hfn] at h2
       cases hd:distinct (qar r.flat) with
       | false=>rw [hd] at h2;exact absurd h2 id
       | true=>
        rw [hd] at h2
        simp only [zO] at h2
        obtain ⟨hpre,hk⟩:=h2
        obtain ⟨form,hcall⟩:=qpw ok2 tok R.h cut hra hfn hpre
        exact fin (hcall.mono fun v H' ⟨w',a⟩=>⟨r,w',form,a,hk⟩)
     .cases hf
   .rename_i bi hc
    have hbi:bi=.append:=by
     cases bi<;>first | rfl | (simp [hc] at hf;done)
    subst hbi
    simp only [hc] at hf
    have hbt:∃ x y,c.args.toList=[x,y]/\qmy (qp X tbl inv meas) C st x=false:=by
     split at hf
     .rename_i x y hxy
      cases hbb:qmy (qp X tbl inv meas) C st x with
      | true=>rw [hbb] at hf;cases hf
      | false=>exact ⟨x,y,hxy,hbb⟩
     .cases hf
    have hgf:(f=.lone/\(∃ x y,c.args.toList=[x,y]/\qt4 (qp X tbl inv meas) C dt st x=false))∨∃ x y,c.args.toList=[x,y]/\qt4 (qp X tbl inv meas) C dt st x=true/\f=.stable (qu4 dt x++qu4 dt y):=by
     split at hf
     .rename_i x y hxy
      obtain ⟨x',y',hxy',hbb⟩:=hbt
      rw [hxy] at hxy'
      cases hxy'
      rw [hbb] at hf
      simp only [zQ] at hf
      cases hgr:qt4 (qp X tbl inv meas) C dt st x with
      | true=>rw [hgr] at hf;cases hf;exact .inr ⟨x,y,hxy,hgr,rfl⟩
      | false=>rw [hgr] at hf;obtain ⟨_,h2⟩:=qc2 hf;cases h2;exact .inl ⟨rfl,x,y,hxy,hgr⟩
     .cases hf
    have hmem:∀ x ∈ c.args.toList,x ∈ o.op.operands.toList:=by
     intro x hx
     simp only [ho,Op.operands,Call.operands,Array.toList_append,List.mem_append]
     exact .inr hx
    have hnm:∀ x (p:PV K) v,z6 (qp X tbl inv meas) C st x=some p->opd fr H x=some v->Rep X sz w p v->((∃ s,p=.str s)∨p=.nils∨∃ c l own,p=.list c l own)->qlg fr x=v.nm/\qzk fr x=some v:=by
     intro x p v h1 h2 h3 h4
     cases x with
     | tmp t=>
      have h2':fr.tmp t=some v:=h2
      simp only [qlg,h2',qzk]
      exact ⟨trivial,trivial⟩
     | const cv=>
      have hp':(qnw 1000 cv).bind (qjm (qp X tbl inv meas))=some p:=h1
      obtain ⟨u,hu1,hu2⟩:=zI.1 hp'
      have h2':qnw 1000 cv=some v:=h2
      rw [hu1] at h2'
      cases h2'
      refine ⟨?_,hu1⟩
      unfold qjm at hu2
      split at hu2
      .rfl
      .rfl
      .cases hpl:qfy v with
       | false=>rw [hpl] at hu2;cases hu2
       | true=>cases v<;>simp [qfy] at hpl<;>rfl
     | global g=>
      simp only [z6] at h1
      obtain ⟨q,_,rfl⟩:=zM.1 h1
      rcases h4 with ⟨_,h4⟩ | h4 | ⟨_,_,_,h4⟩<;>cases h4
     | func f=>
      simp only [z6,zS] at h1
      subst h1
      rcases h4 with ⟨_,h4⟩ | h4 | ⟨_,_,_,h4⟩<;>cases h4
    have hsrc:∀ x (p:PV K) v,z6 (qp X tbl inv meas) C st x=some p->opd fr H x=some v->Rep X sz w p v->((∃ s,p=.str s)∨p=.nils∨∃ c l own,p=.list c l own)->∀ n ∈ v.nm,Still w n/\∃ s ∈ qu4 dt x,qmh B done n s:=by
     intro x p v h1 h2 h3 h4 n hn
     rcases h4 with ⟨s',rfl⟩ | rfl | ⟨c',l',own,rfl⟩
     .cases h3;simp [V.nm] at hn
     .cases h3;simp [V.nm] at hn
     .have hst:Still w n:=by
       cases h3 with
       | nlist=>simp [V.nm] at hn
       | list hg hf hM=>
        simp only [V.nm,List.mem_singleton] at hn
        subst hn
        exact ⟨hM,_,_,_,_,_,_,hg⟩
      refine ⟨hst,?_⟩
      cases x with
      | tmp t=>
       exact ⟨_,List.mem_singleton.2 rfl,q7j hcm (p:=.list c' l' own) h1 rfl h2 n hn⟩
      | const cv=>
       exfalso
       have hp':(qnw 1000 cv).bind (qjm (qp X tbl inv meas))=some (.list c' l' own):=h1
       obtain ⟨u,hu1,hu2⟩:=zI.1 hp'
       have h2':qnw 1000 cv=some v:=h2
       rw [hu1] at h2'
       cases h2'
       unfold qjm at hu2
       split at hu2
       .simp [V.nm] at hn
       .simp [V.nm] at hn
       .cases hpl:qfy v with
        | false=>rw [hpl] at hu2;cases hu2
        | true=>cases v<;>simp [qfy] at hpl<;>simp [V.nm] at hn
      | global g=>
       simp only [z6] at h1
       obtain ⟨q,_,h1⟩:=zM.1 h1
       cases h1
      | func f=>simp [z6] at h1
    have fin:∀ (a1 a2:Operand) (s x:PV K) (v1 v2:V) (t u:TypeId) (ti ui:TI) (e:TypeId) (ei:TI) (p:PV K) (st':StV K) (v:V) (H':Heap) (w':Wd),c.args.toList=[a1,a2]->z6 (qp X tbl inv meas) C st a1=some s->z6 (qp X tbl inv meas) C st a2=some x->
      opd fr H a1=some v1->opd fr H a2=some v2->Rep X sz w s v1->Rep X sz w x v2->((∃ s',s=.str s')∨s=.nils∨∃ c l own,s=.list c l own)->((∃ s',x=.str s')∨x=.nils∨∃ c l own,x=.list c l own)->
      c.argTypes.toList=[t,u]->C.E.types t=some ti->C.E.types u=some ui->ti.under=.slice e->((∃ e',ui.under=.slice e')∨ui.under=.string)->C.E.types e=some ei->
      jl H e ei.size ei.bytes v1 v2=some (v,H')->k p st'->st'.tmps=st.tmps->st'.n=st.n->RelH X sz C base st' H' w'->Le w w'->Rep X sz w' p v->WpD C.E all b i (o::l) done fr H Q:=by
     intro a1 a2 s x v1 v2 t u ti ui e ei p st' v H' w' hargs o1 o2 e1 e2 r1 r2 k1 k2 hats hti hui hu1 hu2 hei happ hk g1 g2 R' hle hr
     obtain ⟨n1,y1⟩:=hnm a1 s v1 o1 e1 r1 k1
     obtain ⟨n2,y2⟩:=hnm a2 x v2 o2 e2 r2 k2
     have hnames:jx fr c.args.toList=v1.nm++v2.nm:=by
      rw [hargs]
      simp only [jx,List.flatMap_cons,List.flatMap_nil,zJ,n1,n2]
     have hin1:∀ n ∈ v1.nm,n ∈ jx fr c.args.toList:=fun n hn=>by rw [hnames];exact List.mem_append.2 (.inl hn)
     have hin2:∀ n ∈ v2.nm,n ∈ jx fr c.args.toList:=fun n hn=>by rw [hnames];exact List.mem_append.2 (.inr hn)
     have hlt:∀ (q:PV K) v0,Rep X sz w q v0->((∃ s',q=.str s')∨q=.nils∨∃ c l own,q=.list c l own)->∀ n ∈ v0.nm,n<H.next:=by
      intro q v0 hq hk n hn
      rcases hk with ⟨s',rfl⟩ | rfl | ⟨c',l',own,rfl⟩
      .cases hq;simp [V.nm] at hn
      .cases hq;simp [V.nm] at hn
      .rcases kx hq with ⟨_,rfl⟩ | ⟨nm,gn,off,z,cap,cs,e',gen,floor,frz,ex,rfl,hg,_⟩
       .simp [V.nm] at hn
       .simp only [V.nm,List.mem_singleton] at hn
        subst hn
        exact R.h.lts hg
     have hall:∀ n ∈ jx fr c.args.toList,n<H.next:=by
      intro n hn
      rw [hnames] at hn
      rcases List.mem_append.1 hn with hn | hn
      .exact hlt s v1 r1 k1 n hn
      .exact hlt x v2 r2 k2 n hn
     have hng1:∀ g,a1≠.global g:=by
      intro g hg
      subst hg
      simp only [z6] at o1
      obtain ⟨q,_,rfl⟩:=zM.1 o1
      rcases k1 with ⟨_,h4⟩ | h4 | ⟨_,_,_,h4⟩<;>cases h4
     have hng2:∀ g,a2≠.global g:=by
      intro g hg
      subst hg
      simp only [z6] at o2
      obtain ⟨q,_,rfl⟩:=zM.1 o2
      rcases k2 with ⟨_,h4⟩ | h4 | ⟨_,_,_,h4⟩<;>cases h4
     have eo1:∀ T,opd {fr with tmps:=zx fr.tmps (o.looksAt all) .nil} T a1=some v1:=fun T=>(qeh (hmem a1 (by rw [hargs];simp)) hng1).trans e1
     have eo2:∀ T,opd {fr with tmps:=zx fr.tmps (o.looksAt all) .nil} T a2=some v2:=fun T=>(qeh (hmem a2 (by rw [hargs];simp)) hng2).trans e2
     have hev:∀ (T K1:Heap),jl T e ei.size ei.bytes v1 v2=some (v,K1)->z5 C.E o {fr with tmps:=zx fr.tmps (o.looksAt all) .nil} T=some (.val v,K1):=by
      intro T K1 hK1
      have ea:qa5 {fr with tmps:=zx fr.tmps (o.looksAt all) .nil} T c.args.toList=some [v1,v2]:=by
       rw [hargs];exact qqh (eo1 T) (qqh (eo2 T) zdk)
      rcases hu2 with ⟨e',hu2⟩ | hu2
      .simp only [z5,ho,hc,ea,zB,qaz,hats,hti,hui,hu1,hu2,hei,hK1,zH]
      .simp only [z5,ho,hc,ea,zB,qaz,hats,hti,hui,hu1,hu2,hei,hK1,zH]
     have hnx:H.next<=H'.next:=by have:=hle.nx;rw [R.h.nx,R'.nx] at this;exact this
     have hcl':∀ id,w.cl id->id<w.n:=fun id h=>by rw [R.h.n];exact (R.h.cl id h).1
     have hmany:∃ m,v2.many=some m:=by
      rcases k2 with ⟨s',rfl⟩ | rfl | ⟨c',l',own,rfl⟩
      .cases r2;exact ⟨_,rfl⟩
      .cases r2;exact ⟨_,rfl⟩
      .rcases kx r2 with ⟨_,rfl⟩ | ⟨nm,gn,off,z,cap,cs,e',gen,floor,frz,ex,rfl,_⟩
       .exact ⟨_,rfl⟩
       .exact ⟨_,rfl⟩
     obtain ⟨m2,hm2⟩:=hmany
     have hgaE:qoh fr c.args.toList=q13 m2 v1:=by
      rw [hargs]
      simp only [qoh,y1,y2,zB,hm2]
      cases v1 with
      | slice nm g off len z cap=>cases cap<;>rfl
      | _=>rfl
     cases hga:qoh fr c.args.toList with
     | true=>
      have hfp:qg2 C.E o fr=.reads (jx fr c.args.toList):=by
       simp only [qg2,ho,ht',Bool.not_true,zQ,hc,hga,zO]
      have hnd:∀ n ∈ jx fr c.args.toList,n ∉ (zk b i done).flatMap Done.names:=by
       intro n hn
       rcases hgf with ⟨rfl,_⟩ | ⟨x1,x2,hxx,_,rfl⟩
       .rw [qoa m.D ha (.inl rfl)];simp
       .rw [hargs] at hxx
        simp only [List.cons.injEq,and_true] at hxx
        obtain ⟨rfl,rfl⟩:=hxx
        rw [hnames] at hn
        rcases List.mem_append.1 hn with hn | hn
        .obtain ⟨_,s',hs',hok'⟩:=hsrc a1 s v1 o1 e1 r1 k1 n hn
         exact qhc m.D ha (.inr (.inl ⟨_,rfl,s',List.mem_append.2 (.inl hs'),hok'⟩))
        .obtain ⟨_,s',hs',hok'⟩:=hsrc a2 x v2 o2 e2 r2 k2 n hn
         exact qhc m.D ha (.inr (.inl ⟨_,rfl,s',List.mem_append.2 (.inr hs'),hok'⟩))
      have hfR:fpR B done H.next w f (.reads (jx fr c.args.toList)):=by
       rcases hgf with ⟨rfl,_⟩ | ⟨x1,x2,hxx,_,rfl⟩
       .exact .inr ⟨_,.inr rfl,hall⟩
       .rw [hargs] at hxx
        simp only [List.cons.injEq,and_true] at hxx
        obtain ⟨rfl,rfl⟩:=hxx
        refine ⟨_,rfl,fun n hn=>?_⟩
        rw [hnames] at hn
        rcases List.mem_append.1 hn with hn | hn
        .obtain ⟨h1,s',hs',hok'⟩:=hsrc a1 s v1 o1 e1 r1 k1 n hn
         exact ⟨h1,s',List.mem_append.2 (.inl hs'),hok'⟩
        .obtain ⟨h1,s',hs',hok'⟩:=hsrc a2 x v2 o2 e2 r2 k2 n hn
         exact ⟨h1,s',List.mem_append.2 (.inr hs'),hok'⟩
      have hfw:∀ id,f≠.write id:=by
       intro id
       rcases hgf with ⟨rfl,_⟩ | ⟨_,_,_,_,rfl⟩<;>simp
      generalize hD:(zk b i done).flatMap Done.names=D at *
      let T:=zp H (.reads (jx fr c.args.toList)) D
      have hT:∀ n,n ∈ jx fr c.args.toList->T.get n=H.get n:=fun n hn=>qi0 hn (hall n hn) (hnd n hn)
      obtain ⟨K1,hK1,hcase⟩:=qyc (H:=H) (H1:=T) rfl (fun n hn=>by
       rcases hn with hn | hn
       .exact hT n (hin1 n hn)
       .exact hT n (hin2 n hn)) (by
       rw [hga] at hgaE
       cases v1 with
       | nils=>exact .inl rfl
       | slice nm g off len z cap=>
        cases cap with
        | none=>simp [q13] at hgaE
        | some c'=>exact .inr ⟨_,_,_,_,_,_,_,rfl,hm2,hgaE.symm⟩
       | _=>simp [q13] at hgaE) happ
      have hKn:K1.next=H'.next:=by
       rcases hcase with ⟨rfl,rfl⟩ | ⟨row,rfl,rfl⟩
       .rfl
       .rw [qu,qu];rfl
      refine qdf (fp:=.reads (jx fr c.args.toList)) (out:=.val v) (v:=v) (K:=K1) hw hfp (by simp) (by rw [hD];exact qc9 (fp:=.reads (jx fr c.args.toList)) (lo:=H.next) R.h m.D m.wr (fun id he=>absurd he (hfw id)) hfR ha) ?_ (.inl rfl) (by rw [hKn];exact hnx) ?_
      .rw [hD];exact hev _ _ hK1
      .rw [hD]
       have RJ:RelH X sz C base st' (qbl H K1 (.reads (jx fr c.args.toList)) D) w':=by
        refine R'.congr (fun n=>?_) hKn ?_ ?_
        .rw [qrz]
         rcases hcase with ⟨rfl,rfl⟩ | ⟨row,rfl,rfl⟩
         .rw [zF]
          intro hn
          have:=List.mem_range'_1.1 hn
          have hTn:T.next=H'.next:=rfl
          omega
         .have hTn:(T.new row).next=H.next+1:=qu
          split
          .rename_i hn
           have:=List.mem_range'_1.1 hn
           have:n=H.next:=by omega
           subst this
           rw [qaq]
           exact qaq (H:=T)
          .rename_i hn
           by_cases h2:n=H.next
           .exfalso
            apply hn
            exact List.mem_range'_1.2 ⟨by omega,by omega⟩
           .obtain ⟨t0,nx0,ro0,gl0⟩:=H
            simp only [Heap.new,Heap.get,Tree.ka]
            rw [zF h2]
        .rw [R'.keeps.ro];exact hroB
        .rw [R'.keeps.qt];exact R.h.keeps.qt
       exact next p st' v _ w' _ hk ⟨g1,g2⟩ (more _) (qbh (by rw [ho])) hle (m.go ok g1 g2 RJ hle hr (by show H.next<=K1.next;rw [hKn];exact hnx) ⟨by rw [hKn];exact hnx,zN _⟩ (fun hmk=>by rw [ho] at hmk;simp [makes,hc] at hmk) (hfR.mono hle (fun _ h=>h) hcl') (hkc _ _ hk) (fun id he=>absurd he (hfw id)))
     | false=>
      have hfp:qg2 C.E o fr=.writes (jx fr c.args.toList):=by
       simp only [qg2,ho,ht',Bool.not_true,zQ,hc,hga,zQ]
      have hfl:f=.lone:=by
       rcases hgf with ⟨rfl,_⟩ | ⟨x1,x2,hxx,hgr,rfl⟩
       .rfl
       .exfalso
        rw [hargs] at hxx
        simp only [List.cons.injEq,and_true] at hxx
        obtain ⟨rfl,rfl⟩:=hxx
        unfold qt4 at hgr
        rw [o1] at hgr
        rw [hga] at hgaE
        rcases k1 with ⟨s',rfl⟩ | rfl | ⟨c',l',own,rfl⟩
        .simp at hgr
        .cases r1;simp [q13] at hgaE
        .simp only at hgr
         split at hgr
         .rename_i t'
          split at hgr
          .rename_i j wh hl
           subst hgr
           obtain ⟨nm',len,z,hv1⟩:=(hcm.fresh t' j true v1 hl e1).2 rfl
           subst hv1
           have h0:=hgaE.symm
           simp only [q13,Bool.or_eq_false_iff,Bool.not_eq_false',Nat.ble_eq] at h0
           have h1:=h0.1
           rw [<-Bool.not_eq_true,Nat.beq_eq] at h1
           omega
          .cases hgr
         .cases hgr
      subst hfl
      have hdel:=qoa m.D ha (.inl rfl)
      have htiny:∀ n,n ∈ jx fr c.args.toList->n<H.next->(zp H (.writes (jx fr c.args.toList)) []).get n=H.get n:=fun n h1 h2=>qkd h1 h2 (by simp)
      let T:=zp H (.writes (jx fr c.args.toList)) []
      obtain ⟨K1,hK1,hcase⟩:=qvj (H:=H) (H1:=T) rfl rfl (fun n hn=>by
       rcases hn with hn | hn
       .exact htiny n (hin1 n hn) (hlt s v1 r1 k1 n hn)
       .exact htiny n (hin2 n hn) (hlt x v2 r2 k2 n hn)) happ
      have hKn:K1.next=H'.next:=by
       rcases hcase with ⟨rfl,rfl⟩ | ⟨row,rfl,rfl⟩ | ⟨nm,row,_,_,rfl,rfl⟩
       .rfl
       .rw [qu,qu];rfl
       .rfl
      refine qdf (fp:=.writes (jx fr c.args.toList)) (out:=.val v) (v:=v) (K:=K1) hw hfp (by simp) (qc9 (fp:=.writes (jx fr c.args.toList)) (lo:=H.next) R.h m.D (f:=.lone) m.wr (by simp) (.inr ⟨_,.inl rfl,hall⟩) ha) ?_ (.inl rfl) (by rw [hKn];exact hnx) ?_
      .rw [hdel];exact hev _ _ hK1
      .rw [hdel]
       have RJ:RelH X sz C base st' (qbl H K1 (.writes (jx fr c.args.toList)) []) w':=by
        refine R'.congr (fun n=>?_) hKn ?_ ?_
        .rw [qfw]
         have hT:∀ m,m ∈ (jx fr c.args.toList).filter (fun n=>Nat.blt n H.next&&!([]:List Nat).any fun m=>Nat.beq n m)->T.get m=H.get m:=by
          intro m hm
          simp only [List.mem_filter,zA,Nat.blt_eq] at hm
          exact htiny m hm.1 hm.2.1
         rcases hcase with ⟨rfl,rfl⟩ | ⟨row,rfl,rfl⟩ | ⟨nm,row,hnm',hne,rfl,rfl⟩
         .split
          .rename_i hn
           rcases List.mem_append.1 hn with hn | hn
           .exact hT n hn
           .have:=List.mem_range'_1.1 hn
            have hTn:T.next=H'.next:=rfl
            omega
          .rfl
         .have hTn:(T.new row).next=H.next+1:=qu
          split
          .rename_i hn
           rcases List.mem_append.1 hn with hn | hn
           .have h2:n<H.next:=by
             simp only [List.mem_filter,zA,Nat.blt_eq] at hn
             exact hn.2.1
            rw [qb1 (H:=T) h2,qb1 h2]
            exact hT n hn
           .have:=List.mem_range'_1.1 hn
            have:n=H.next:=by omega
            subst this
            rw [qaq]
            exact qaq (H:=T)
          .rename_i hn
           by_cases h2:n=H.next
           .exfalso
            apply hn
            refine List.mem_append.2 (.inr (List.mem_range'_1.2 ⟨by omega,by omega⟩))
           .have:(H.new row).get n=H.get n:=by
             obtain ⟨t0,nx0,ro0,gl0⟩:=H
             simp only [Heap.new,Heap.get,Tree.ka]
             rw [zF h2]
            rw [this]
         .have hnlt:nm<H.next:=hlt s v1 r1 k1 nm hnm'
          have hTn:(T.put nm row).next-H.next=0:=Nat.sub_self _
          rw [hTn]
          simp only [List.range'_zero,zJ]
          by_cases h2:n=nm
          .subst h2
           rw [zT,j8,j8]
           simp only [List.mem_filter,zA,Nat.blt_eq]
           exact ⟨hin1 n hnm',hnlt,by simp⟩
          .rw [qau h2,qau h2]
           split
           .rename_i hn;exact hT n hn
           .rfl
        .rw [R'.keeps.ro];exact hroB
        .rw [R'.keeps.qt];exact R.h.keeps.qt
       exact next p st' v _ w' _ hk ⟨g1,g2⟩ (more _) (qbh (by rw [ho])) hle (m.go ok g1 g2 RJ hle hr (by show H.next<=K1.next;rw [hKn];exact hnx) ⟨by rw [hKn];exact hnx,zN _⟩ (fun hmk=>by rw [ho] at hmk;simp [makes,hc] at hmk) (.inr ⟨_,.inl rfl,hall⟩) (hkc _ _ hk) (by simp))
    have two:∀ (l:List Operand) s x,qeq (qp X tbl inv meas) C st l=some [s,x]->∃ a1 a2,l=[a1,a2]/\z6 (qp X tbl inv meas) C st a1=some s/\z6 (qp X tbl inv meas) C st a2=some x:=by
     intro l s x hl
     match l,hl with
     | [],hl=>simp [qeq] at hl
     | [a1],hl=>
      simp only [qeq,zH,zI] at hl
      obtain ⟨q,_,hq⟩:=hl
      simp at hq
     | a1::a2::a3::l,hl=>
      simp only [qeq] at hl
      obtain ⟨q1,_,hq⟩:=zI.1 hl
      obtain ⟨q2,hq2,hq3⟩:=zM.1 hq
      obtain ⟨q4,_,hq5⟩:=zI.1 hq2
      obtain ⟨q6,hq6,hq7⟩:=zM.1 hq5
      obtain ⟨q8,_,hq9⟩:=zI.1 hq6
      obtain ⟨q10,_,hq11⟩:=zM.1 hq9
      subst hq11;subst hq7
      simp at hq3
     | [a1,a2],hl=>
      simp only [qeq] at hl
      obtain ⟨q1,h1,hq⟩:=zI.1 hl
      obtain ⟨q2,hq2,hq3⟩:=zM.1 hq
      obtain ⟨q4,h4,hq5⟩:=zI.1 hq2
      simp only [zH,zS] at hq5
      subst hq5
      simp only [List.cons.injEq,and_true] at hq3
      obtain ⟨rfl,rfl⟩:=hq3
      exact ⟨a1,a2,rfl,h1,h4⟩
    unfold qhy at h1
    split at h1
    .contradiction
    .rename_i s x t u _ hats
     obtain ⟨a1,a2,hargs,o1,o2⟩:=two _ _ _ hps
     have hbb:qmy (qp X tbl inv meas) C st a1=false:=by
      obtain ⟨x',y',hxy',hbb⟩:=hbt
      rw [hargs] at hxy'
      cases hxy'
      exact hbb
     obtain ⟨v1,vs',rfl,r1,rr⟩:=rv.zw
     obtain ⟨v2,vs'',rfl,r2,r4⟩:=rr.zw
     have:=r4.z8;subst this
     have hev2:opd fr H a1=some v1/\opd fr H a2=some v2:=by
      rw [hargs] at ev
      simp only [qa5] at ev
      obtain ⟨u1,h1',h2'⟩:=zI.1 ev
      obtain ⟨u2,h3',h4'⟩:=zM.1 h2'
      obtain ⟨u3,h5',h6'⟩:=zI.1 h3'
      simp only [zH,zS] at h6'
      subst h6'
      simp only [List.cons.injEq,and_true] at h4'
      obtain ⟨rfl,rfl⟩:=h4'
      exact ⟨h1',h5'⟩
     have form:∀ (c':Nat) (q:PV K) l',asL (qp X tbl inv meas) c' q=some l'->((∃ s',q=.str s')∨q=.nils∨∃ c l own,q=.list c l own):=by
      intro c' q l' hq
      unfold asL at hq
      split at hq
      .exact .inr (.inl rfl)
      .exact .inr (.inr ⟨_,_,_,rfl⟩)
      .cases hq
     split at h1
     .rename_i ti ui hti hui
      split at h1
      .rename_i e e' hu1 hu2
       split at h1
       .rename_i c' ei hcc hei
        cases hb:(Nat.ble ei.bytes 1024&&!Nat.beq ei.size 0) with
        | false=>rw [hb] at h1;exact absurd h1 id
        | true=>
         rw [hb] at h1
         simp only [zO] at h1
         simp only [zA,Nat.ble_eq] at hb
         split at h1
         .rename_i l' hl
          have rl:=qdh r2 hl
          have hsz:=ok.size e c' ei hcc hei
          obtain ⟨items,hel,hit⟩:=qc3 ok.len R.h.g rl (ok.pos e c' hcc)
          rw [<-hsz] at hel
          obtain ⟨l0,_,_,_,hl0,_⟩:=qkr R.h (qq0 hbb o1) h1
          obtain ⟨p,st',v,H',w',q1,q2,q3,q4,q5,q6,q7⟩:=qdg ok R.h hcc hei hb.1 r1 hel hit h1
          exact fin a1 a2 s x v1 v2 t u ti ui e ei p st' v H' w' hargs o1 o2 hev2.1 hev2.2 r1 r2 (form _ _ _ hl0) (form _ _ _ hl) hats hti hui hu1 (.inl ⟨_,hu2⟩) hei q4 q1 q2 q3 q5 q6 q7
         .exact absurd h1 id
       .split at h1
        .unfold qmy at hbb
         rw [o1] at hbb
         cases hbb
        .exact h1.elim
       .exact absurd h1 id
      .rename_i e hu1 hu2
       split at h1
       .rename_i ei y hcc hei
        cases hb:(Nat.ble ei.bytes 1024&&Nat.beq ei.size 1) with
        | false=>rw [hb] at h1;exact absurd h1 id
        | true=>
         rw [hb] at h1
         simp only [zO] at h1
         simp only [zA,Nat.ble_eq] at hb
         cases r2
         have hs1:=zE hb.2
         obtain ⟨hlen,hit⟩:=qx2 (w:=w) ok y
         have hel:zv H ei.size (.str y)=some ((X.u8 ▸ y:List (K 0)).length,y.map fun b=>V.int .u8 b.toNat):=by rw [hs1,qti,hlen]
         obtain ⟨l0,_,_,_,hl0,_⟩:=qkr R.h (qq0 hbb o1) h1
         obtain ⟨p,st',v,H',w',q1,q2,q3,q4,q5,q6,q7⟩:=qdg ok R.h hcc hei hb.1 r1 hel hit h1
         exact fin a1 a2 s (.str y) v1 (.str y) t u ti ui e ei p st' v H' w' hargs o1 o2 hev2.1 hev2.2 r1 .str (form _ _ _ hl0) (.inl ⟨_,rfl⟩) hats hti hui hu1 (.inr hu2) hei q4 q1 q2 q3 q5 q6 q7
       .exact absurd h1 id
      .exact absurd h1 id
     .exact absurd h1 id
    .contradiction
    .contradiction
    .exact absurd h1 id
   .exact absurd h1 id
  | _=>rw [ho] at hf;simp at hf
end
end Go.E3
