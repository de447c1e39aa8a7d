/- A VERIFIED EVALUATOR, texts E3l, E3m, E3n, E3o, E3p, E3q, E3r, E3s, E3t, E3u in one. -/
import Derived.Test.YtpgchdcifbaioaaGreatDoorM3
/- E3: NEW VARIABLES AND LISTS as operations; CONTRACTS of functions. -/
namespace Go.E3
open Go Go.E2
variable {K:Nat->Type}
section
variable {X:Codecs K} {sz:Nat->Nat} {C:ZC K} {base H:Heap} {st:StV K} {fr:Fr} {w:Wd}
variable {tbl:Tbl K} {inv:Nat->List (NV K)->Prop} {meas:Nat->List (NV K)->Nat}
theorem qt8 {l:List Prop} {p:Prop} (h:zrk (qo X tbl inv meas) l p):(∀ q ∈ l,q)/\p:=by
 induction l with
 | nil=>exact ⟨λq b=>(by cases b),h⟩
 | cons a l c=>
  obtain ⟨d,e⟩:=h;obtain ⟨f,g⟩:=c e;refine ⟨λq b=>?_,g⟩;rcases zD.1 b with rfl | b
  .exact d
  .exact f q b
theorem qui (ok:CfgOk X sz C) {c:Nat}:∀ {n:Nat} {ps:List (PV K)} {us:List V} {r:List Prop×List (K c)},qu X sz w ps us->zc8 (qo X tbl inv meas) c (chunks (sz c) n ps)=some r->(∀ q ∈ r.1,q)->
  qu X sz w (r.2.flatMap (X.cells c)) (us.take (n * sz c))/\r.2.length=n
 | 0,ps,us,r,_,h,_=>by
  simp only [chunks,zc8,zS] at h;subst h;simp only [List.flatMap_nil,Nat.zero_mul,List.take_zero];exact ⟨.nil,rfl⟩
 | n+1,ps,us,r,f,h,g=>by
  simp only [chunks,zc8] at h;obtain ⟨a,i,j⟩:=zI.1 h;obtain ⟨rs,k,l⟩:=zM.1 j;subst l;have m:=ok.pack c _ a.1 a.2 i (g a.1 zC) w _ (f.take (sz c));obtain ⟨b,d⟩:=qui ok (f.drop (sz c)) k (λq e=>g q (zG _ e));refine ⟨?_,by simp only [List.length_cons,d]⟩;simp only [List.flatMap_cons];have o:us.take ((n+1) * sz c)=us.take (sz c)++(us.drop (sz c)).take (n * sz c):=by
   rw [Nat.add_mul,Nat.one_mul,Nat.add_comm,List.take_add]
  rw [o];exact m.append b
theorem qsf {ps:List (PV K)} {a:List V} (h:qu X sz w ps a):∀ n,qu X sz w (List.replicate n ps).flatten (List.replicate n a).flatten
 | 0=>by simpa using qu.nil
 | n+1=>by
  rw [List.replicate_succ,List.replicate_succ,List.flatten_cons,List.flatten_cons];exact h.append (qsf h n)
def z8p (X:Codecs K) (sz:Nat->Nat) (C:ZC K) (base H:Heap) (st:StV K) (w:Wd) (o:Oper) (fr:Fr) (k:PV K->StV K->Prop):Prop:=
 ∃ p a v row w',k p a/\a.tmps=st.tmps/\a.n=st.n/\RelH X sz C base a (H.new row) w'/\Le w w'/\Rep X sz w' p v/\
  ∀ fr' H',H'.next=H.next->(∀ x ∈ o.op.operands.toList,opd fr' H' x=opd fr H x)->jk C.E o fr' H'=some (.val v,H'.new row)
def qqv (op:Op):Bool:=
 match op with
 | .alloc _ | .box .. | .buildSlice .. | .makeMap ..=>true
 | _=>false
theorem zck (ok:CfgOk X sz C) (R:Rel X sz C base st fr H w) {inl:ZI K} {o:Oper} {k:PV K->StV K->Prop} (Y:qqv o.op=true)
  (h:qdd (qo X tbl inv meas) C inl o st k):z8p X sz C base H st w o fr k:=by
 cases b:o.op with
 | alloc e=>
  simp only [qdd,b] at h;obtain ⟨ti,f,d⟩:=qe h;obtain ⟨cs,Z,B⟩:=qe d;obtain ⟨w',s,a,r⟩:=qsc ok R.h (e:=e) (qjo (X:=X) (sz:=sz) (w:=w) Z);refine ⟨_,_,_,_,w',B,rfl,rfl,s,a,r,λfr' H' D l=>?_⟩;simp only [jk,b,f,zH,D];rfl
 | box e x=>
  simp only [qdd,b] at h;obtain ⟨p,a1,d⟩:=qe h;obtain ⟨v,ev,V⟩:=zc R a1;cases M:p.cellsOf.all qa2 with
  | false=>rw [M] at d;exact absurd d id
  | true=>
   rw [M] at d;simp only [zO] at d;obtain ⟨w',s,a,r⟩:=qsc ok R.h (e:=e) V.cells;refine ⟨_,_,_,_,w',d,rfl,rfl,s,a,r,λfr' H' D l=>?_⟩;have e1:=(l x (by simp [b,Op.operands])).trans ev;simp only [jk,b,e1,zB,D];rfl
 | buildSlice t len parts=>
  simp only [qdd,b] at h;obtain ⟨ti,f,d⟩:=qe h;obtain ⟨ps,a6,B⟩:=qe d;obtain ⟨vs,ev,V⟩:=qej R a6;split at B
  .rename_i e hu;obtain ⟨q,F,h3⟩:=qe B;obtain ⟨z,hz,G⟩:=qe h3;cases M:Nat.ble (len * q.size) 16777216 with
   | false=>rw [M] at G;exact absurd G id
   | true=>
    rw [M] at G;simp only [zO] at G;obtain ⟨cells,hf,u⟩:=qe G;have rz:=qsf (qjo (X:=X) (sz:=sz) (w:=w) hz) len;obtain ⟨us,a7,I⟩:=qmu (parts:=(parts.toList.map (·.1)).zip ps) (vparts:=(parts.toList.map (·.1)).zip vs) (zip_fst V.1) (zar V) rz hf;have hB:Bump st {st with owns:=(st.next,0)::st.owns,next:=st.next+1} st.next 0:=by
     have J:look st.owns st.next=none:=by
      cases hl:look st.owns st.next with
      | none=>rfl
      | some g=>have:=R.h.ownn _ _ hl;omega
     exact ⟨rfl,rfl,rfl,rfl,λj=>qcb,Nat.le_succ _,Nat.lt_succ_self _,λg N=>(by rw [J] at N;cases N),λ_=>zN _⟩
    obtain ⟨w',s,a,ow,et,hM,D⟩:=qsd (named:=false) ok R.h hB (row:=.row us e 0 0 0 true);have N:w'.g H.next=some (.row us e 0 0 0 true):=by rw [s.g];exact qcp
    have O:∀ (fr':Fr) (H':Heap),H'.next=H.next->(∀ x ∈ o.op.operands.toList,opd fr' H' x=opd fr H x)->jk C.E o fr' H'=some (.val (.slice H.next 0 0 len q.size (some len)),H'.new (.row us e 0 0 0 true)):=by
     intro fr' H' a8 l;have e1:qdm fr' H' (parts.toList.map (·.2))=some vs:=by
      rw [qhj λx hx=>l x ?_]
      .exact ev
      .simpa [b,Op.operands] using hx
     simp only [jk,b,f,e1,zB,hu,F,M,zO,a7,zH,a8];rfl
    split at u
    .rename_i c A;have hc:C.codec e=some c:=by
      cases P:C.born t with
      | true=>rw [P] at A;cases A
      | false=>rw [P] at A;exact A
     obtain ⟨r,W,h7⟩:=qe u;obtain ⟨L,h8⟩:=qt8 h7;have Q:=ok.size e c q hc F;have S:=ok.pos e c hc;rw [Q] at W;obtain ⟨T,n⟩:=qui ok I W L;have aa:len * sz c<=us.length:=by
      have:=T.1;rw [qev ok.len,n,List.length_take] at this;omega
     refine ⟨_,_,.slice H.next 0 0 len q.size (some len),.row us e 0 0 0 true,w',h8,rfl,rfl,s,a,?_,O⟩;rw [Q];have:=qk1 (own:=some (st.next,0)) (cap:=some len) (off:=0) (gn:=0) ok.len N (zN _) hM S (λk hk=>by cases hk;omega) (T.mono ok.len a) (by rw [List.length_take];omega)
      (λm W=>by
        rw [List.length_take] at W;rw [Nat.zero_add,List.getD_eq_getElem?_getD,List.getD_eq_getElem?_getD,List.getElem?_take,zT (by omega)])
      ⟨by rw [D];exact Nat.lt_succ_self _,λab U=>(by rw [ow] at U;cases U;exact zN _),λ_=>.inl (by rw [n]),λh=>by cases h⟩
     rw [n] at this;exact this
    .cases L:(Nat.blt 0 q.size&&Nat.beq cells.length (len * q.size)) with
     | false=>rw [L] at u;exact absurd u id
     | true=>
      rw [L] at u;simp only [zO] at u;simp only [zA] at L;have q1:0<q.size:=Nat.le_of_ble_eq_true L.1;have q2:=zE L.2;refine ⟨_,_,.slice H.next 0 0 len q.size (some len),.row us e 0 0 0 true,w',u,rfl,rfl,s,a,.plist N (zN _) hM q1 q2 (by rw [I.1];omega) (λj p Y=>?_),O⟩;rw [Nat.zero_add];exact (I.2 j p Y).mono ok.len a
  .exact absurd B id
 | makeSlice t x y=>
  simp only [qdd,b] at h;exact h.elim
 | makeMap t x=>
  cases x with
  | some x=>simp only [qdd,b] at h;exact h.elim
  | none=>
   simp only [qdd,b] at h;obtain ⟨ti,f,d⟩:=qe h;split at d
   .rename_i kt et hu;obtain ⟨ki,ad,B⟩:=qe d;obtain ⟨q,F,h3⟩:=qe B;obtain ⟨c,hc,G⟩:=qe h3;obtain ⟨lf,ae,u⟩:=qe G;obtain ⟨w',s,a,h6,h7⟩:=qk9 ok R.h (ct:=.mp c lf q.isAgg []) (row:=.map [] 0) (lp':=w.lp) (λ_ _=>rfl) (λw' _ _=>⟨[],0,rfl,rfl,λi x e hx=>by simp at hx⟩);refine ⟨_,_,.map H.next,_,w',u,rfl,rfl,s,a,?_,λfr' H' D l=>?_⟩
    .have:=Rep.map (X:=X) (sz:=sz) (w:=w') h7;rw [h6] at this;exact this
    .simp only [jk,b,f,zB,hu,D]
   .exact d.elim
 | _=>simp [qqv,b] at Y
inductive Plain:PV K->Prop
 | int {k:IntKind} {l:Option Int} {n:Int}:Plain (.int k l n)
 | lit {b:Bool}:Plain (.lit b)
 | sb {neg b:Bool} {pt pf:Prop}:Plain (.sb 0 neg b pt pf)
 | str {s:List UInt8}:Plain (.str s)
 | nils:Plain .nils
 | list {c:Nat} {l:List (K c)}:Plain (.list c l none)
 | nilp:Plain .nilp
 | nilf:Plain .nilf
 | nili:Plain .nili
 | func {f:Nat}:Plain (.func f [] [])
 | agg {ps:List (PV K)} (h:∀ p ∈ ps,Plain p):Plain (.agg ps)
 | eptr {ps:List (PV K)} {off:Nat} (h:∀ p ∈ ps,Plain p):Plain (.eptr ps off)
 | plist {es n:Nat} {fx:Bool} {ps:List (PV K)} (h:∀ p ∈ ps,Plain p):Plain (.plist es n fx ps)
theorem Rep.plain {w w':Wd} (t:∀ c x p,p ∈ X.cells c x->Plain p) (u:w'.g=w.g) (y:∀ nm x,w.g nm=some x->¬ w.M nm->¬ w'.M nm) {p:PV K} {v:V} (r:Rep X sz w p v) (b:Plain p):Rep X sz w' p v:=by
 induction r with
 | int h=>exact .int h
 | lit=>exact .lit
 | sb l m F=>cases b;exact .sb l m λz=>absurd rfl z
 | str=>exact .str
 | nils=>exact .nils
 | nlist A=>cases b;exact .nlist trivial
 | list a n d o B C q s A k=>
  cases b;exact .list (by rw [u];exact a) n (y _ _ a d) o B C q (λi hi j p e=>k i hi j p e (t _ _ p (List.mem_of_getElem? e))) trivial
 | cell=>cases b
 | mlist=>cases b
 | mptr=>cases b
 | eptr a n d l m s k=>
  cases b with
  | eptr f=>exact .eptr (by rw [u];exact a) n (y _ _ a d) l m (λj p e=>k j p e (f p (List.mem_of_getElem? e)))
 | nilp=>exact .nilp
 | map=>cases b
 | func D s l m=>cases b;exact .func D s (λj p h=>by simp at h) (λj p h=>by simp at h)
 | nilf=>exact .nilf
 | yield=>cases b
 | iface=>cases b
 | nili=>exact .nili
 | agg E _ k=>
  cases b with
  | agg f=>exact .agg E λj p e=>k j p e (f p (List.mem_of_getElem? e))
 | tuple=>cases b
 | plist a n d z l m s k=>
  cases b with
  | plist f=>exact .plist (by rw [u];exact a) n (y _ _ a d) z l m (λj p e=>k j p e (f p (List.mem_of_getElem? e)))
theorem Rep.zvt {w w':Wd} (J:∀ c x,(X.cells c x).length=sz c) (H:∀ c x p,p ∈ X.cells c x->Plain p)
  (hm:∀ nm cs e gen a u ex,w.g nm=some (.row cs e gen a u ex)->¬ w.M nm->¬ w'.M nm/\∃ cs2 b f ex',w'.g nm=some (.row (cs++cs2) e b a f ex')) {p:PV K} {v:V} (r:Rep X sz w p v) (k:Plain p):Rep X sz w' p v:=by
 induction r with
 | int h=>exact .int h
 | lit=>exact .lit
 | sb s F Q=>cases k;exact .sb s F λI=>absurd rfl I
 | str=>exact .str
 | nils=>exact .nils
 | nlist L=>cases k;exact .nlist trivial
 | @list c l own nm gn off len z cap cs e gen a u ex n A o t R N B G L y=>
  cases k;obtain ⟨C,cs2,b,f,ex',D⟩:=hm _ _ _ _ _ _ _ n o;refine .list D A C t (by rw [List.length_append];omega) N B (λi hi j p m=>?_) trivial;have E:j<sz c:=by
   have:=(List.getElem?_eq_some_iff.1 m).1;rw [J] at this;exact this
  have:off+i * sz c+j<cs.length:=by
   have s:i * sz c+sz c<=l.length * sz c:=by
    have:(i+1) * sz c<=l.length * sz c:=zU _ hi;rw [Nat.succ_mul] at this;exact this
   rw [<-t] at s;omega
  rw [qcz this];exact y i hi j p m (H _ _ p (List.mem_of_getElem? m))
 | cell=>cases k
 | mlist=>cases k
 | mptr=>cases k
 | @eptr ps off nm gn d lim cs e gen a u ex n A o s F G y=>
  cases k with
  | eptr q=>
   obtain ⟨C,cs2,b,f,ex',D⟩:=hm _ _ _ _ _ _ _ n o;refine .eptr D A C s (by rw [List.length_append];omega) (λj p m=>?_);have E:=(List.getElem?_eq_some_iff.1 m).1;rw [qcz (by omega)];exact y j p m (q p (List.mem_of_getElem? m))
 | nilp=>exact .nilp
 | map=>cases k
 | func O G s F=>cases k;exact .func O G (λj p h=>by simp at h) (λj p h=>by simp at h)
 | nilf=>exact .nilf
 | yield=>cases k
 | iface=>cases k
 | nili=>exact .nili
 | agg P _ y=>
  cases k with
  | agg q=>exact .agg P λj p m=>y j p m (q p (List.mem_of_getElem? m))
 | tuple=>cases k
 | plist n A o I s F G y=>
  cases k with
  | plist q=>
   obtain ⟨C,cs2,b,f,ex',D⟩:=hm _ _ _ _ _ _ _ n o;refine .plist D A C I s (by rw [List.length_append];omega) (λj p m=>?_);have E:=(List.getElem?_eq_some_iff.1 m).1;rw [qcz (by omega)];exact y j p m (q p (List.mem_of_getElem? m))
def wd0 (H:Heap) (M:Nat->Prop) (ce:TypeId->Option Nat):Wd:=
 {g:=H.get,M:=M,c:=λ_=>0,nu:=λ_=>false,n:=0,owns:=λ_=>none,eta:=λ_=>none,ce:=ce,cl:=λ_=>False,nx:=H.next,b:=H.next,lp:=λ_=>none,fl:=0}
structure Start (X:Codecs K) (sz:Nat->Nat) (C:ZC K) (H:Heap) (M:Nat->Prop):Prop where
 wf:∀ n,H.next<=n->H.get n=none
 ro:H.ro<=H.next/\H.zm=C.ng/\∀ gn o,C.gobj gn=some o->H.get gn=some o/\gn<H.next
 Mlt:∀ n,M n->n<H.next
 globs:∀ gn ps,C.zm gn=some ps->gn<H.zm/\∃ vs e fl fz ex,H.get gn=some (.row vs e 0 fl fz ex)/\gn<H.next/\Rep X sz (wd0 H M C.codec) (.eptr ps 0) (.ptr gn 0 0 vs.length)
structure Answer (X:Codecs K) (sz:Nat->Nat) (C:ZC K) (H:Heap) (M:Nat->Prop) (r:PV K) (m:Nat) (v:V) (H':Heap) (w':Wd):Prop where
 keeps:Keeps H H'
 wf:∀ n,H'.next<=n->H'.get n=none
 g:w'.g=H'.get
 M:∀ n,n<H.next->(w'.M n↔M n)
 Mlt:∀ n,w'.M n->n<H'.next
 ce:w'.ce=C.codec
 n:w'.n=m
 owns:∀ i,w'.owns i=some 0
 eta:∀ i nm,w'.eta i=some nm->H.next<=nm/\nm<H'.next/\¬ w'.M nm
 einj:∀ i j nm,w'.eta i=some nm->w'.eta j=some nm->i=j
 rep:Rep X sz w' r v
def qqj (l:List Nat):Nat:=l.foldl (λa i=>max a (i+1)) 0
def jd (X:Codecs K) (sz:Nat->Nat) (C:ZC K) (f:Nat) (args:List (PV K)) (r:PV K):Prop:=
 ∀ (H:Heap) (M:Nat->Prop) (a:List V),Start X sz C H M->qu X sz (wd0 H M C.codec) args a->qdv C.E (.func f) a H λv H'=>∃ w',Answer X sz C H M r (qqj (qcr r.flat)) v H' w'
end
end Go.E3
/- E3: CALLS OF FUNCTIONS WITH CONTRACTS. -/
namespace Go.E3
open Go Go.E2
variable {K:Nat->Type}
inductive Simple:PV K->Prop
 | int {k:IntKind} {l:Option Int} {n:Int}:Simple (.int k l n)
 | lit {b:Bool}:Simple (.lit b)
 | sb {neg b:Bool} {pt pf:Prop}:Simple (.sb 0 neg b pt pf)
 | str {s:List UInt8}:Simple (.str s)
 | list {c:Nat} {l:List (K c)}:Simple (.list c l none)
 | own {c:Nat} {l:List (K c)} {i:Nat}:Simple (.list c l (some (i,0)))
 | func {f:Nat}:Simple (.func f [] [])
 | nilf:Simple .nilf
 | plist {es n:Nat} {fx:Bool} {ps:List (PV K)} (h:∀ p ∈ ps,p=.nilf∨∃ f,p=.func f [] []):Simple (.plist es n fx ps)
inductive Form1:PV K->Prop
 | one {p:PV K} (h:Simple p):Form1 p
 | agg {ps:List (PV K)} (h:∀ p ∈ ps,Simple p):Form1 (.agg ps)
inductive Form:PV K->Prop
 | one {p:PV K} (h:Form1 p):Form p
 | tuple {l:List (PV K)} (h:∀ p ∈ l,Form1 p):Form (.tuple l)
def qgw:List SK->List (NV K)->Option (List (PV K)×List (NV K))
 | [],ns=>some ([],ns)
 | .int k::ks,.i n::ns=>(qgw ks ns).map λr=>(.int k none n::r.1,r.2)
 | .bool::ks,.b b::ns=>(qgw ks ns).map λr=>(.sb 0 false b (b=true) (b=false)::r.1,r.2)
 | .str::ks,.s s::ns=>(qgw ks ns).map λr=>(.str s::r.1,r.2)
 | .list _ _ _::ks,.l c l::ns=>(qgw ks ns).map λr=>(.list c l none::r.1,r.2)
 | _,_=>none
def qsx:List Sh->List (NV K)->Option (List (PV K))
 | [],[]=>some []
 | .one k::a,ns=>(qgw [k] ns).bind λr=>(qsx a r.2).map λl=>r.1++l
 | .agg ks::a,ns=>(qgw ks ns).bind λr=>(qsx a r.2).map λl=>.agg r.1::l
 | _,_=>none
section
variable {X:Codecs K} {sz:Nat->Nat} {C:ZC K} {base H:Heap} {st:StV K} {fr:Fr} {w:Wd}
variable {tbl:Tbl K} {inv:Nat->List (NV K)->Prop} {meas:Nat->List (NV K)->Nat}
def qke (X:Codecs K) (sz:Nat->Nat) (C:ZC K) (tbl:Tbl K):Prop:=
 ∀ f a b ns c r,tbl f=some (a,b)->b ns=some (c,r)->c->∃ args,qsx a ns=some args/\jd X sz C f args r/\Form r
theorem qel (i:∀ c x p,p ∈ X.cells c x->Plain p) {w':Wd} (u:w'.g=w.g) (y:∀ nm x,w.g nm=some x->¬ w.M nm->¬ w'.M nm):∀ {ks:List SK} {ps:List (PV K)} {z:List V} {ns d:List (NV K)} {r:List (PV K)×List (NV K)},
  qob (qo X tbl inv meas) st ks ps=some ns->qu X sz w ps z->qgw ks (ns++d)=some r->r.2=d/\qu X sz w' r.1 z
 | [],[],z,ns,d,r,h,A,e=>by
  simp only [qob,zS] at h;subst h;simp only [List.nil_append,qgw,zS] at e;subst e;rw [A.jb];exact ⟨rfl,.nil⟩
 | [],_::_,z,ns,d,r,h,A,e=>by simp [qob] at h
 | _::_,[],z,ns,d,r,h,A,e=>by simp [qob] at h
 | k::ks,p::ps,z,ns,d,r,h,A,e=>by
  obtain ⟨v,H,rfl,B,C⟩:=A.z7;simp only [qob] at h;obtain ⟨a,f,I⟩:=zI.1 h;obtain ⟨J,D,L⟩:=zM.1 I;subst L;rw [List.append_assoc] at e;unfold qvv at f;split at f
  .rename_i T N l n;split at f
   .rename_i O;subst O;cases f;cases B;simp only [List.singleton_append,qgw] at e;obtain ⟨q,j,rfl⟩:=zM.1 e;obtain ⟨o,t⟩:=qel i u y D C j;exact ⟨o,.cons (.int λm P=>by cases P) t⟩
   .cases f
  .rename_i b;cases f;cases B;simp only [List.singleton_append,qgw] at e;obtain ⟨q,j,rfl⟩:=zM.1 e;obtain ⟨o,t⟩:=qel i u y D C j;exact ⟨o,.cons (.sb .rfl .rfl λE=>absurd rfl E) t⟩
  .rename_i id neg b U W;cases f;cases B;simp only [List.singleton_append,qgw] at e;obtain ⟨q,j,rfl⟩:=zM.1 e;obtain ⟨o,t⟩:=qel i u y D C j;exact ⟨o,.cons (.sb .rfl .rfl λE=>absurd rfl E) t⟩
  .rename_i s;cases f;cases B;simp only [List.singleton_append,qgw] at e;obtain ⟨q,j,rfl⟩:=zM.1 e;obtain ⟨o,t⟩:=qel i u y D C j;exact ⟨o,.cons .str t⟩
  .rename_i Y Q R;cases G:((Q&&!qfh st p) || (R&&!zuw p)) with
   | true=>rw [G] at f;cases f
   | false=>
    rw [G] at f;simp only [zQ] at f;obtain ⟨l,S,F⟩:=zM.1 f;subst F;simp only [List.singleton_append,qgw] at e;obtain ⟨q,j,rfl⟩:=zM.1 e;obtain ⟨o,t⟩:=qel i u y D C j;exact ⟨o,.cons ((qe5 B S).plain i u y .list) t⟩
  .simp only [qgw] at e;cases e
  .simp only [List.singleton_append,qgw] at e;cases e
  .cases f
theorem qoj (e:∀ c x p,p ∈ X.cells c x->Plain p) {w':Wd} (n:w'.g=w.g) (o:∀ nm x,w.g nm=some x->¬ w.M nm->¬ w'.M nm):∀ {b:List Sh} {ps:List (PV K)} {f:List V} {ns:List (NV K)} {args:List (PV K)},
  qr6 (qo X tbl inv meas) st b ps=some ns->qu X sz w ps f->qsx b ns=some args->qu X sz w' args f
 | [],[],f,ns,args,h,i,d=>by
  simp only [qr6,zS] at h;subst h;simp only [qsx,zS] at d;subst d;rw [i.jb];exact .nil
 | [],_::_,f,ns,args,h,i,d=>by simp [qr6] at h
 | .one k::b,[],f,ns,args,h,i,d=>by simp [qr6] at h
 | .agg k::b,[],f,ns,args,h,i,d=>by simp [qr6] at h
 | .one k::b,p::ps,f,ns,args,h,i,d=>by
  obtain ⟨v,r,rfl,s,t⟩:=i.z7;simp only [qr6] at h;obtain ⟨a,u,y⟩:=zI.1 h;obtain ⟨z,A,B⟩:=zM.1 y;subst B;simp only [qsx] at d;obtain ⟨q,C,j⟩:=zI.1 d;obtain ⟨l,m,rfl⟩:=zM.1 j;have D:qob (qo X tbl inv meas) st [k] [p]=some a:=by
   simp only [qob,u,zB,zH,zJ]
  obtain ⟨E,F⟩:=qel e n o D (.cons s .nil) C;rw [E] at m;exact F.append (qoj e n o A t m)
 | .agg ks::b,p::ps,f,ns,args,h,i,d=>by
  obtain ⟨v,r,rfl,s,t⟩:=i.z7;cases p with
  | agg cs=>
   obtain ⟨a,u,y⟩:=zI.1 h;obtain ⟨z,A,B⟩:=zM.1 y;subst B;obtain ⟨q,C,j⟩:=zI.1 d;obtain ⟨l,m,rfl⟩:=zM.1 j;obtain ⟨us,rfl,G⟩:=s.qi8;obtain ⟨E,F⟩:=qel e n o u G C;rw [E] at m;exact .cons (.qy4 F) (qoj e n o A t m)
  | _=>simp [qr6] at h
theorem qwq:∀ (l:List Nat) (a:Nat),a<=l.foldl (λa i=>max a (i+1)) a/\∀ i ∈ l,i<l.foldl (λa i=>max a (i+1)) a
 | [],a=>⟨zN _,λi hi=>(by cases hi)⟩
 | j::l,a=>by
  obtain ⟨c,b⟩:=qwq l (max a (j+1));simp only [List.foldl_cons];refine ⟨by omega,λi hi=>?_⟩;rcases zD.1 hi with rfl | hi
  .omega
  .exact b i hi
theorem zuj {l:List (Nat×Nat)} {a:List Nat} {nx j:Nat}:look (a.map (λi=>(nx+i,0))++l) j=if nx<=j/\j-nx ∈ a then some 0 else look l j:=by
 induction a with
 | nil=>simp
 | cons i a b=>
  simp only [List.map_cons,List.cons_append,look,cond_eq_ite,Nat.beq_eq,b];by_cases h:nx+i=j
  .grind
  .grind
theorem qyx (a:∀ c x p,p ∈ X.cells c x->Plain p) {w1 w2:Wd} {nx:Nat} (d:w2.g=w1.g) (G:w2.M=w1.M) (C:w2.ce=w1.ce) (I:∀ i,i<w1.n->nx+i<w2.n) (s:∀ i,w2.eta (nx+i)=w1.eta i) (J:∀ i,w1.owns i=some 0)
  {p:PV K} {v:V} (r:Rep X sz w1 p v) (H:Simple p):Rep X sz w2 (qme nx p) v:=by
 have b:∀ nm x,w1.g nm=some x->¬ w1.M nm->¬ w2.M nm:=λnm x _ h=>by rw [G];exact h
 cases H with
 | int=>exact r.plain a d b .int
 | lit=>exact r.plain a d b .lit
 | sb=>exact r.plain a d b .sb
 | str=>exact r.plain a d b .str
 | list=>exact r.plain a d b .list
 | func=>exact r.plain a d b .func
 | nilf=>exact r.plain a d b .nilf
 | plist h=>exact r.plain a d b (.plist λp A=>by rcases h p A with rfl | ⟨f,rfl⟩<;>constructor)
 | @own c l i=>
  have t:∀ u,qpu w1 sz c (some (i,0)) u->qpu w2 sz c (some (nx+i,0)) u:=by
   rintro u ⟨L,T,N,_⟩;refine ⟨I i L,λO _=>Nat.zero_le _,λH=>?_,λh=>by cases h⟩;have B:=N (J i);cases u with
   | nils=>trivial
   | slice nm gn off len z cap=>
    rcases B with B | ⟨k,P,cs,e,m,w,ex,o,D⟩
    .exact .inl B
    .exact .inr ⟨k,by rw [s];exact P,cs,e,m,w,ex,by rw [d];exact o,D.1,D.2.1,by rw [C];exact D.2.2⟩
   | _=>exact B
  rcases qav r with ⟨rfl,rfl⟩ | ⟨nm,gn,off,z,cap,cs,e,gen,m,w,ex,rfl,o,Q,E,y,R,k,q,F⟩
  .cases r with
   | nlist h=>exact .nlist (t _ h)
  .exact .list (by rw [d];exact o) Q (by rw [G];exact E) rfl y R k (λS hi j p A=>(q S hi j p A).plain a d b (a _ _ p (List.mem_of_getElem? A))) (t _ F)
theorem qvt (b:∀ c x p,p ∈ X.cells c x->Plain p) {w1 w2:Wd} {nx:Nat} (f:w2.g=w1.g) (j:w2.M=w1.M) (d:w2.ce=w1.ce) (k:∀ i,i<w1.n->nx+i<w2.n) (a:∀ i,w2.eta (nx+i)=w1.eta i) (l:∀ i,w1.owns i=some 0) :
  ∀ {ps:List (PV K)} {e:List V},qu X sz w1 ps e->(∀ p ∈ ps,Simple p)->qu X sz w2 (ps.map (qme nx)) e
 | [],e,r,_=>by rw [r.jb];exact .nil
 | p::ps,e,r,h=>by
  obtain ⟨v,m,rfl,o,s⟩:=r.z7;exact .cons (qyx b f j d k a l o (h p zC)) (qvt b f j d k a l s λq t=>h q (zG _ t))
def q95 (nx:Nat) (p:PV K):PV K:=match p with
 | .agg cs=>.agg (cs.map (qme nx))
 | p=>qme nx p
theorem q1m (b:∀ c x p,p ∈ X.cells c x->Plain p) {w1 w2:Wd} {nx:Nat} (f:w2.g=w1.g) (j:w2.M=w1.M) (d:w2.ce=w1.ce) (k:∀ i,i<w1.n->nx+i<w2.n) (a:∀ i,w2.eta (nx+i)=w1.eta i) (l:∀ i,w1.owns i=some 0)
  {p:PV K} {v:V} (r:Rep X sz w1 p v) (m:Form1 p):Rep X sz w2 (q95 nx p) v:=by
 cases m with
 | one h=>
  have e:q95 nx p=qme nx p:=by cases h<;>rfl
  rw [e];exact qyx b f j d k a l r h
 | agg h=>
  obtain ⟨q,rfl,o⟩:=r.qi8;exact .qy4 (qvt b f j d k a l o h)
theorem znj (b:∀ c x p,p ∈ X.cells c x->Plain p) {w1 w2:Wd} {nx:Nat} (f:w2.g=w1.g) (j:w2.M=w1.M) (d:w2.ce=w1.ce) (k:∀ i,i<w1.n->nx+i<w2.n) (a:∀ i,w2.eta (nx+i)=w1.eta i) (m:∀ i,w1.owns i=some 0)
  {p:PV K} {v:V} (r:Rep X sz w1 p v) (s:Form p):Rep X sz w2 (qk2 (qme nx) p) v:=by
 cases s with
 | one h=>
  have e:qk2 (qme nx) p=q95 nx p:=by
   cases h with
   | one h=>cases h<;>rfl
   | agg h=>rfl
  rw [e];exact q1m b f j d k a m r h
 | @tuple l h=>
  obtain ⟨t,rfl,o⟩:=r.qi6;have e:qk2 (qme nx) (.tuple l)=(.tuple (l.map (q95 nx)):PV K):=by
   simp only [qk2];congr 1;exact List.map_congr_left λp _=>by cases p<;>rfl
  rw [e];refine .tuple' ?_;clear r e
  induction l generalizing t with
  | nil=>rw [o.jb];exact .nil
  | cons q l u=>
   obtain ⟨v,w,rfl,y,z⟩:=o.z7;exact .cons (q1m b f j d k a m y (h q zC)) (u (λp A=>h p (zG _ A)) _ z)
theorem qfw (d:∀ c x,(X.cells c x).length=sz c):∀ {ps:List (PV K)} {l:List V} {w:Wd},qu X sz w ps l->1<=w.n->
  ∃ nu',(∀ id,id<w.n->nu' id=w.nu id)/\w.n<=(qbi ps w.n).2/\qu X sz {w with n:=(qbi ps w.n).2,nu:=nu'} (qbi ps w.n).1 l
 | [],l,w,r,o=>⟨w.nu,λ_ _=>rfl,zN _,by simp only [qbi];exact r⟩
 | p::ps,l,w,r,o=>by
  obtain ⟨v,z,rfl,q,s⟩:=r.z7;by_cases A:∃ neg b h i,p=.sb 0 neg b h i
  .obtain ⟨neg,b,h,i,rfl⟩:=A;cases q with | sb B C F=>
   have t:Le w {w with n:=w.n+1,nu:=λid=>if id=w.n then (b != neg) else w.nu id}:=Le.ext (Nat.le_succ _) (λid hi=>by rw [zF (by omega)]);obtain ⟨nu',g1,a,f⟩:=qfw d (s.mono d t) (by show 1<=w.n+1;omega);simp only at g1 a f;have e:qbi (.sb 0 neg b h i::ps) w.n=(.sb w.n neg b h i::(qbi ps (w.n+1)).1,(qbi ps (w.n+1)).2):=by simp only [qbi]
   rw [e];refine ⟨nu',λid hi=>?_,zR (Nat.le_succ _) a,.cons (.sb B C λG=>⟨a,?_⟩) f⟩
   .rw [g1 id (by omega),zF (by omega)]
   .show b=(nu' w.n != neg);rw [g1 w.n (by omega),zT rfl];cases b<;>cases neg<;>rfl
  .by_cases D:∃ cs,p=.agg cs
   .obtain ⟨cs,rfl⟩:=D;obtain ⟨us,rfl,E⟩:=q.qi8;obtain ⟨g,u,y,a3⟩:=qhv d E o;have j:Le w {w with n:=(qco cs w.n).2,nu:=g}:=Le.ext y u;obtain ⟨nu',g1,a,f⟩:=qfw d (s.mono d j) (by show 1<=(qco cs w.n).2;omega);simp only at g1 a f;have e:qbi (.agg cs::ps) w.n=(.agg (qco cs w.n).1::(qbi ps (qco cs w.n).2).1,(qbi ps (qco cs w.n).2).2):=by simp only [qbi]
    rw [e];have k:Le {w with n:=(qco cs w.n).2,nu:=g} {w with n:=(qbi ps (qco cs w.n).2).2,nu:=nu'}:=Le.ext (w:={w with n:=(qco cs w.n).2,nu:=g}) a g1;exact ⟨nu',λid hi=>(g1 id (by omega)).trans (u id hi),zR y a,.cons (.qy4 (a3.mono d k)) f⟩
   .obtain ⟨nu',g1,a,f⟩:=qfw d s o;have e:qbi (p::ps) w.n=(p::(qbi ps w.n).1,(qbi ps w.n).2):=by
     cases p with
     | sb id neg b h i=>
      cases id with
      | zero=>grind
      | succ m=>rfl
     | agg cs=>simp_all
     | _=>rfl
    rw [e];exact ⟨nu',g1,a,.cons (q.mono d (Le.ext a g1)) f⟩
end
section
variable {X:Codecs K} {sz:Nat->Nat} {C:ZC K} {base H:Heap} {st:StV K} {fr:Fr} {w:Wd}
variable {tbl:Tbl K} {inv:Nat->List (NV K)->Prop} {meas:Nat->List (NV K)->Nat}
theorem je {α:Type} {c:Bool} {x y:Option α} {r:α} (h:(bif c then x else y)=some r):(c=false/\y=some r)∨(c=true/\x=some r):=by
 cases c with
 | false=>simp_all
 | true=>simp_all
theorem z0d (ok:CfgOk X sz C) (R:RelH X sz C base st H w) {c:Bool×Prop×Prop} (b:qkf c):∃ w',RelH X sz C base (zdd st c).2 H w'/\Le w w'/\Rep X sz w' (zdd st c).1 (.bool c.1):=by
 obtain ⟨a,d⟩:=R.ext ok (m:=st.next+1) (nu':=λid=>if id=st.next then c.1 else w.nu id) (Nat.le_succ _) (λid hi=>by rw [zF (by omega)]);refine ⟨_,d,a,.sb b.1 b.2 λe=>⟨Nat.lt_succ_self _,?_⟩⟩;simp
theorem zeb {a b:Leaf} (h:q3d a b=true):a=b:=by
 cases a<;>cases b<;>first | rfl | (simp only [q3d,decide_eq_true_eq] at h;rw [h]) | (cases h)
theorem qys {p:PV K} {k:IntKind} {n:Int} (r:Rep X sz w p (.int k n)):∃ l,p=.int k l n:=by cases r;exact ⟨_,rfl⟩
theorem qyt {p:PV K} {s:List UInt8} (r:Rep X sz w p (.str s)):p=.str s:=by cases r;rfl
theorem zt3 {j:TI} {g:Leaf} {a b:V} {p q:PV K} (m:qrg j=some g) (d:jn [g] [a]) (e:jn [g] [b]) (h:Rep X sz w p a) (i:Rep X sz w q b):qmj j.under a b=some (qjx [p] [q]):=by
 rcases (je m).symm with ⟨_,c⟩ | ⟨_,c⟩
 .cases c
 .split at c
  .rename_i k f;cases c;cases a<;>(try (simp only [jn] at d;done))<;>cases b<;>(try (simp only [jn] at e;done));simp only [jn,and_true] at d e;subst d;subst e;obtain ⟨l,rfl⟩:=qys h;obtain ⟨n,rfl⟩:=qys i;simp [qmj,f,qjx]
  .rename_i f;cases c;cases a<;>(try (simp only [jn] at d;done))<;>cases b<;>(try (simp only [jn] at e;done));have:=qyt h;subst this;have:=qyt i;subst this;simp [qmj,f,qjx]
  .rename_i f;cases c;cases a<;>(try (simp only [jn] at d;done))<;>cases b<;>(try (simp only [jn] at e;done));rcases h.bool with rfl | ⟨_,_,_,_,rfl,_⟩<;>rcases i.bool with rfl | ⟨_,_,_,_,rfl,_⟩<;>simp [qmj,f,qjx]
  .cases c
theorem zd3 {ps:List (PV K)} {v:V} (r:qu X sz w ps [v]):∃ p,ps=[p]/\Rep X sz w p v:=by
 cases ps with
 | nil=>have:=r.1;simp at this
 | cons p ps=>
  obtain ⟨d,a,b,e,c⟩:=r.z7;cases b;cases ps with
  | nil=>simp_all
  | cons _ _=>have:=c.1;simp at this
def zxm (X:Codecs K) (sz:Nat->Nat) (w:Wd) (c:Nat) (a:Leaf) (b:Bool) (l:List (K c)) (es:List (V×V×Nat)):Prop:=
 es.length=l.length/\∀ (i:Nat) (x:K c) (e:V×V×Nat),l[i]? = some x->es[i]? = some e->zqa X sz w c a b x e
theorem qhe {m:TI} {c:Nat} {k:Leaf} {u:Bool} (z:qrg m=some k) {a:V} {y:K c} (A:qu X sz w ((X.cells c y).take 1) [a]) (B:jn [k] [a]):∀ (l:List (K c)) (b:List (V×V×Nat)) (g:Nat),zxm X sz w c k u l b->
  (qqd m.under a b g=some none/\qtc X c 1 l y=false/\q4v X c 1 l y=y/\q2y X c 1 l y=l++[y])∨
  ∃ (j:Nat) (x:K c) (e:V×V×Nat),qqd m.under a b g=some (some (g+j,e.2.1))/\l[j]? = some x/\b[j]? = some e/\qtc X c 1 l y=true/\q4v X c 1 l y=x/\q2y X c 1 l y=l.set j y
 | [],b,g,h=>by
  have:b=[]:=List.eq_nil_of_length_eq_zero h.1;subst this;exact .inl ⟨rfl,rfl,rfl,rfl⟩
 | x::l,[],g,h=>by have:=h.1;simp at this
 | x::l,(C,v,s)::b,g,h=>by
  obtain ⟨D,E,Q,R⟩:=h.2 0 x (C,v,s) rfl rfl;obtain ⟨p,F,G⟩:=zd3 A;obtain ⟨q,H,I⟩:=zd3 D;have J:=zt3 z B E G I;have d:zhg X c 1 y x=qjx [p] [q]:=by rw [zhg,F,H]
  simp only [qqd];rw [J];cases f:qjx [p] [q] with
  | true=>
   refine .inr ⟨0,x,(C,v,s),rfl,rfl,rfl,?_,?_,?_⟩
   .simp [qtc,d,f]
   .simp [q4v,d,f]
   .simp [q2y,d,f]
  | false=>
   have L:zxm X sz w c k u l b:=⟨by simpa using h.1,λi n e M N=>h.2 (i+1) n e (by simpa using M) (by simpa using N)⟩;rcases qhe z A B l b (g+1) L with ⟨o,r,a3,t⟩ | ⟨j,n,e,o,r,a3,t,O,P⟩
   .refine .inl ⟨o,?_,?_,?_⟩
    .simp only [qtc,List.any_cons,d,f,Bool.false_or];exact r
    .simp only [q4v,d,f,zQ];exact a3
    .simp only [q2y,d,f,zQ,t,List.cons_append]
   .refine .inr ⟨j+1,n,e,by rw [o];simp only [zS,zP,and_true];omega,by simpa using r,by simpa using a3,?_,?_,?_⟩
    .simp only [qtc,List.any_cons,d,f,Bool.false_or];exact t
    .simp only [q4v,d,f,zQ];exact O
    .simp only [q2y,d,f,zQ,P,List.set_cons_succ]
theorem zrj {p:PV K} {v:V} (r:Rep X sz w p v):zgh v=z2u p:=by cases r<;>rfl
theorem q6u {t:TypeId} {id:Nat} {key:PV K} {a:MapC (λc=>List (K c))} {b:TI} (h:zum C st t id key=some (a,b)) :
  ∃ ti d e f,C.E.types t=some ti/\ti.under=.map d e/\C.E.types d=some f/\C.E.types e=some b/\qrg f=some a.lf/\look st.cells id=some (.mp a.c a.lf a.va a.l)/\a.va=b.isAgg/\zgh b.zero=b.isAgg/\tiled [a.lf] [key]=true:=by
 obtain ⟨ti,g,i⟩:=zI.1 h;split at i
 .rename_i d e r;obtain ⟨f,j,s⟩:=zI.1 i;obtain ⟨u,k,v⟩:=zI.1 s;obtain ⟨D,n,w⟩:=zI.1 v;obtain ⟨m,o,x⟩:=zI.1 w;rcases je x with ⟨_,p⟩ | ⟨q,p⟩
  .cases p
  .cases p;simp only [zA,beq_iff_eq] at q;obtain ⟨⟨⟨y,z⟩,A⟩,B⟩:=q;have:=zeb y;subst this;refine ⟨ti,d,e,f,g,r,j,k,n,?_,z,A,B⟩;unfold zui at o;split at o
   .grind
   .cases o
 .cases i
theorem qoo {E:Env} {c:TypeId} {b:TI} {d:Leaf} (h:qrg b=some d) {k:V} {es:List (V×V×Nat)}:qlv E c b.under k es=qqd b.under k es 0:=by
 rcases (je h).symm with ⟨_,a⟩ | ⟨_,a⟩
 .cases a
 .unfold qlv;split at a<;>first | (rename_i e;rw [e];rfl) | (cases a)
theorem q6v (R:RelH X sz C base st H w) {id c:Nat} {e:Leaf} {f:Bool} {l:List (K c)} (h:look st.cells id=some (.mp c e f l)):w.cl id/\id<st.next/\w.c id<H.next/\base.next<=w.c id/\∃ d a,H.get (w.c id)=some (.map d a)/\zxm X sz w c e f l d:=by
 obtain ⟨b,_,d,a,g,i,j⟩:=R.cells id _ h;obtain ⟨k,m,a3⟩:=R.cl id b;exact ⟨b,k,m,a3,d,a,g,i,j⟩
theorem q4z (ok:CfgOk X sz C) (R:RelH X sz C base st H w) {t:TypeId} {d:Bool} {m key:PV K} {S f:V} {k:PV K->StV K->Prop} (rm:Rep X sz w m S) (rk:Rep X sz w key f) (h:q9i (qo X tbl inv meas) C t d m key st k) :
  ∃ id p g v w',m=.map id/\S=.map (w.c id)/\w.c id<H.next/\w.cl id/\f.nm=[]/\k p g/\Near st g/\RelH X sz C base g H w'/\Le w w'/\Rep X sz w' p v/\
   ∀ (o:Oper) (s y:Operand) (b:Fr) (H1:Heap),o.op=.lookup t s y d->opd b H1 s=some S->opd b H1 y=some f->H1.get (w.c id)=H.get (w.c id)->jk C.E o b H1=some (.val v,H1):=by
 unfold q9i at h;split at h
 .rename_i id;obtain ⟨⟨a,W⟩,hm,h1⟩:=qe h;obtain ⟨z,hz,h2⟩:=qe h1;obtain ⟨r,hr,A,h3⟩:=qe h2;obtain ⟨ti,kt,et,ki,Y,hu,Z,a6,B,a7,al,an,a8⟩:=q6u hm;obtain ⟨D,ao,F,aa,es,ab,hg,G⟩:=q6v R a7;have ad:S=.map (w.c id):=by cases rm;rfl
  subst ad;have ae:=qjo (X:=X) (sz:=sz) (w:=w) hz;have ry:=ok.pack a.c _ r.1 r.2 hr A w (f::W.zero.cells) (.cons rk ae);have af:qu X sz w ((X.cells a.c r.2).take 1) [f]:=ry.take 1;have aq:qu X sz w ((X.cells a.c r.2).drop 1) W.zero.cells:=ry.drop 1;have I:=qhn (.cons rk .nil) a8;obtain ⟨v,cs,T,J,L⟩:∃ v cs,(qu X sz w cs v.cells/\zgh v=a.va)/\cs=(X.cells a.c (q4v X a.c 1 a.l r.2)).drop 1/\∃ n,qtc X a.c 1 a.l r.2=n/\
    ∃ U,qqd ki.under f es 0=some U/\((U=none/\n=false/\v=W.zero)∨∃ i,U=some (i,v)/\n=true):=by
   rcases qhe B af I a.l es 0 G with ⟨a1,a2,a3,_⟩ | ⟨j,x,e,a1,a2,a3,a4,a5,_⟩
   .grind
   .obtain ⟨_,_,b3,b4⟩:=G.2 j x e a2 a3;exact ⟨e.2.1,_,⟨by rw [a5];exact b3,b4⟩,rfl,true,a4,_,a1,.inr ⟨_,rfl,rfl⟩⟩
  subst J;obtain ⟨n,ag,U,ah,q⟩:=L;obtain ⟨pv,ai,h4⟩:=qe h3;have aj:Rep X sz w pv v:=by
   rcases (je ai).symm with ⟨ha,h5⟩ | ⟨ha,h5⟩
   .cases v<;>first | (simp [zgh,ha] at T;done) | skip
    cases h5;exact .qy4 T.1
   .rcases (je h5).symm with ⟨hb,h6⟩ | ⟨_,h6⟩
    .have:v.cells=[v]:=by cases v<;>first | rfl | (simp [zgh,ha] at T;done)
     obtain ⟨u,M,ak⟩:=T.1.get h6;rw [this] at M;cases M;exact ak
    .cases h6
  obtain ⟨w1,n1,R1,N,r1⟩:=qkp ok R aj;have O:∀ (o:Oper) (s y:Operand) (b:Fr) (H1:Heap),o.op=.lookup t s y d->opd b H1 s=some (.map (w.c id))->opd b H1 y=some f->H1.get (w.c id)=H.get (w.c id)->jk C.E o b H1=some (.val (if d then .tuple [v,.bool n] else v),H1):=by
   intro o s y b H1 ho e1 e2 e3;simp only [jk,ho,Y,e1,e2,zB,hu,Z,a6,e3,hg,qoo B,ah,zH];rcases q with ⟨rfl,rfl,rfl⟩ | ⟨i,rfl,rfl⟩<;>rfl
  have P:f.nm=[]:=by
   cases f<;>first | rfl | (exfalso;revert I;cases a.lf<;>simp [jn])
  cases d with
  | false=>exact ⟨id,_,_,v,w1,rfl,rfl,F,D,P,h4,n1,R1,N,r1,O⟩
  | true=>
   obtain ⟨w2,R2,Q,r2⟩:=z0d ok R1 (c:=(qtc X a.c 1 a.l r.2,qtc X a.c 1 a.l r.2=true,qtc X a.c 1 a.l r.2=false)) ⟨.rfl,.rfl⟩;have r2:Rep X sz w2 (zdd (qfc pv st).2 (qtc X a.c 1 a.l r.2,qtc X a.c 1 a.l r.2=true,qtc X a.c 1 a.l r.2=false)).1 (.bool n):=by
    rw [<-ag];exact r2
   exact ⟨id,_,_,.tuple [v,.bool n],w2,rfl,rfl,F,D,P,h4,n1.trans ⟨rfl,rfl,rfl,rfl⟩,R2,N.trans Q,.tuple' (.cons (r1.mono ok.len Q) (.cons r2 .nil)),O⟩
 .exact absurd h id
theorem qno (ok:CfgOk X sz C) (R:RelH X sz C base st H w) {t:TypeId} {m key x:PV K} {U y z:V} {k:PV K->StV K->Prop} (rm:Rep X sz w m U) (rk:Rep X sz w key y) (rx:Rep X sz w x z) (h:qu0 (qo X tbl inv meas) C t m key x st k) :
  ∃ id g row w',m=.map id/\U=.map (w.c id)/\w.c id<H.next/\base.next<=w.c id/\w.cl id/\(look st.cells id).isSome=true/\k qnx g/\g.tmps=st.tmps/\g.n=st.n/\RelH X sz C base g (H.put (w.c id) row) w'/\Le w w'/\(∀ j,(look g.cells j).isSome=(look st.cells j).isSome)/\
   ∀ (o:Oper) (W Y Z:Operand) (p:Fr) (H1:Heap),(o.op=.mapUpdate t W Y Z∨o.op=.insert t W Y Z)->opd p H1 W=some U->opd p H1 Y=some y->opd p H1 Z=some z->H1.get (w.c id)=H.get (w.c id)->H1.ro<=w.c id->
    jk C.E o p H1=some (.skip,H1.put (w.c id) row):=by
 unfold qu0 at h;split at h
 .rename_i id;obtain ⟨⟨d,ei⟩,hm,h1⟩:=qe h;obtain ⟨ti,kt,et,ki,L,hu,M,ah,D,A,ai,aj,a7⟩:=q6u hm;obtain ⟨a8,ak,aa,F,G,a,hg,f⟩:=q6v R A;have ab:U=.map (w.c id):=by cases rm;rfl
  subst ab;cases hb:((z2u x == d.va)&&Nat.beq x.cellsOf.length ei.size&&x.cellsOf.all qa2) with
  | false=>simp only [hb,zQ] at h1;exact h1.elim
  | true=>
   simp only [hb,zO] at h1;obtain ⟨r,hr,N,h3⟩:=qe h1;simp only [zA,beq_iff_eq] at hb;have ry:=ok.pack d.c _ r.1 r.2 hr N w (y::z.cells) (.cons rk rx.cells);have O:qu X sz w ((X.cells d.c r.2).take 1) [y]:=ry.take 1;have ad:qu X sz w ((X.cells d.c r.2).drop 1) z.cells:=ry.drop 1;have P:=qhn (.cons rk .nil) a7;have ag:∀ s,zqa X sz w d.c d.lf d.va r.2 (y,z,s):=λs=>⟨O,P,ad,by rw [zrj rx];exact hb.1.1⟩;obtain ⟨q,b,u,v⟩:∃ q b,zxm X sz w d.c d.lf d.va (q2y X d.c 1 d.l r.2) q/\
     ∀ H1:Heap,H1.ro<=w.c id->(qqd ki.under y G 0).bind (λr=>match r with
      | some (i,_)=>(H1.upd (w.c id) (.map (G.modify i λe=>(y,z,e.2.2)) a)).map λH'=>(Out.skip,H')
      | none=>(H1.upd (w.c id) (.map (G++[(y,z,a)]) (a+1))).map λH'=>(Out.skip,H'))=some (.skip,H1.put (w.c id) (.map q b)):=by
    rcases qhe D O P d.l G 0 f with ⟨a1,_,_,a4⟩ | ⟨j,x',e,a1,a2,a3,_,_,a6⟩
    .refine ⟨G++[(y,z,a)],a+1,?_,λH1 I=>by rw [a1];simp only [zB,qcl I,zH]⟩;rw [a4];refine ⟨by simp [f.1],λi x e J B=>?_⟩;rw [List.getElem?_append] at J B;rw [f.1] at B;split at J
     .rename_i hi;rw [zT hi] at B;exact f.2 i x e J B
     .grind
    .refine ⟨G.modify j (λe=>(y,z,e.2.2)),a,?_,λH1 I=>by rw [a1];simp only [zB,Nat.zero_add,qcl I,zH]⟩;rw [a6];refine ⟨by simp [f.1],λi x Q J B=>?_⟩;rw [List.getElem?_set] at J;rw [List.getElem?_modify] at B;by_cases S:j=i
     .grind
     .rw [zF S] at J;simp only [zF S] at B;have ae:G[i]? = some Q:=by simpa using B
      exact f.2 i x Q J ae
   obtain ⟨w',R',af⟩:=qi1 ok R (ct':=.mp d.c d.lf d.va (q2y X d.c 1 d.l r.2)) (o:=.map q b) A (λ_ _ _ _ _ _ h=>by rw [hg] at h;cases h) ⟨q,b,rfl,u.1,u.2⟩;refine ⟨id,_,_,w',rfl,rfl,aa,F,a8,by rw [A];rfl,h3,rfl,rfl,R',af,λj=>qxa A j,λo W Y Z p H1 T Q e2 e3 e4 e5=>?_⟩;rcases T with T | T
   .simp only [jk,T,L,Q,e2,e3,zB,hu,M,e4,hg,qoo D];exact v H1 e5
   .simp only [jk,T,L,Q,e2,e3,zB,hu,M,e4,hg,qoo D];exact v H1 e5
 .exact absurd h id
end
end Go.E3
/- E3: CALLS as operations. -/
namespace Go.E3
open Go Go.E2
variable {K:Nat->Type}
structure CfgOk2 (X:Codecs K) (C:ZC K):Prop where
 plain:∀ c x p,p ∈ X.cells c x->Plain p
 zm:∀ gn ps,C.zm gn=some ps->∀ p ∈ ps,Plain p
section
variable {X:Codecs K} {sz:Nat->Nat} {C:ZC K} {base H:Heap} {st:StV K} {fr:Fr} {w:Wd}
variable {tbl:Tbl K} {inv:Nat->List (NV K)->Prop} {meas:Nat->List (NV K)->Nat}
theorem Near.qfc (p:PV K) (st:StV K):Near st (qfc p st).2/\(qfc p st).2.known=st.known:=by
 unfold Go.E3.qfc
 split<;>exact ⟨⟨rfl,rfl,rfl,rfl⟩,rfl⟩
theorem qp7 (ok:CfgOk X sz C) (ok2:CfgOk2 X C) (R:RelH X sz C base st H w) {r:PV K} (form:Form r) {H1 H' J:Heap} (a6:H1.next=H.next) {v:V} {w':Wd} (a:Answer X sz C H1 w.M r (qqj (qcr r.flat)) v H' w')
  (hold:∀ n,n<H.next->J.get n=H.get n) (q:∀ n x,H'.get n=some x->J.get n=some x) (A:∀ n,H.next<=n->J.get n=H'.get n) (G:J.next=H'.next) (a7:J.ro=H.ro) (a8:J.zm=H.zm) :
  ∃ P,(qd8 st r).2.tmps=st.tmps/\(qd8 st r).2.n=st.n/\RelH X sz C base (qd8 st r).2 J P/\Le w P/\Rep X sz P (qd8 st r).1 v:=by
 let B:=qcr r.flat
 let m:=qqj B;have T:∀ i ∈ B,i<m:=(qwq B 0).2;let k:StV K:={st with next:=st.next+m,owns:=B.map (λi=>(st.next+i,0))++st.owns};let w1:Wd:={g:=J.get,M:=w'.M,c:=w.c,nu:=w.nu,n:=st.next+m,owns:=look k.owns,eta:=λj=>if j<st.next then w.eta j else w'.eta (j-st.next),ce:=w.ce,cl:=w.cl,nx:=J.next,b:=w.b,lp:=w.lp,fl:=w.fl};have U:Le w' {w' with g:=J.get}:=by
  refine ⟨⟨zN _,λnm cs e gen Q S ex h hM=>⟨hM,[],gen,S,ex,?_⟩,λ_ _=>rfl,λ_ _=>rfl,λ_ _ h=>h,λi s W _ h h'=>?_,λi s _ _ _=>⟨rfl,λnm o _=>?_⟩,rfl,λ_ _=>.rfl,zN _,rfl,λ_ _ h=>h,λ_ _=>rfl,λid _ _ cs e gen fl fz ex h=>⟨_,_,_,_,_,q _ _ (by rw [<-a.g];exact h),zN _,λ_=>rfl⟩⟩,λm z=>?_,rfl⟩
  .rw [zJ];rw [a.g] at h;exact q _ _ h
  .simp_all
  .have:=(a.eta i nm o).1;rw [a.g];exact A nm (by omega)
  .rw [a.g] at z;exact q _ _ z
 have Y:∀ nm x,H.get nm=some x->nm<H.next:=by
  intro nm x h;by_cases I:nm<H.next
  .exact I
  .rw [R.wf nm (by omega)] at h;cases h
 have L:∀ nm,nm<H.next->(w'.M nm↔w.M nm):=λnm h=>a.M nm (by rw [a6];exact h)
 have D:∀ j,look k.owns j=if st.next<=j/\j-st.next ∈ B then some 0 else look st.owns j:=λj=>zuj
 have d:∀ j,j<st.next->look k.owns j=look st.owns j:=by
  intro j Z;rw [D,zF];omega
 have N:Le w w1:=by
  refine ⟨⟨by rw [R.n];exact Nat.le_add_right _ _,λnm cs e gen Q S ex h hM=>?_,λ_ _=>rfl,λ_ _=>rfl,λi hi h=>?_,λi s W hi h h'=>?_,λi s hi h h'=>?_,rfl,λ_ _=>.rfl,?_,rfl,λn o z=>(L n (by rw [R.b] at o;have:=R.keeps.next;omega)).2 z,λ_ _=>rfl,qor λid hi hc=>by rw [R.g];exact hold _ (R.cl id hc).2.1⟩,λm z=>by rw [R.g] at z;show J.get m=_;rw [hold m (Y m _ z)];exact z,rfl⟩
  .rw [R.g] at h;have I:=Y nm _ h;exact ⟨λz=>hM ((L nm I).1 z),[],gen,S,ex,by rw [zJ];show J.get nm=_;rw [hold nm I];exact h⟩
  .rw [R.owns] at h;show look k.owns i=none;rw [d i (by rw [<-R.n];exact hi)];exact h
  .rw [R.owns] at h;have a1:look k.owns i=some W:=h';rw [d i (by rw [<-R.n];exact hi),h] at a1;cases a1;exact zN _
  .have aa:i<st.next:=by rw [<-R.n];exact hi
   rw [R.owns] at h;refine ⟨zT aa,λnm o _=>?_⟩;show J.get nm=w.g nm;rw [hold nm (R.eta i s nm h o).2.1,R.g]
  .rw [R.nx];show H.next<=J.next
   have:=a.keeps.next
   omega
 have f:H.next<=J.next:=by rw [G];have:=a.keeps.next;omega
 have hk:Keeps H J:=⟨f,a7,a8,hold⟩;have t:∀ j s nm,look k.owns j=some s->w1.eta j=some nm->(j<st.next/\look st.owns j=some s/\w.eta j=some nm/\nm<H.next)∨(st.next<=j/\w'.eta (j-st.next)=some nm/\H.next<=nm):=by
  intro j s nm h o;by_cases Z:j<st.next
  .left;have E:w.eta j=some nm:=by
    have:w1.eta j=w.eta j:=zT Z;rw [<-this];exact o
   rw [d j Z] at h;exact ⟨Z,h,E,(R.eta j s nm h E).2.1⟩
  .right;have E:w'.eta (j-st.next)=some nm:=by
    have:w1.eta j=w'.eta (j-st.next):=zF Z;rw [<-this];exact o
   have:=(a.eta _ nm E).1;exact ⟨by omega,E,by omega⟩
 have R1:RelH X sz C base k J w1:=by
  refine ⟨λn o=>?_,R.rob,rfl,rfl,R.b,λn o=>?_,rfl,zR R.one (Nat.le_add_right _ _),R.keeps.trans hk,λid h=>?_,R.cinj,λid ps h=>?_,λ_=>rfl,λi s h=>?_,λi s nm h o=>?_,λi j s W nm h1 h2 e1 e2=>?_,R.ce,λid b h=>?_,λgn ps h=>?_⟩
  .rw [A n (zR f o)];exact a.wf n (by rw [<-G];exact o)
  .rw [G];exact a.Mlt n o
  .obtain ⟨y,u,O⟩:=R.cl id h;exact ⟨zL y (Nat.le_add_right _ _),zL u f,O⟩
  .obtain ⟨y,u,q5⟩:=R.cells id ps h;refine ⟨y,(L _ (R.cl id y).2.1).2 u,?_⟩;rw [hold _ (R.cl id y).2.1];exact q5.mono ok.len N (by rw [R.n];exact (R.cl id y).1)
  .rw [D] at h;split at h
   .rename_i hc;have:=T _ hc.2;show i<st.next+m
    omega
   .exact zL (R.ownn i s h) (Nat.le_add_right _ _)
  .rcases t i s nm h o with ⟨y,u,O,q4⟩ | ⟨y,u,O⟩
   .obtain ⟨b1,b2,b3⟩:=R.eta i s nm u O;exact ⟨b1,zL b2 f,λz=>b3 ((L nm b2).1 z)⟩
   .obtain ⟨b1,b2,b3⟩:=a.eta _ nm u;have:=R.keeps.next
    exact ⟨by omega,by rw [G];exact b2,b3⟩
  .rcases t i s nm h1 e1 with ⟨y,u,O,q4⟩ | ⟨y,u,O⟩<;>rcases t j W nm h2 e2 with ⟨p1,p2,p3,p4⟩ | ⟨p1,p2,p3⟩
   .exact R.einj i j s W nm u p2 O p3
   .omega
   .omega
   .have:=a.einj _ _ nm u p2;omega
  .obtain ⟨q0,y,u⟩:=R.known id b h;exact ⟨q0,zL y (Nat.le_add_right _ _),u⟩
  .obtain ⟨q0,ab,e',fl,fz,ex',y,u,O⟩:=R.globs gn ps h;exact ⟨q0,ab,e',fl,fz,ex',y,u,O.mono ok.len N⟩
 have r1:Rep X sz w1 (qk2 (qme st.next) r) v:=by
  refine znj (w1:={w' with g:=J.get}) (w2:=w1) (nx:=st.next) ok2.plain rfl rfl ?_ ?_ ?_ a.owns (a.rep.mono ok.len U) form
  .show w.ce=w'.ce;rw [R.ce,a.ce]
  .intro i hi;have hi:i<w'.n:=hi;rw [a.n] at hi;show st.next+i<st.next+m
   have:i<m:=hi;omega
  .intro i;show (if st.next+i<st.next then w.eta (st.next+i) else w'.eta (st.next+i-st.next))=w'.eta i;rw [zF (by omega),Nat.add_sub_cancel_left]
 have ad:qd8 st r=(match qk2 (qme st.next) r with
   | .tuple l=>(.tuple (qbi l k.next).1,{k with next:=(qbi l k.next).2})
   | p=>qfc p k):=by
  unfold qd8;simp only;cases qk2 (qme st.next) r<;>rfl
 rw [ad];cases hq:qk2 (qme st.next) r with
 | tuple l=>
  rw [hq] at r1;obtain ⟨vs,rfl,rl⟩:=r1.qi6;obtain ⟨nu',g1,g2,g3⟩:=qfw ok.len rl R1.one;obtain ⟨F,R2⟩:=R1.ext ok g2 g1;exact ⟨_,rfl,rfl,R2,N.trans F,.tuple' g3⟩
 | _=>
  rw [hq] at r1;obtain ⟨w2,o,R2,F,r2⟩:=qkp ok R1 r1;exact ⟨w2,o.tmps,o.n,R2,N.trans F,r2⟩
def z73 (w:Wd):Tgt->Tgt
 | .func f=>.func f
 | .round id=>.round (w.c id)
def qps (X:Codecs K) (sz:Nat->Nat) (C:ZC K) (inl:ZI K):Prop:=
 ∀ t args (st:StV K) k,inl t args st k->∀ base H w b,RelH X sz C base st H w->qu X sz w args b->
  qdv C.E (z73 w t) b H λv H'=>∃ p a w',k p a/\a.tmps=st.tmps/\a.n=st.n/\RelH X sz C base a H' w'/\Le w w'/\Rep X sz w' p v
structure Cut (X:Codecs K) (sz:Nat->Nat) (C:ZC K) (base H H1:Heap) (w:Wd):Prop where
 sub:∀ n x,H1.get n=some x->H.get n=some x
 old:∀ n,n<base.next->H1.get n=H.get n
 nx:H1.next=H.next
 gl:H1.zm=H.zm
 ro:H1.ro<=H1.next
 gs:∀ gn ps vs e fl fz ex,C.zm gn=some ps->base.get gn=some (.row vs e 0 fl fz ex)->gn<base.next->Rep X sz {w with g:=H1.get} (.eptr ps 0) (.ptr gn 0 0 vs.length)
theorem Cut.same (R:RelH X sz C base st H w) {H1:Heap} (a:∀ n,H1.get n=H.get n) (b:H1.next=H.next) (c:H1.zm=H.zm) (d:H1.ro<=H1.next):Cut X sz C base H H1 w:=by
 have i:({w with g:=H1.get}:Wd)=w:=by
  have:H1.get=w.g:=by rw [R.g];exact funext a
  rw [this]
 refine ⟨λn x h=>by rw [<-a];exact h,λn _=>a n,b,c,d,λgn ps p e fl fz ex h j _=>?_⟩;obtain ⟨_,k,q,l,m,ex',f,r,o⟩:=R.globs gn ps h;rw [j] at f;cases f;rw [i];exact o
theorem Cut.start (ok2:CfgOk2 X C) (R:RelH X sz C base st H w) {H1:Heap} (cut:Cut X sz C base H H1 w):Start X sz C H1 w.M:=by
 refine ⟨λn e=>?_,⟨cut.ro,by rw [cut.gl,R.keeps.zm];exact R.rob.2.1,λgn o c=>⟨by rw [cut.old gn (R.rob.2.2 gn o c).2,R.keeps.old gn (R.rob.2.2 gn o c).2];exact (R.rob.2.2 gn o c).1,by rw [cut.nx];exact zL (R.rob.2.2 gn o c).2 R.keeps.next⟩⟩,λn e=>?_,λgn ps a=>?_⟩
 .cases h:H1.get n with
  | none=>rfl
  | some x=>have:=cut.sub n x h;rw [R.wf n (by rw [<-cut.nx];exact e)] at this;cases this
 .rw [cut.nx];exact R.Mlt n e
 .obtain ⟨j,b,f,fl,fz,ex',i,d,k⟩:=R.globs gn ps a;refine ⟨by rw [cut.gl,R.keeps.zm];exact j,b,f,fl,fz,ex',by rw [cut.old gn d,R.keeps.old gn d];exact i,by rw [cut.nx];exact zL d R.keeps.next,?_⟩;exact Rep.plain (w:={w with g:=H1.get}) (w':=wd0 H1 w.M C.codec) ok2.plain rfl (λ_ _ _ h=>h) (cut.gs gn ps b f fl fz ex' a i d) (.eptr (ok2.zm gn ps a))
theorem q6c (ok2:CfgOk2 X C) (tok:qke X sz C tbl) (R:RelH X sz C base st H w) {g:Nat} {args:List (PV K)} {b:List V} {pre:Prop} {r:PV K} {H1:Heap} (cut:Cut X sz C base H H1 w) (f:qu X sz {w with g:=H1.get} args b)
  (h:fnP (qo X tbl inv meas) st g args=some (pre,r)) (i:pre):Form r/\qdv C.E (.func g) b H1 λv H'=>∃ w',Answer X sz C H1 w.M r (qqj (qcr r.flat)) v H' w':=by
 obtain ⟨⟨c,d⟩,j,k⟩:=zI.1 h;obtain ⟨ns,l,m⟩:=zI.1 k;obtain ⟨e,n,o,a⟩:=tok g c d ns pre r j m i;exact ⟨a,o H1 w.M b (cut.start ok2 R) (qoj ok2.plain (w:={w with g:=H1.get}) (w':=wd0 H1 w.M C.codec) rfl (λ_ _ _ h=>h) l f n)⟩
theorem qx6 (ok2:CfgOk2 X C) {w w':Wd} (d:w'.g=w.g) (e:∀ nm x,w.g nm=some x->¬ w.M nm->¬ w'.M nm) {p q:PV K} {v:V} (r:Rep X sz w p v) (h:zbe (qo X tbl inv meas) p=some q) :
  Rep X sz w' q v/\Plain q/\Simple q/\∀ c x i,q≠.list c x (some i):=by
 cases p with
 | int k l n=>cases h;cases r with | int A=>exact ⟨.int A,.int,.int,by simp⟩
 | lit b=>cases h;cases r;exact ⟨.lit,.lit,.lit,by simp⟩
 | sb id neg b J L=>cases h;cases r;exact ⟨.sb .rfl (by show _=false↔_;exact .rfl) λB=>absurd rfl B,.sb,.sb,by simp⟩
 | str s=>cases h;cases r;exact ⟨.str,.str,.str,by simp⟩
 | list c l o=>
  cases h;refine ⟨?_,.list,.list,by simp⟩;have D:Rep X sz w (.list c l none) v:=by
   cases r with
   | nlist E=>exact .nlist trivial
   | list d F e j u G m H E=>exact .list d F e j u G m H trivial
  exact D.plain ok2.plain d e .list
 | func f a c=>
  cases a with
  | nil=>
   cases c with
   | nil=>cases h;exact ⟨r.plain ok2.plain d e .func,.func,.func,by simp⟩
   | cons _ _=>cases h
  | cons _ _=>cases h
 | nilf=>cases h;exact ⟨r.plain ok2.plain d e .nilf,.nilf,.nilf,by simp⟩
 | plist I n fx cs=>
  simp only [zbe] at h;cases u:cs.all zrn with
  | false=>simp_all
  | true=>
   rw [u] at h;cases h;have t:∀ p ∈ cs,p=.nilf∨∃ f,p=.func f [] []:=λp y=>by
    have:=List.all_eq_true.1 u p y;unfold zrn at this;split at this
    .simp_all
    .exact .inl rfl
    .cases this
   have z:Plain (.plist I n fx cs:PV K):=.plist λp y=>by rcases t p y with rfl | ⟨f,rfl⟩<;>constructor
   exact ⟨r.plain ok2.plain d e z,z,.plist t,by simp⟩
 | _=>cases h
theorem qx7 (ok2:CfgOk2 X C) {w w':Wd} (e:w'.g=w.g) (f:∀ nm x,w.g nm=some x->¬ w.M nm->¬ w'.M nm):∀ {ps a:List (PV K)} {d:List V},qu X sz w ps d->zbg (qo X tbl inv meas) ps=some a->
  qu X sz w' a d/\∀ q ∈ a,Plain q/\Simple q/\∀ c x i,q≠.list c x (some i)
 | [],a,d,r,h=>by
  simp only [zbg,zS] at h;subst h;rw [r.jb];exact ⟨.nil,λq b=>by cases b⟩
 | p::ps,a,d,r,h=>by
  obtain ⟨v,j,rfl,k,l⟩:=r.z7;simp only [zbg] at h;obtain ⟨q,m,n⟩:=zI.1 h;obtain ⟨o,s,rfl⟩:=zM.1 n;obtain ⟨t,u⟩:=qx6 ok2 e f k m;obtain ⟨y,z⟩:=qx7 ok2 e f l s;refine ⟨.cons t y,λA b=>?_⟩;rcases zD.1 b with rfl | b
  .exact u
  .exact z A b
theorem q0q (ok2:CfgOk2 X C) {w w':Wd} (f:w'.g=w.g) (j:∀ nm x,w.g nm=some x->¬ w.M nm->¬ w'.M nm) {p q:PV K} {v:V} (r:Rep X sz w p v) (h:bare (qo X tbl inv meas) p=some q) :
  Rep X sz w' q v/\Plain q/\Form1 q/\∀ y ∈ q.cellsOf,∀ c x i,y≠.list c x (some i):=by
 by_cases k:∃ cs,p=.agg cs
 .obtain ⟨cs,rfl⟩:=k;obtain ⟨o,l,rfl⟩:=zM.1 h;obtain ⟨s,rfl,m⟩:=r.qi8;obtain ⟨d,b⟩:=qx7 ok2 f j m l;exact ⟨.qy4 d,.agg λy a=>(b y a).1,.agg λy a=>(b y a).2.1,λy a=>(b y a).2.2⟩
 .have e:bare (qo X tbl inv meas) p=zbe (qo X tbl inv meas) p:=by
   cases p with
   | agg cs=>simp_all
   | _=>rfl
  rw [e] at h;obtain ⟨d,b,a3,n⟩:=qx6 ok2 f j r h;refine ⟨d,b,.one a3,λy a=>?_⟩;have:q.cellsOf=[q]:=by
   cases a3<;>rfl
  rw [this] at a;rw [List.mem_singleton.1 a];exact n
theorem qp3 (ok2:CfgOk2 X C) {w w':Wd} (e:w'.g=w.g) (f:∀ nm x,w.g nm=some x->¬ w.M nm->¬ w'.M nm):∀ {ps a:List (PV K)} {d:List V},qu X sz w ps d->q0p (qo X tbl inv meas) ps=some a->
  qu X sz w' a d/\∀ q ∈ a,Plain q/\Form1 q/\∀ y ∈ q.cellsOf,∀ c x i,y≠.list c x (some i)
 | [],a,d,r,h=>by
  simp only [q0p,zS] at h;subst h;rw [r.jb];exact ⟨.nil,λq b=>by cases b⟩
 | p::ps,a,d,r,h=>by
  obtain ⟨v,j,rfl,k,l⟩:=r.z7;simp only [q0p] at h;obtain ⟨q,m,n⟩:=zI.1 h;obtain ⟨o,s,rfl⟩:=zM.1 n;obtain ⟨t,u⟩:=q0q ok2 e f k m;obtain ⟨z,A⟩:=qp3 ok2 e f l s;refine ⟨.cons t z,λB b=>?_⟩;rcases zD.1 b with rfl | b
  .exact u
  .exact A B b
theorem qqz:∀ {l:List (PV K)},(∀ y ∈ l,∀ c x i,y≠.list c x (some i))->qcr l=[]
 | [],_=>rfl
 | p::l,h=>by
  have a:=qqz (l:=l) λy b=>h y (zG _ b);cases p with
  | list c x o=>
   cases o with
   | none=>exact a
   | some i=>exact absurd rfl (h _ zC c x i)
  | _=>exact a
theorem zbf (ok2:CfgOk2 X C) {w w':Wd} (f:w'.g=w.g) (i:∀ nm x,w.g nm=some x->¬ w.M nm->¬ w'.M nm) {p q:PV K} {v:V} (r:Rep X sz w p v) (h:zro (qo X tbl inv meas) p=some q) :
  Rep X sz w' q v/\Form q/\qcr q.flat=[]:=by
 by_cases j:∃ l,p=.tuple l
 .obtain ⟨l,rfl⟩:=j;obtain ⟨t,k,rfl⟩:=zM.1 h;obtain ⟨u,rfl,m⟩:=r.qi6;obtain ⟨a,b⟩:=qp3 ok2 f i m k;refine ⟨.tuple' a,.tuple λy c=>(b y c).2.1,qqz λy c=>?_⟩;obtain ⟨z,n,d⟩:=List.mem_flatMap.1 c;exact (b z n).2.2 y d
 .have e:zro (qo X tbl inv meas) p=bare (qo X tbl inv meas) p:=by
   cases p with
   | tuple l=>simp_all
   | _=>rfl
  rw [e] at h;obtain ⟨a,b,a3,o⟩:=q0q ok2 f i r h;refine ⟨a,.one a3,?_⟩;have:q.flat=q.cellsOf:=by
   cases a3 with
   | one s=>cases s<;>rfl
   | agg _=>rfl
  rw [this];exact qqz o
theorem zhx (ok:CfgOk X sz C) (ok2:CfgOk2 X C) {inl:ZI K} (q:qps X sz C inl) (R:RelH X sz C base st H w) {g:Nat} {args:List (PV K)} {t:List V} {k:PV K->StV K->Prop} {H1:Heap} (cut:Cut X sz C base H H1 w)
  (L:qu X sz {w with g:=H1.get} args t) (h:q91 (qo X tbl inv meas) inl (.func g) args st k) :
  qdv C.E (.func g) t H1 λv H'=>∃ r w',Form r/\Answer X sz C H1 w.M r (qqj (qcr r.flat)) v H' w'/\k (qd8 st r).1 (qd8 st r).2:=by
 unfold q91 at h;simp only at h;split at h
 .rename_i G u;obtain ⟨y,_⟩:=qp3 (w:={w with g:=H1.get}) (w':=wd0 H1 w.M C.codec) ok2 rfl (λ_ _ _ h=>h) L u;have e:Le (wd0 H1 w.M C.codec) {wd0 H1 w.M C.codec with n:=1}:=Le.ext (w:=wd0 H1 w.M C.codec) (m:=1) (nu':=λ_=>false) (Nat.zero_le _) (λ_ _=>rfl);obtain ⟨nu',g1,N,O⟩:=qfw ok.len (y.mono ok.len e) (zN 1);let w0:Wd:={wd0 H1 w.M C.codec with n:=(qbi G 1).2,nu:=nu'};have f:Le (wd0 H1 w.M C.codec) w0:=Le.ext (w:=wd0 H1 w.M C.codec) (Nat.zero_le _) (λid hi=>by have:id<0:=hi;omega);have S:=cut.start ok2 R;have P:RelH X sz C H1 {tmps:=.nil,n:=0,cells:=[],owns:=[],next:=(qbi G 1).2,known:=[]} H1 w0:=by
   refine ⟨S.wf,S.ro,rfl,rfl,rfl,S.Mlt,rfl,N,.refl H1,λ_ z=>False.elim z,λ_ _ z=>False.elim z,λid ps a=>(by cases a),λ_=>rfl,λi s a=>(by cases a),λi s nm a=>(by cases a),λi j s s' nm a=>(by cases a),rfl,λid b a=>(by cases a),λgn ps A=>?_⟩;obtain ⟨Q,B,T,fl,fz,ex',U,W,Y⟩:=S.globs gn ps A;exact ⟨Q,B,T,fl,fz,ex',U,W,Y.mono ok.len f⟩
  refine (q (.func g) _ _ _ h H1 H1 w0 t P O).mono λv H' Z=>?_;obtain ⟨p,a1,w',D,_,_,l,F,rp⟩:=Z;split at D
  .rename_i r hr;let w2:Wd:={g:=H'.get,M:=λn=>if n<H1.next then w.M n else w'.M n,c:=λ_=>0,nu:=λ_=>false,n:=0,owns:=λ_=>some 0,eta:=λ_=>none,ce:=C.codec,cl:=λ_=>False,nx:=H'.next,b:=H1.next,lp:=λ_=>none,fl:=0};obtain ⟨b1,b2,b3⟩:=zbf ok2 (w':=w2) l.g.symm (λnm x _ I=>by
    show ¬ (if nm<H1.next then w.M nm else w'.M nm);split
    .rename_i d;exact λh0=>I (F.Mu nm d h0)
    .exact I) rp hr
   refine ⟨r,w2,b2,⟨l.keeps,l.wf,rfl,λn J=>?_,λn J=>?_,rfl,by rw [b3];rfl,λ_=>rfl,λj nm he=>(by cases he),λj1 j2 nm e1=>(by cases e1),b1⟩,D⟩
   .grind
   .have o:(if n<H1.next then w.M n else w'.M n):=J;split at o
    .rename_i d;exact zL d l.keeps.next
    .exact l.Mlt n o
  .exact absurd D id
 .exact absurd h id
theorem qya (ok:CfgOk X sz C) (ok2:CfgOk2 X C) (tok:qke X sz C tbl) {inl:ZI K} (e:qps X sz C inl) (R:RelH X sz C base st H w) {f:PV K} {x:V} {args:List (PV K)} {i:List V} {k:PV K->StV K->Prop}
  (y:Rep X sz w f x) (z:qu X sz w args i) (h:zbm (qo X tbl inv meas) inl f args st k) :
  ∃ t us,qht x i=some (.call t us)/\qdv C.E t us H λv H'=>∃ p b w',k p b/\b.tmps=st.tmps/\b.n=st.n/\RelH X sz C base b H' w'/\Le w w'/\Rep X sz w' p v:=by
 unfold zbm at h;split at h
 .rename_i g first cap
  cases y with
  | @func Y a c A B F G I L=>
  have j:qu X sz w (first++args++cap) (A++i++B):=qu.append (qu.append (ps:=first) ⟨F,I⟩ z) ⟨G,L⟩;refine ⟨.func g,A++i++B,rfl,?_⟩;split at h
  .rename_i M r o;cases D:distinct (qcr r.flat) with
   | false=>rw [D] at h;exact absurd h id
   | true=>
    rw [D] at h;obtain ⟨l,N⟩:=h;have q:H.ro<=H.next:=by rw [R.keeps.ro];exact zR R.rob.1 R.keeps.next
    have O:({w with g:=H.get}:Wd)=w:=by rw [<-R.g]
    obtain ⟨m,d⟩:=q6c ok2 tok R (H1:=H) (.same R (λ_=>rfl) rfl rfl q) (by rw [O];exact j) o l;refine d.mono λv H' P=>?_;obtain ⟨w',a⟩:=P;obtain ⟨s,Q,S,T,u,U⟩:=qp7 ok ok2 R m (H1:=H) rfl a (J:=H') a.keeps.old (λ_ _ h=>h) (λ_ _=>rfl) rfl a.keeps.ro a.keeps.zm;exact ⟨_,_,s,N,Q,S,T,u,U⟩
  .exact e (.func g) _ st k h base H w _ R j
 .rename_i id;cases y with
  | yield W=>exact ⟨.round (w.c id),i,rfl,e (.round id) _ st k h base H w _ R z⟩
 .exact absurd h id
end
end Go.E3
/- E3: REGIONS in the order of the text. -/
namespace Go.E3
open Go Go.E2
variable {K:Nat->Type}
section
variable {X:Codecs K} {sz:Nat->Nat} {C:ZC K} {base H:Heap} {st:StV K} {fr:Fr} {w:Wd}
variable {tbl:Tbl K} {inv:Nat->List (NV K)->Prop} {meas:Nat->List (NV K)->Nat} {inl:ZI K}
variable {nd:Bool} {all:Array Oper} {Q:Ex->Fr->Heap->Prop}
theorem Rel.put (R:Rel X sz C base st fr H w) {dst:Option Tmp} {p:PV K} {v:V} (r:Rep X sz w p v):Rel X sz C base (st.put dst p) (fr.put dst v) H w:=by
 obtain ⟨h,f,n,e⟩:=R;cases dst with
 | none=>exact ⟨h,f,n,e⟩
 | some d=>
  obtain ⟨t,m,c,o,x,s⟩:=st;obtain ⟨u,j,k⟩:=fr;have l:j=m:=n;subst l;simp only [St.put,Fr.put];cases y:Nat.blt d j with
  | false=>simp only [zQ];exact ⟨h,f,rfl,e⟩
  | true=>
   simp only [zO];refine ⟨⟨h.wf,h.rob,h.g,h.nx,h.b,h.Mlt,h.n,h.one,h.keeps,h.cl,h.cinj,h.cells,h.owns,h.ownn,h.eta,h.einj,h.ce,h.known,h.globs⟩,λi q a=>?_,rfl,e⟩;simp only [Tree.jq] at a;simp only [Fr.tmp,Tree.jq];by_cases hi:i=d
   .rw [zT hi] at a ⊢;cases a;exact ⟨v,rfl,r⟩
   .rw [zF hi] at a ⊢;exact f i q a
theorem Rel.step (ok:CfgOk X sz C) (R:Rel X sz C base st fr H w) {a:StV K} {H':Heap} {w':Wd} (c:a.tmps=st.tmps) (d:a.n=st.n) (e:RelH X sz C base a H' w') (hle:Le w w'):Rel X sz C base a fr H' w':=
 ⟨e,λi p b=>by
  rw [c] at b;obtain ⟨v,g,h⟩:=R.f i p b;exact ⟨v,g,h.mono ok.len hle⟩,by rw [d];exact R.n,R.ds.mono hle⟩
theorem qy3 (R:Rel X sz C base st fr H w) {o:Oper} {k:Bool->StV K->Prop} (h:zll (qo X tbl inv meas) o all st k) :
  ∃ b a,qek o all fr=some b/\k b a/\Near st a/\a.next=st.next/\RelH X sz C base a H w:=by
 unfold zll at h;split at h
 .rename_i e;exact ⟨true,st,qlm e,h,.refl st,rfl,R.h⟩
 .rename_i j c e;split at h
  .rename_i g;exact ⟨false,st,by simp only [qek,e,g],h,.refl st,rfl,R.h⟩
  .rename_i d g;split at h
   .rename_i b i;obtain ⟨v,l,m⟩:=R.f d _ i;cases m;exact ⟨b == c,st,zlm e g l,h,.refl st,rfl,R.h⟩
   .rename_i id neg b y z i;obtain ⟨v,l,m⟩:=R.f d _ i;cases m with
    | sb n p q=>
     obtain ⟨a,r,s,t,u⟩:=q0v R.h (.sb n p q) h;exact ⟨b == c,a,zlm e g l,r,s,t,u⟩
   .rename_i i;obtain ⟨v,l,m⟩:=R.f d _ i;obtain ⟨A,rfl,x⟩:=m.qi6;have:=x.jb;subst this;exact ⟨false,st,zi1 e g l,h,.refl st,rfl,R.h⟩
   .exact absurd h id
theorem q1a {H:Heap} {s:List UInt8}:js H 1 (.str s)=some (s.length,s.map λb=>.int .u8 b.toNat):=by
 simp only [js,V.qfn,qdx,Nat.beq_refl,zO]
theorem q7v (ok:CfgOk X sz C) (s:List UInt8):(X.u8 ▸ s:List (K 0)).length=s.length/\qu X sz w ((X.u8 ▸ s:List (K 0)).flatMap (X.cells 0)) (s.map λb=>V.int .u8 b.toNat):=by
 have a:∀ (l:List (K 0)),qu X sz w (l.flatMap (X.cells 0)) ((X.u8 ▸ l:List UInt8).map λb=>V.int .u8 b.toNat):=by
  intro l;rw [qrd]
  induction l with
  | nil=>exact .nil
  | cons x l c=>
   rw [List.flatMap_cons,ok.u8,List.singleton_append,List.map_cons,List.map_cons];exact .cons (.int λm d=>by cases d) c
 have e:(X.u8 ▸ (X.u8 ▸ s:List (K 0)):List UInt8)=s:=by
  have:∀ {α β:Type} (h:α=β) (s:List β),(h ▸ (h ▸ s:List α):List β)=s:=by intro α β h s;subst h;rfl
  exact this X.u8 s
 have f:∀ {α β:Type} (h:α=β) (s:List β),(h ▸ s:List α).length=s.length:=by intro α β h s;subst h;rfl
 refine ⟨f X.u8 s,?_⟩;have:=a (X.u8 ▸ s);rw [e] at this;exact this
theorem zs4 (ok:CfgOk X sz C) (ok2:CfgOk2 X C) (tok:qke X sz C tbl) (af:qps X sz C inl) (R:Rel X sz C base st fr H w) {o:Oper} {l:List Oper} {k:PV K->StV K->Prop} (hd:qul o.op=false) (hw:qek o all fr=some true) (h:qdd (qo X tbl inv meas) C inl o st k)
  (next:∀ p d v H' w',k p d->d.tmps=st.tmps->d.n=st.n->RelH X sz C base d H' w'->Le w w'->Rep X sz w' p v->WpO C.E nd all l (fr.put o.dst v) H' Q):WpO C.E nd all (o::l) fr H Q:=by
 have j:qm5 o=false:=hd;by_cases hp:qg4 o.op=true
 .obtain ⟨p,d,v,w',i,D,J,P,h5,h6⟩:=q59 ok R hp (λ_ _=>rfl) (λ_ _ _ _=>.inl rfl) h;exact qnj j hw h6 (next p d v H w' i D.tmps D.n J P h5)
 by_cases hn:qqv o.op=true
 .obtain ⟨p,d,v,row,w',i,D,J,P,h5,h6,h7⟩:=zck ok R hn h;exact qnj j hw (h7 fr H rfl (λ_ _=>rfl)) (next p d v _ w' i D J P h5 h6)
 cases z:o.op with
 | load t x=>
  simp only [qdd,z] at h;obtain ⟨ti,F,i⟩:=qe h;obtain ⟨p,ag,D⟩:=qe i;obtain ⟨v,ev,rv⟩:=zc R ag;obtain ⟨q,J,nm,gn,off,lim,rfl,_,hl,_⟩:=qqq ok R.h rv D;obtain ⟨u,hu,ru⟩:=hl H rfl;obtain ⟨w',L,S,A,r'⟩:=qkp ok R.h ru;refine qnj j hw (v:=u) (H':=H) ?_ (next _ _ u H w' J L.tmps L.n S A r');simp only [jk,z,F,zB,ev,hu,zH]
 | store t a x=>
  simp only [qdd,z] at h;obtain ⟨ti,F,i⟩:=qe h;obtain ⟨pa,ah,D⟩:=qe i;obtain ⟨px,G,J⟩:=qe D;obtain ⟨va,ea,ra⟩:=zc R ah;obtain ⟨vx,ex,rx⟩:=zc R G;obtain ⟨d,id,gn,off,lim,H',w',P,_,_,_,_,_,_,_,hs,e1,e2,_,S,A,_⟩:=qvu ok R.h ra rx J;refine q4e j hw (H':=H') ?_ (next _ _ j8 H' w' P e1 e2 S A .undef);simp only [jk,z,F,zB,ea,ex,hs,zH]
 | lookup t m x ar=>
  simp only [qdd,z] at h;obtain ⟨pm,M,i⟩:=qe h;obtain ⟨px,G,D⟩:=qe i;obtain ⟨vm,em,rm⟩:=zc R M;obtain ⟨vx,ex,rx⟩:=zc R G;obtain ⟨id,p,d,v,w',_,rfl,_,_,_,J,L,S,A,r',N⟩:=q4z ok R.h rm rx D;exact qnj j hw (N o m x fr H z em ex rfl) (next p d v H w' J L.tmps L.n S A r')
 | mapUpdate t m x y=>
  simp only [qdd,z] at h;obtain ⟨pm,M,i⟩:=qe h;obtain ⟨px,G,D⟩:=qe i;obtain ⟨py,a8,J⟩:=qe D;obtain ⟨vm,em,rm⟩:=zc R M;obtain ⟨vx,ex,rx⟩:=zc R G;obtain ⟨vy,ey,ry⟩:=zc R a8;obtain ⟨id,d,row,w',_,rfl,_,I,_,_,P,e1,e2,S,A,_,N⟩:=qno ok R.h rm rx ry J;exact q4e j hw (N o m x y fr H (.inl z) em ex ey rfl (by rw [R.h.keeps.ro];exact zR R.h.rob.1 I)) (next _ _ j8 _ w' P e1 e2 S A .undef)
 | insert t m x y=>
  simp only [qdd,z] at h;obtain ⟨pm,M,i⟩:=qe h;obtain ⟨px,G,D⟩:=qe i;obtain ⟨py,a8,J⟩:=qe D;obtain ⟨vm,em,rm⟩:=zc R M;obtain ⟨vx,ex,rx⟩:=zc R G;obtain ⟨vy,ey,ry⟩:=zc R a8;obtain ⟨id,d,row,w',_,rfl,_,I,_,_,P,e1,e2,S,A,_,N⟩:=qno ok R.h rm rx ry J;exact q4e j hw (N o m x y fr H (.inr z) em ex ey rfl (by rw [R.h.keeps.ro];exact zR R.h.rob.1 I)) (next _ _ j8 _ w' P e1 e2 S A .undef)
 | call c=>
  simp only [qdd,z] at h;obtain ⟨ps,ai,i⟩:=qe h;obtain ⟨vs,ev,rv⟩:=qej R ai;split at i
  .rename_i f hf;obtain ⟨pf,aj,D⟩:=qe i;obtain ⟨vf,ef,rf⟩:=zc R aj;obtain ⟨g,us,Z,aa⟩:=qya ok ok2 tok af R.h rf rv D;refine zxh j hw (t:=g) (args:=us) (H1:=H) ?_ (aa.mono λv H' hA=>?_)
   .simp only [jk,z,hf,ef,ev,zB,Z,zH]
   .obtain ⟨p,d,w',a1,a2,a3,a4,a5,a6⟩:=hA;exact next p d v H' w' a1 a2 a3 a4 a5 a6
  .rename_i b hf;have T:qg4 o.op=false:=by simpa using hp
   simp only [qg4,z,hf] at T;unfold qlt at i;split at i
   .simp at T
   .rename_i s x t u O;obtain ⟨au,av,rfl,r1,r2⟩:=rv.z7;obtain ⟨vx,aq,rfl,r3,r4⟩:=r2.z7;have:=r4.jb;subst this;split at i
    .rename_i ti ui F ab;split at i
     .rename_i e e' U W;split at i
      .rename_i c' ei Z B;cases I:(Nat.ble ei.bytes 1024&&!Nat.beq ei.size 0) with
       | false=>rw [I] at i;exact absurd i id
       | true=>
        rw [I] at i;simp only [zO] at i;simp only [zA,Nat.ble_eq] at I;split at i
        .rename_i r ak;obtain ⟨p,d,v,H',w',a1,a2,a3,a4,a5,a6,a7⟩:=zcu ok R.h Z B I.1 r1 r3 ak i;refine qnj j hw (v:=v) (H':=H') ?_ (next p d v H' w' a1 a2 a3 a5 a6 a7);simp only [jk,z,hf,ev,zB,qar,O,F,ab,U,W,B,a4,zH]
        .split at i
         .rename_i l' hl;have rl:=qe5 r3 hl;have al:=ok.size e c' ei Z B;obtain ⟨an,Y,ad⟩:=qjr ok.len R.h.g rl (ok.pos e c' Z);rw [<-al] at Y;obtain ⟨p,d,v,H',w',a1,a2,a3,a4,a5,a6,a7⟩:=qfv ok R.h Z B I.1 r1 Y ad i;refine qnj j hw (v:=v) (H':=H') ?_ (next p d v H' w' a1 a2 a3 a5 a6 a7);simp only [jk,z,hf,ev,zB,qar,O,F,ab,U,W,B,a4,zH]
         .exact absurd i id
      .exact absurd i id
     .rename_i e U W;split at i
      .rename_i ei y Z B;cases I:(Nat.ble ei.bytes 1024&&Nat.beq ei.size 1) with
       | false=>rw [I] at i;exact absurd i id
       | true=>
        rw [I] at i;simp only [zO] at i;simp only [zA,Nat.ble_eq] at I;cases r3;have ao:=zE I.2;obtain ⟨ae,ad⟩:=q7v (w:=w) ok y;have Y:js H ei.size (.str y)=some ((X.u8 ▸ y:List (K 0)).length,y.map λb=>V.int .u8 b.toNat):=by rw [ao,q1a,ae]
        obtain ⟨p,d,v,H',w',a1,a2,a3,a4,a5,a6,a7⟩:=qfv ok R.h Z B I.1 r1 Y ad i;refine qnj j hw (v:=v) (H':=H') ?_ (next p d v H' w' a1 a2 a3 a5 a6 a7);simp only [jk,z,hf,ev,zB,qar,O,F,ab,U,W,B,a4,zH]
      .exact absurd i id
     .exact absurd i id
    .exact absurd i id
   .simp at T
   .simp at T
   .exact absurd i id
  .exact absurd i id
 | _=>first
  | (simp [qg4,z] at hp;done)
  | (simp [qqv,z] at hn;done)
  | (simp only [qdd,z] at h;exact absurd h id)
theorem qrc (ok:CfgOk X sz C) (ok2:CfgOk2 X C) (tok:qke X sz C tbl) (a:qps X sz C inl):∀ {l:List Oper} {st:StV K} {fr:Fr} {H:Heap} {w:Wd} {k:StV K->Prop},Rel X sz C base st fr H w->wpOps (qo X tbl inv meas) C inl all l st k->
  WpO C.E nd all l fr H λex fr' H'=>ex=.normal/\∃ c w',k c/\Rel X sz C base c fr' H' w'/\Le w w'
 | [],st,fr,H,w,k,R,h=>zlp ⟨rfl,st,w,h,R,.refl w⟩
 | o::l,st,fr,H,w,k,R,h=>by
  simp only [wpOps] at h;cases i:qul o.op with
  | true=>rw [i] at h;exact h.elim
  | false=>
   rw [i] at h;simp only [zQ] at h;obtain ⟨b,m,s,j,t,u,x⟩:=qy3 R h;have d:Rel X sz C base m fr H w:=R.step ok t.tmps t.n x (.refl w);cases b with
   | true=>
    simp only [zO] at j;refine zs4 ok ok2 tok a d i s j λp c v H' w' y z q A f B=>?_;have D:=((d.step ok z q A f).put (dst:=o.dst) B);exact (qrc ok ok2 tok a D y).mono λex fr' F G=>by
     obtain ⟨e,g,r,I,J,a3⟩:=G;exact ⟨e,g,r,I,J,f.trans a3⟩
   | false=>
    simp only [zQ] at j;exact z10 i s (qrc ok ok2 tok a (d.put (dst:=o.dst) .undef) j)
end
end Go.E3
/- E3: REGIONS that draw their order: footprints. -/
namespace Go.E3
open Go Go.E2
variable {K:Nat->Type}
section
variable {X:Codecs K} {sz:Nat->Nat} {C:ZC K} {base H:Heap} {st:StV K} {fr:Fr} {w:Wd}
variable {tbl:Tbl K} {inv:Nat->List (NV K)->Prop} {meas:Nat->List (NV K)->Nat} {inl:ZI K}
variable {nd:Bool} {all:Array Oper} {Q:Ex->Fr->Heap->Prop} {b:Array Nat} {i:Nat}
theorem RelH.congr (R:RelH X sz C base st H w) {J:Heap} (d:∀ n,J.get n=H.get n) (c:J.next=H.next) (e:J.ro=H.ro) (f:J.zm=H.zm):RelH X sz C base st J w:=by
 have j:J.get=H.get:=funext d;exact ⟨λn a=>by rw [d];exact R.wf n (by omega),R.rob,R.g.trans j.symm,R.nx.trans c.symm,R.b,λn a=>by rw [c];exact R.Mlt n a,R.n,R.one,
  ⟨by rw [c];exact R.keeps.next,by rw [e];exact R.keeps.ro,by rw [f];exact R.keeps.zm,λnm a=>by rw [d];exact R.keeps.old nm a⟩,
  λid h=>by rw [c];exact R.cl id h,R.cinj,λid ps h=>by rw [d];exact R.cells id ps h,R.owns,R.ownn,λi s nm h a=>by rw [c];exact R.eta i s nm h a,R.einj,R.ce,R.known,R.globs⟩
theorem qvw {E:Env} {o:Oper} (h:kv E o.op=false) (f:qg4 o.op=true∨qqv o.op=true):∀ x ∈ o.op.operands.toList,∀ g,x≠.global g:=by
 have b:∀ l:List Operand,(l.any λx=>match x with | .global _=>true | _=>false)=false->∀ x ∈ l,∀ g,x≠.global g:=by
  intro l i x m g n;subst n;rw [<-Bool.not_eq_true,List.any_eq_true] at i;exact i ⟨_,m,rfl⟩
 cases a:o.op with
 | load=>simp [kv,a] at h
 | store=>simp [kv,a] at h
 | lookup=>simp [kv,a] at h
 | mapUpdate=>simp [kv,a] at h
 | insert=>simp [kv,a] at h
 | next=>simp [kv,a] at h
 | convert=>simp [kv,a] at h
 | slice t x lo hi q=>
  rw [a] at h;simp only [kv,Bool.or_eq_false_iff] at h;refine b _ ?_;rw [<-Array.any_toList] at h;exact h.2
 | call c=>
  rw [a] at h f;have d:(c.args.any λx=>match x with | .global _=>true | _=>false)=false/\∃ j,c.callee=.builtin j:=by
   simp only [qg4,qqv,Bool.false_eq_true,or_false] at f;simp only [kv] at h;split at f
   .grind
   .grind
   .grind
   .cases f
  obtain ⟨k,j,p⟩:=d;have e:(Op.call c).operands.toList=c.args.toList:=by
   simp only [Op.operands,Call.operands,p];simp
  rw [e];refine b _ ?_;rw [<-Array.any_toList] at k;exact k
 | _=>
  first
   | (simp [a,qg4,qqv] at f;done)
   | (rw [a] at h
      refine b _ ?_;simp only [kv] at h;rw [<-Array.any_toList] at h;exact h)
theorem qg2 {o:Oper} {H':Heap} {x:Operand} (a:x ∈ o.op.operands.toList) (b:∀ g,x≠.global g):opd {fr with tmps:=jj fr.tmps (o.looksAt all) .nil} H' x=opd fr H x:=by
 cases x with
 | tmp t=>
  refine qd7 ?_;simp only [Oper.looksAt,List.mem_append,List.mem_filterMap];exact .inl ⟨_,a,rfl⟩
 | const v=>rfl
 | global g=>simp_all
 | func f=>rfl
def qt6 (B:Nat) (done:List Done) (n:Nat):Src->Prop
 | .any=>True
 | .calm=>n<B
 | .own j=>∃ d ∈ done,d.i=j/\d.lo<=n/\n<d.hi
theorem qt6.more {B n:Nat} {done done':List Done} (h:∀ d ∈ done,d ∈ done') {s:Src} (a:qt6 B done n s):qt6 B done' n s:=by
 cases s with
 | any=>trivial
 | calm=>exact a
 | own j=>obtain ⟨d,b,c⟩:=a;exact ⟨d,h d b,c⟩
def Still (w:Wd) (n:Nat):Prop:=¬ w.M n/\∃ cs e gen a b ex,w.g n=some (.row cs e gen a b ex)
def fpR (B:Nat) (done:List Done) (lo:Nat) (w:Wd):FP3->FP->Prop
 | .none,fp=>fp=.none
 | .read id,fp=>fp=.reads [w.c id]/\w.cl id
 | .write id,fp=>fp=.writes [w.c id]/\w.cl id
 | .stable a,fp=>∃ l,fp=.reads l/\∀ n ∈ l,Still w n/\∃ s ∈ a,qt6 B done n s
 | .call _,fp=>fp=.call
 | .lone,fp=>fp=.lone∨∃ l,(fp=.writes l∨fp=.reads l)/\∀ n ∈ l,n<lo
theorem Still.mono {w w':Wd} (h:Le w w') {n:Nat} (i:Still w n):Still w' n:=by
 obtain ⟨j,cs,e,gen,a,b,ex,k⟩:=i;obtain ⟨c,cs2,f,g,ex',d⟩:=h.mem n cs e gen a b ex k j;exact ⟨c,_,_,_,_,_,_,d⟩
structure DR (B:Nat) (all:List Done) (w:Wd) (d3:Done3) (d:Done):Prop where
 i:d.i=d3.i
 lo:B<=d.lo
 le:d.lo<=d.hi
 no:d3.makes=false->d.hi=d.lo
 fp:fpR B all d.lo w d3.fp d.fp
theorem fpR.mono {B lo:Nat} {done done':List Done} {w w':Wd} (h:Le w w') (j:∀ d ∈ done,d ∈ done') (a:∀ id,w.cl id->id<w.n) {f:FP3} {fp:FP} (e:fpR B done lo w f fp):fpR B done' lo w' f fp:=by
 cases f with
 | none=>exact e
 | read id=>
  obtain ⟨g,b⟩:=e;exact ⟨by rw [h.c id (a id b)];exact g,(h.cl id (a id b)).2 b⟩
 | write id=>
  obtain ⟨g,b⟩:=e;exact ⟨by rw [h.c id (a id b)];exact g,(h.cl id (a id b)).2 b⟩
 | stable p=>
  obtain ⟨l,g,b⟩:=e;refine ⟨l,g,λn k=>?_⟩;obtain ⟨m,s,o,i⟩:=b n k;exact ⟨m.mono h,s,o,i.more j⟩
 | call=>exact e
 | lone=>exact e
inductive DRs (B:Nat) (all:List Done) (w:Wd):List Done3->List Done->Prop
 | nil:DRs B all w [] []
 | cons {d3:Done3} {d:Done} {l3:List Done3} {l:List Done} (h:DR B all w d3 d) (hs:∀ d' ∈ l,d'.hi<=d.lo/\d'.i<d.i) (h':DRs B all w l3 l):DRs B all w (d3::l3) (d::l)
theorem DRs.mono {B:Nat} {b a:List Done} {w w':Wd} (h:Le w w') (g:∀ d ∈ b,d ∈ a) (e:∀ id,w.cl id->id<w.n) {f:List Done3} {l:List Done} (j:DRs B b w f l):DRs B a w' f l:=by
 induction j with
 | nil=>exact .nil
 | cons c k _ m=>exact .cons ⟨c.i,c.lo,c.le,c.no,c.fp.mono h g e⟩ k m
theorem DRs.free {B:Nat} {all:List Done} {e:List Done3} {l:List Done} (g:DRs B all w e l) {P:Done3->Prop} (h:∀ d ∈ e.filter (λd=>!(b.getD i 0).testBit d.i),P d):∀ d ∈ zv b i l,∃ f,DR B all w f d/\P f:=by
 unfold zv
 induction g with
 | nil=>simp_all
 | @cons a3 a e l j _ _ k=>
  intro d c;rw [List.filter_cons] at c h;rw [j.i] at c;by_cases m:(!(b.getD i 0).testBit a3.i)=true
  .grind
  .simp_all
theorem DRs.sorted {B:Nat} {all:List Done} {b:List Done3} {l:List Done} (e:DRs B all w b l):∀ d ∈ l,∀ c ∈ l,d.i<c.i->d.hi<=c.lo:=by
 induction e with
 | nil=>simp_all
 | @cons a3 a b l f g _ h=>grind
theorem DRs.same {B:Nat} {all:List Done} {b:List Done3} {l:List Done} (e:DRs B all w b l):∀ d ∈ l,∀ c ∈ l,d.i=c.i->d=c:=by
 induction e with
 | nil=>simp_all
 | @cons a3 a b l f g _ h=>grind
theorem q1n {l:List Done} {d:Done} (h:d ∈ zv b i l):d ∈ l:=(List.mem_filter.1 h).1
theorem qjz {B old lo:Nat} (R:RelH X sz C base st H w) {E:List Done3} {l:List Done} (y:DRs B l w E l) {f:FP3} {fp:FP} (F:∀ d ∈ E,∀ id,d.fp=.write id->w.M (w.c id)) (G:∀ id,f=.write id->w.M (w.c id)) (h:fpR B l lo w f fp)
  (V:(E.filter λd=>!(b.getD i 0).testBit d.i).all (λd=>qnm old d f)=true) {dels:List Nat}:((zv b i l).any λd=>qdb d dels fp)=false:=by
 rw [<-Bool.not_eq_true,List.any_eq_true];rintro ⟨d,z,e⟩;obtain ⟨⟨j,g,mk⟩,t,a,I⟩:=y.free (P:=λd=>qnm old d f=true/\d ∈ E) (λd y=>⟨List.all_eq_true.1 V d y,(List.mem_filter.1 y).1⟩) d z;have J:=q1n z;have q:=t.fp;have K:=F _ I;have L:=t.le;have N:=t.i;simp only [qnm,zA] at a;obtain ⟨a,_⟩:=a;have A:=y.sorted d J;have k:qdb d dels .none=false:=qsz;obtain ⟨di,W,O,Y,dd⟩:=d;simp only at q N L A;cases g with
 | none=>simp only [fpR] at q;subst q;simp [qdb] at e
 | read Z=>
  obtain ⟨rfl,v⟩:=q;cases f with
  | none=>simp only [fpR] at h;rw [h,k] at e;cases e
  | read u=>obtain ⟨rfl,_⟩:=h;simp [qdb] at e
  | stable=>obtain ⟨D,rfl,_⟩:=h;simp [qdb] at e
  | call=>simp only [fpR] at h;subst h;simp [qdb] at e
  | write u=>
   obtain ⟨rfl,o⟩:=h;simp only [goes,Bool.not_eq_true',<-Bool.not_eq_true,Nat.beq_eq] at a;simp only [qdb,List.any_cons,List.any_nil,Bool.or_false,Nat.beq_eq] at e;exact a (R.cinj _ _ v o e.symm)
  | lone=>simp [goes] at a
 | write Z=>
  obtain ⟨rfl,v⟩:=q;cases f with
  | none=>simp only [fpR] at h;rw [h,k] at e;cases e
  | read u=>
   obtain ⟨rfl,o⟩:=h;simp only [goes,Bool.not_eq_true',<-Bool.not_eq_true,Nat.beq_eq] at a;simp only [qdb,List.any_cons,List.any_nil,Bool.or_false,Nat.beq_eq] at e;exact a (R.cinj _ _ v o e)
  | stable=>
   obtain ⟨D,rfl,o⟩:=h;simp only [qdb,List.any_cons,List.any_nil,Bool.or_false,List.any_eq_true] at e;obtain ⟨n,p,x⟩:=e;have:=zE x;subst this;exact (o _ p).1.1 (K _ rfl)
  | call=>simp [goes] at a
  | write u=>
   obtain ⟨rfl,o⟩:=h;simp only [goes,Bool.not_eq_true',<-Bool.not_eq_true,Nat.beq_eq] at a;simp only [qdb,List.any_cons,List.any_nil,Bool.or_false,Nat.beq_eq] at e;exact a (R.cinj _ _ v o e)
  | lone=>simp [goes] at a
 | stable=>
  obtain ⟨l1,rfl,v⟩:=q;cases f with
  | none=>simp only [fpR] at h;rw [h,k] at e;cases e
  | read u=>obtain ⟨rfl,_⟩:=h;simp [qdb] at e
  | stable=>obtain ⟨D,rfl,_⟩:=h;simp [qdb] at e
  | call=>simp only [fpR] at h;subst h;simp [qdb] at e
  | write u=>
   obtain ⟨rfl,o⟩:=h;simp only [qdb,List.any_cons,List.any_nil,Bool.or_false,List.any_eq_true] at e;obtain ⟨n,p,x⟩:=e;have:=zE x;subst this;exact (v _ p).1.1 (G _ rfl)
  | lone=>simp [goes] at a
 | call=>
  subst q;cases f with
  | none=>simp only [fpR] at h;rw [h,k] at e;cases e
  | read u=>obtain ⟨rfl,_⟩:=h;simp [qdb] at e
  | stable=>obtain ⟨D,rfl,_⟩:=h;simp [qdb] at e
  | call=>simp only [fpR] at h;subst h;simp [qdb] at e
  | write u=>simp [goes] at a
  | lone=>simp [goes] at a
 | lone=>
  cases f with
  | none=>simp only [fpR] at h;rw [h,k] at e;cases e
  | stable ss=>
   obtain ⟨D,rfl,o⟩:=h;simp only [goes,List.all_eq_true] at a;have r:∀ n ∈ D,O<=n:=by
    intro n p;obtain ⟨_,s,hs,Q⟩:=o n p;have S:=a s hs;cases s with
    | own j'=>
     simp only [Nat.blt_eq] at S;obtain ⟨d',T,e1,e2,e3⟩:=Q;have:=A d' T (by rw [e1];omega);omega
    | _=>simp at S
   rcases q with rfl | ⟨l1,rfl | rfl,U⟩
   .simp only [qdb,List.any_eq_true,zA,Nat.blt_eq] at e;obtain ⟨n,p,x,_⟩:=e;have:=r n p;omega
   .simp only [qdb,List.any_eq_true] at e;obtain ⟨n,p,m,hm,x⟩:=e;have:=zE x;have S:=r _ hm;have h2:=U _ p;omega
   .simp [qdb] at e
  | _=>simp [goes] at a
theorem qrl {B old nm:Nat} {p:List Done3} {l:List Done} (h:DRs B l w p l) {f:FP3} (u:(p.filter λd=>!(b.getD i 0).testBit d.i).all (λd=>qnm old d f)=true)
  (v:(∃ j,(f=.read j∨f=.write j)/\(j<old->nm<B))∨(∃ n,f=.stable n/\∃ s ∈ n,qt6 B l nm s)∨f=.lone∨f=.call false):nm ∉ (zv b i l).flatMap Done.names:=by
 intro x;obtain ⟨d,e,y⟩:=List.mem_flatMap.1 x;obtain ⟨⟨j,g,mk⟩,c,a⟩:=h.free (λd h=>List.all_eq_true.1 u d h) d e;simp only [qnm,zA] at a;obtain ⟨_,a⟩:=a;have D:=List.mem_range'_1.1 y;have o:=c.i;simp only at o;cases mk with
 | false=>
  have:=c.no rfl;omega
 | true=>
  simp only [Bool.not_true,Bool.false_or] at a;rcases v with ⟨q,z,A⟩ | ⟨n,rfl,s,C,k⟩ | rfl | rfl
  .have:q<old:=by
    rcases z with rfl | rfl<;>simpa [fits,Nat.blt_eq] using a
   have:=c.lo;omega
  .simp only [fits,List.all_eq_true] at a;have r:=a s C;cases s with
   | any=>simp at r
   | calm=>have:=c.lo;simp only [qt6] at k;omega
   | own q=>
    simp only [Bool.not_eq_true',<-Bool.not_eq_true,Nat.beq_eq] at r;obtain ⟨t,m,E,F,G⟩:=k;have H:=h.sorted d (q1n e) t m;have I:=h.sorted t m d (q1n e);omega
  .simp [fits] at a
  .simp [fits] at a
theorem zdf {B nm:Nat} {all:List Done} {e:List Done3} {l:List Done} (f:DRs B all w e l) (h:nm<B):nm ∉ (zv b i l).flatMap Done.names:=by
 intro k;obtain ⟨d,a,m⟩:=List.mem_flatMap.1 k;obtain ⟨⟨j,g,mk⟩,c,_⟩:=f.free (P:=λ_=>True) (λ_ _=>trivial) d a;have n:=List.mem_range'_1.1 m;have:=c.lo;omega
theorem qun {B old:Nat} {a:List Done3} {l:List Done} (c:DRs B l w a l) {f:FP3} (e:(a.filter λd=>!(b.getD i 0).testBit d.i).all (λd=>qnm old d f)=true) (g:f=.lone∨f=.call false):(zv b i l).flatMap Done.names=[]:=by
 rw [List.eq_nil_iff_forall_not_mem];intro nm;exact qrl c e (.inr (.inr g))
end
end Go.E3
/- E3: REGIONS that draw their order. -/
namespace Go.E3
open Go Go.E2
variable {K:Nat->Type}
section
variable {E:Env} {all:Array Oper} {fr:Fr} {H:Heap} {Q:Ex->Fr->Heap->Prop} {b:Array Nat} {i:Nat} {l:List Oper} {done:List Done} {o:Oper}
theorem ze6 {fp:FP} {t:Tgt} {args:List V} {K0:Heap} (hw:qek o all fr=some true) (h:qlw E o fr=.call) (c:fp=bif qw0 E all b i then .lone else .call) (e:((zv b i done).any λd=>qdb d ((zv b i done).flatMap Done.names) fp)=false)
  (j:jk E o {fr with tmps:=jj fr.tmps (o.looksAt all) .nil} (zx H fp ((zv b i done).flatMap Done.names))=some (.call t args,K0))
  (m:qdv E t args K0 λv a=>H.next<=a.next/\WpD E all b (i+1) l (⟨i,fp,H.next,a.next,(zv b i done).flatMap Done.names⟩::done) (fr.put o.dst v) (qcm H a fp ((zv b i done).flatMap Done.names)) Q):WpD E all b i (o::l) done fr H Q:=by
 obtain ⟨v,a,⟨n,p⟩,q,⟨x,⟨r,s⟩,u⟩⟩:=m;refine ⟨x,⟨max r n,λk y=>?_⟩,u⟩;have w:Nat.blt a.next H.next=false:=by
  rw [<-Bool.not_eq_true,Nat.blt_eq];omega
 have f:qgb E (qbh E k) all o {fr with tmps:=jj fr.tmps (o.looksAt all) .nil} (zx H fp ((zv b i done).flatMap Done.names))=some (.ret v,a):=by
  simp only [qgb,qtx,hw,j,p k (by omega)]
 have g:=s k (by omega);subst c;simp only [zv] at g e f;simp only [qdy,hw,zB,zO,h,e,zQ,f,w];exact g
theorem qkn {H H1:Heap} {sz:Nat} {x:V} (b:∀ n ∈ x.nm,H1.get n=H.get n):js H1 sz x=js H sz x:=by
 cases x with
 | slice nm g off len a cap=>
  have:=b nm (by simp [V.nm]);unfold js;rcases V.qg8 (nm:=nm) (g:=g) (off:=off) (len:=len) (z:=a) (sz:=sz) (cap:=cap) with e | ⟨_,e⟩<;>rw [e]<;>simp only [qdx,jz,this]
 | _=>rfl
theorem qxs {H H1 H':Heap} {a:List V} {nm g off lim:Nat} (b:H1.ro=H.ro) (f:H1.get nm=H.get nm) (h:qci H a (.ptr nm g off lim)=some H'):∃ row,H.get nm≠none/\qci H1 a (.ptr nm g off lim)=some (H1.put nm row)/\H'=H.put nm row:=by
 simp only [qci,f] at h ⊢;split at h
 .rename_i cells e gen c d ex i;cases j:(Nat.beq g gen&&Nat.ble (off+a.length) lim&&Nat.ble lim cells.length&&Nat.ble d off&&a.all V.qay) with
  | false=>simp_all
  | true=>
   rw [j] at h;obtain ⟨k,rfl⟩:=qj4 h;refine ⟨_,by rw [i];simp,?_,rfl⟩;exact qcl (by rw [b];exact k)
 .cases h
theorem q0n {H H1 H':Heap} {e sz a:Nat} {s x v:V} (u:H1.next=H.next) (f:H1.ro=H.ro) (m:∀ n,n ∈ s.nm∨n ∈ x.nm->H1.get n=H.get n) (h:qcj H e sz a s x=some (v,H')) :
  ∃ l,qcj H1 e sz a s x=some (v,l)/\((l=H1/\H'=H)∨(∃ row,l=H1.new row/\H'=H.new row)∨(∃ nm row,nm ∈ s.nm/\H.get nm≠none/\l=H1.put nm row/\H'=H.put nm row)):=by
 have ex:js H1 sz x=js H sz x:=qkn λn h=>m n (.inr h);have w:js H1 sz s=js H sz s:=qkn λn h=>m n (.inl h);unfold qcj at h ⊢;rw [ex,w,u];obtain ⟨⟨n,b⟩,y,h⟩:=zI.1 h;rw [y];simp only [zB];cases s with
 | nils=>grind
 | slice nm g off len o cap=>
  have i:=m nm (.inl (by simp [V.nm]));simp only [i] at h ⊢;cases z:(!Nat.beq sz o) with
  | true=>simp_all
  | false=>
   rw [z] at h;cases A:Nat.beq n 0 with
   | true=>simp_all
   | false=>
    rw [A] at h;cases B:(!(Nat.ble ((len+n) * a) room&&Nat.ble (len+n) room)) with
    | true=>simp_all
    | false=>
     rw [B] at h;cases C:(!b.all V.qay) with
     | true=>simp_all
     | false=>
      rw [C] at h;split at h
      .rename_i cells D gen d p E F;cases cap with
       | some c=>
        simp only at h ⊢;cases j:Nat.ble (len+n) c with
        | true=>
         rw [j] at h;obtain ⟨G,q,k⟩:=zM.1 h;cases k;obtain ⟨row,r,t,rfl⟩:=qxs f i q;exact ⟨_,by rw [t];rfl,.inr (.inr ⟨nm,row,by simp [V.nm],r,rfl,rfl⟩)⟩
        | false=>
         rw [j] at h;obtain ⟨⟨K,old⟩,q,k⟩:=zM.1 h;cases k;exact ⟨_,by rw [q];rfl,.inr (.inl ⟨_,rfl,rfl⟩)⟩
       | none=>
        cases j:(Nat.beq g gen&&Nat.beq (off+len * sz) cells.length&&Nat.ble p cells.length&&Nat.ble d gen&&!Nat.beq sz 0&&Nat.beq D e) with
        | false=>rw [j] at h;cases h
        | true=>
         rw [j] at h;simp only [zO] at h ⊢;obtain ⟨G,I,k⟩:=zM.1 h;cases k;obtain ⟨J,rfl⟩:=qj4 I;rw [qcl (by rw [f];exact J)];exact ⟨_,rfl,.inr (.inr ⟨nm,_,by simp [V.nm],by rw [F];simp,rfl,rfl⟩)⟩
      .cases h
 | _=>simp only at h;cases h
theorem q4p {H H1 H':Heap} {e sz a:Nat} {s x v:V} (d:H1.next=H.next) (c:H1.ro=H.ro) (f:∀ n,n ∈ s.nm∨n ∈ x.nm->H1.get n=H.get n) (h:qc7 H e sz a s x=some (v,H')) :
  ∃ b,qc7 H1 e sz a s x=some (v,b)/\((b=H1/\H'=H)∨(∃ row,b=H1.new row/\H'=H.new row)∨(∃ nm row,nm ∈ s.nm/\H.get nm≠none/\b=H1.put nm row/\H'=H.put nm row)):=by
 have:=q0n d c (s:=s.qfn sz) (by rw [V.q97];exact f) h;rw [V.q97] at this;exact this
def ztg (m:Nat):V->Bool
 | .nils=>true
 | .slice _ _ _ len _ (some c)=>Nat.beq m 0 || !Nat.ble (len+m) c
 | _=>false
theorem q4o {H H1 H':Heap} {e sz d:Nat} {s x v:V} (w:H1.next=H.next) (k:∀ n,n ∈ s.nm∨n ∈ x.nm->H1.get n=H.get n)
  (l:s=.nils∨∃ nm g off len b c n,s=.slice nm g off len b (some c)/\x.many=some n/\(Nat.beq n 0 || !Nat.ble (len+n) c)=true) (h:qcj H e sz d s x=some (v,H')) :
  ∃ o,qcj H1 e sz d s x=some (v,o)/\((o=H1/\H'=H)∨(∃ row,o=H1.new row/\H'=H.new row)):=by
 have ex:js H1 sz x=js H sz x:=qkn λn h=>k n (.inr h);have y:js H1 sz s=js H sz s:=qkn λn h=>k n (.inl h);have f:∀ n a m,js H sz x=some (n,a)->x.many=some m->n=m:=by
  intro n a m j i;cases x with
  | nils=>
   simp only [js,V.qfn,qdx,zS,zP] at j;simp only [V.many,zS] at i;omega
  | slice nm g off len b cap=>
   simp only [V.many,zS] at i;have:=qs5 j;omega
  | str s=>
   simp only [V.many,zS] at i;simp only [js,V.qfn,qdx] at j;cases t:Nat.beq sz 1 with
   | false=>simp_all
   | true=>simp_all
  | _=>cases i
 unfold qcj at h ⊢;rw [ex,y,w];obtain ⟨⟨n,a⟩,u,h⟩:=zI.1 h;rw [u];simp only [zB];rcases l with rfl | ⟨nm,g,off,len,b,c,m,rfl,z,p⟩
 .grind
 .have q:=k nm (.inl (by simp [V.nm]));have:=f n a m u z;subst this;simp only [q] at h ⊢;cases j:(!Nat.beq sz b) with
  | true=>simp_all
  | false=>
   rw [j] at h;cases t:Nat.beq n 0 with
   | true=>simp_all
   | false=>
    rw [t] at h p;simp only [zQ,Bool.false_or,Bool.not_eq_true'] at h p ⊢;cases i:(!(Nat.ble ((len+n) * d) room&&Nat.ble (len+n) room)) with
    | true=>simp_all
    | false=>
     rw [i] at h;cases A:(!a.all V.qay) with
     | true=>simp_all
     | false=>
      rw [A] at h;split at h
      .rename_i cells F gen r B C G;simp only [p,zQ] at h ⊢;obtain ⟨⟨I,old⟩,D,E⟩:=zM.1 h;cases E;exact ⟨_,by rw [D];rfl,.inr ⟨_,rfl,rfl⟩⟩
      .cases h
theorem q8k {H H1 H':Heap} {e sz b:Nat} {s x v:V} (i:H1.next=H.next) (j:∀ n,n ∈ s.nm∨n ∈ x.nm->H1.get n=H.get n)
  (d:s=.nils∨∃ nm g off len a c n,s=.slice nm g off len a (some c)/\x.many=some n/\(Nat.beq n 0 || !Nat.ble (len+n) c)=true) (h:qc7 H e sz b s x=some (v,H')) :
  ∃ f,qc7 H1 e sz b s x=some (v,f)/\((f=H1/\H'=H)∨(∃ row,f=H1.new row/\H'=H.new row)):=by
 refine q4o i (s:=s.qfn sz) (by rw [V.q97];exact j) ?_ h;rcases d with rfl | ⟨nm,g,off,len,a,c,n,rfl,k,l⟩
 .exact .inl rfl
 .rcases V.qg8 (nm:=nm) (g:=g) (off:=off) (len:=len) (z:=a) (sz:=sz) (cap:=some c) with e | ⟨_,e⟩
  .grind
  .grind
theorem qzb {a:Heap} {l dels:List Nat} {n:Nat}:(qcm H a (.reads l) dels).get n=if n ∈ List.range' H.next (a.next-H.next) then a.get n else H.get n:=by
 simp only [qcm,Heap.get,qaj]
theorem qit {a:Heap} {l dels:List Nat} {n:Nat}:(qcm H a (.writes l) dels).get n=if n ∈ (l.filter λn=>Nat.blt n H.next&&!dels.any λm=>Nat.beq n m)++List.range' H.next (a.next-H.next) then a.get n else H.get n:=by
 simp only [qcm,Heap.get,qaj]
theorem q17 {a:Heap} {dels:List Nat} {n:Nat}:(qcm H a .call dels).get n=if n ∈ List.range' H.next (a.next-H.next) then a.get n else H.get n:=by
 simp only [qcm,Heap.get,qaj]
end
end Go.E3
/- E3: REGIONS that draw their order: the theorem. -/
namespace Go.E3
open Go Go.E2
variable {K:Nat->Type}
section
variable {X:Codecs K} {sz:Nat->Nat} {C:ZC K} {base:Heap}
variable {tbl:Tbl K} {inv:Nat->List (NV K)->Prop} {meas:Nat->List (NV K)->Nat} {inl:ZI K}
variable {all:Array Oper} {b:Array Nat} {B old:Nat}
structure Mid (X:Codecs K) (sz:Nat->Nat) (C:ZC K) (base:Heap) (B old i:Nat) (w0:Wd) (l3:List Done3) (done:List Done) (st:StV K) (fr:Fr) (H:Heap) (w:Wd):Prop where
 R:Rel X sz C base st fr H w
 D:DRs B done w l3 done
 hB:B<=H.next
 hold:old<=st.next
 lt:∀ id,id<old->w.cl id->w.c id<B
 live:∀ d ∈ l3,∀ id,d.fp=.write id->(look st.cells id).isSome=true
 top:∀ d ∈ done,d.hi<=H.next/\d.i<i
 z:Le w0 w
 z0:∃ st0 H0,RelH X sz C base st0 H0 w0/\H0.next=B
theorem RelH.live {st:StV K} {H:Heap} {w:Wd} (R:RelH X sz C base st H w) {id:Nat} (h:(look st.cells id).isSome=true):w.M (w.c id):=by
 obtain ⟨ct,a⟩:=Option.isSome_iff_exists.1 h;exact (R.cells id ct a).2.1
theorem RelH.lts {st:StV K} {H:Heap} {w:Wd} (R:RelH X sz C base st H w) {nm:Nat} {x:O} (h:w.g nm=some x):nm<H.next:=by
 rw [R.g] at h;by_cases a:nm<H.next
 .exact a
 .rw [R.wf nm (by omega)] at h;cases h
theorem Mid.wr {i:Nat} {w0:Wd} {a:List Done3} {done:List Done} {st:StV K} {fr:Fr} {H:Heap} {w:Wd} (m:Mid X sz C base B old i w0 a done st fr H w):∀ d ∈ a,∀ id,d.fp=.write id->w.M (w.c id):=
 λd b id e=>m.R.h.live (m.live d b id e)
theorem Mid.lt0 {i:Nat} {w0:Wd} {a:List Done3} {done:List Done} {st:StV K} {fr:Fr} {H:Heap} {w:Wd} (m:Mid X sz C base B old i w0 a done st fr H w) {nm:Nat} {x:O} (h:w0.g nm=some x):nm<B:=by
 obtain ⟨st0,H0,b,e⟩:=m.z0;rw [<-e];exact b.lts h
theorem Mid.go (ok:CfgOk X sz C) {i:Nat} {w0:Wd} {A:List Done3} {done:List Done} {st b:StV K} {fr:Fr} {H J:Heap} {w w':Wd} (m:Mid X sz C base B old i w0 A done st fr H w) {f:FP3} {mk:Bool} {fp:FP} {hi:Nat} {dels:List Nat} {dst:Option Tmp} {p:PV K} {v:V}
  (G:b.tmps=st.tmps) (I:b.n=st.n) (o:RelH X sz C base b J w') (hle:Le w w') (L:Rep X sz w' p v) (E:H.next<=J.next) (q:H.next<=hi/\hi<=J.next) (r:mk=false->hi=H.next) (t:fpR B done H.next w' f fp)
  (e:∀ j,(look st.cells j).isSome=true->(look b.cells j).isSome=true) (F:∀ id,f=.write id->(look b.cells id).isSome=true) :
  Mid X sz C base B old (i+1) w0 (⟨i,f,mk⟩::A) (⟨i,fp,H.next,hi,dels⟩::done) (b.put dst p) (fr.put dst v) J w':=by
 have u:∀ id,w.cl id->id<w.n:=λid h=>by rw [m.R.h.n];exact (m.R.h.cl id h).1
 have g:∀ id,w'.cl id->id<w'.n:=λid h=>by rw [o.n];exact (o.cl id h).1
 have x:∀ (s:StV K),(s.put dst p).next=s.next:=by
  intro s;unfold St.put;split
  .grind
  .rfl
 have y:∀ (s:StV K),(s.put dst p).cells=s.cells:=by
  intro s;unfold St.put;split
  .grind
  .rfl
 refine ⟨(m.R.step ok G I o hle).put L,.cons ⟨rfl,m.hB,q.1,r,t.mono (.refl w') (λd a=>zG _ a) g⟩ (λd a=>m.top d a) (m.D.mono hle (λd a=>zG _ a) u),zR m.hB E,?_,λid k M=>?_,λd a id N=>?_,λd a=>?_,m.z.trans hle,m.z0⟩
 .rw [x];have:=hle.n;rw [m.R.h.n,o.n] at this;exact zR m.hold this
 .have l:id<w.n:=by rw [m.R.h.n];exact zL k m.hold
  rw [hle.c id l];exact m.lt id k ((hle.cl id l).1 M)
 .rw [y];rcases zD.1 a with rfl | a
  .simp_all
  .exact e id (m.live d a id N)
 .rcases zD.1 a with rfl | a
  .simp_all
  .exact ⟨zR (m.top d a).1 E,Nat.lt_succ_of_lt (m.top d a).2⟩
def zcb:PV K->Bool
 | .eptr ..=>true
 | .list ..=>true
 | _=>false
def Whole (v:V):Prop:=∃ nm len z,v=.slice nm 0 0 len z (some len)
structure Cm (X:Codecs K) (sz:Nat->Nat) (B:Nat) (w0:Wd) (done:List Done) (dt:Dirt) (st:StV K) (fr:Fr):Prop where
 calm:∀ t p v,dt.dirty.any (Nat.beq t)=false->st.tmps.get t=some p->zcb p=true->fr.tmp t=some v->∀ n ∈ v.nm,n<B
 rep:∀ t c l own v,dt.dirty.any (Nat.beq t)=false->st.tmps.get t=some (.list c l own)->fr.tmp t=some v->Rep X sz w0 (.list c l none) v
 fresh:∀ t j wh v,look dt.fresh t=some (j,wh)->fr.tmp t=some v->(∀ n ∈ v.nm,qt6 B done n (.own j))/\(wh=true->Whole v)
structure NewV (X:Codecs K) (sz:Nat->Nat) (B:Nat) (w0:Wd) (done:List Done) (cb:Bool) (fb:Option (Nat×Bool)) (p:PV K) (v:V):Prop where
 calm:cb=true->zcb p=true->∀ n ∈ v.nm,n<B
 rep:∀ c l own,cb=true->p=.list c l own->Rep X sz w0 (.list c l none) v
 fresh:∀ j wh,fb=some (j,wh)->(∀ n ∈ v.nm,qt6 B done n (.own j))/\(wh=true->Whole v)
theorem NewV.no {w0:Wd} {done:List Done} {p:PV K} {v:V}:NewV X sz B w0 done false none p v:=⟨λh=>by (cases h),λ_ _ _ h=>by (cases h),λ_ _ h=>by (cases h)⟩
theorem qs7 {fr:Fr} {dst:Option Tmp} {v u:V} {t:Nat} (h:(fr.put dst v).tmp t=some u):(dst=some t/\u=v)∨fr.tmp t=some u:=by
 cases dst with
 | none=>exact .inr h
 | some d=>
  obtain ⟨c,n,e⟩:=fr;simp only [Fr.put] at h;cases a:Nat.blt d n with
  | false=>simp_all
  | true=>
   rw [a] at h;simp only [zO,Fr.tmp,Tree.jq] at h;by_cases b:t=d
   .simp_all
   .rw [zF b] at h;exact .inr h
theorem q3p {st:StV K} {dst:Option Tmp} {p q:PV K} {t:Nat} (h:(st.put dst p).tmps.get t=some q):dst=some t∨st.tmps.get t=some q:=by
 cases dst with
 | none=>exact .inr h
 | some d=>
  obtain ⟨b,n,c,e,x,f⟩:=st;simp only [St.put] at h;cases a:Nat.blt d n with
  | false=>simp_all
  | true=>
   rw [a] at h;simp only [zO,Tree.jq] at h;by_cases g:t=d
   .simp_all
   .simp_all
theorem qwm {fr:Fr} {t:Nat} {v:V} (h:Nat.blt t fr.n=true):(fr.put (some t) v).tmp t=some v:=by
 obtain ⟨a,m,b⟩:=fr;simp only [Fr.put,h,zO,Fr.tmp,Tree.jq,zT]
theorem q7s {st:StV K} {t:Nat} {p:PV K} (h:Nat.blt t st.n=true):(st.put (some t) p).tmps.get t=some p:=by
 obtain ⟨a,m,c,b,x,d⟩:=st;simp only [St.put,h,zO,Tree.jq,zT]
theorem zs9 {fr:Fr} {t:Nat} {v:V} (h:Nat.blt t fr.n=false):(fr.put (some t) v)=fr:=by
 obtain ⟨a,m,b⟩:=fr;simp only [Fr.put,h,zQ]
theorem zwl {st:StV K} {t:Nat} {p:PV K} (h:Nat.blt t st.n=false):(st.put (some t) p)=st:=by
 obtain ⟨a,m,c,b,x,d⟩:=st;simp only [St.put,h,zQ]
theorem qm6 {α:Type}:∀ {l:List (Nat×α)} {d t:Nat} {x:α},look (qck l d) t=some x->t≠d/\look l t=some x
 | [],d,t,x,h=>by simp [qck,look] at h
 | (i,y)::l,d,t,x,h=>by
  simp only [qck,cond_eq_ite,Nat.beq_eq] at h;by_cases hi:i=d
  .rw [zT hi] at h;obtain ⟨b,c⟩:=qm6 h;refine ⟨b,?_⟩;simp only [look,cond_eq_ite,Nat.beq_eq];rw [zF (by omega)];exact c
  .rw [zF hi] at h;simp only [look,cond_eq_ite,Nat.beq_eq] at h ⊢;by_cases a:i=t
   .rw [zT a] at h ⊢;exact ⟨by omega,h⟩
   .rw [zF a] at h ⊢;exact qm6 h
theorem Cm.put {w0:Wd} {done done':List Done} {C:Dirt} {st r:StV K} {fr:Fr} {D:Bool} {s:Option (Nat×Bool)} {dst:Option Tmp} {p:PV K} {v:V} (h:Cm X sz B w0 done C st fr) (J:∀ d ∈ done,d ∈ done') (E:r.tmps=st.tmps) (w:fr.n=r.n) (M:∀ x d,s=some x->dst=some d->Nat.blt d fr.n=true)
  (L:NewV X sz B w0 done' D s p v):Cm X sz B w0 done' (zij C D s dst) (r.put dst p) (fr.put dst v):=by
 cases dst with
 | none=>
  refine ⟨λt q u e b f y=>?_,λt c l own u e b f=>?_,λt j i u e b=>?_⟩
  .exact h.calm t q u e (by rw [<-E];exact b) f y
  .exact h.rep t c l own u e (by rw [<-E];exact b) f
  .obtain ⟨F,G⟩:=h.fresh t j i u e b;exact ⟨λn H=>(F n H).more J,G⟩
 | some d=>
  have a:∀ t,(zij C D s (some d)).dirty.any (Nat.beq t)=false->C.dirty.any (Nat.beq t)=false/\(t=d->D=true):=by
   intro t g;simp only [zij] at g;cases N:D with
   | true=>simp_all
   | false=>
    rw [N] at g;simp only [zQ,List.any_cons,Bool.or_eq_false_iff] at g;refine ⟨g.2,λm=>?_⟩;rw [m] at g;simp at g
  have I:∀ t j i,look (zij C D s (some d)).fresh t=some (j,i)->(t=d/\s=some (j,i))∨(t≠d/\look C.fresh t=some (j,i)):=by
   intro t j i g;simp only [zij] at g;cases o:s with
   | none=>
    rw [o] at g;exact .inr (qm6 g)
   | some x=>
    rw [o] at g;simp only [look,cond_eq_ite,Nat.beq_eq] at g;by_cases m:d=t
    .grind
    .rw [zF m] at g;exact .inr (qm6 g)
  cases z:Nat.blt d fr.n with
  | false=>
   rw [zs9 z,zwl (by rw [<-w];exact z)];refine ⟨λt q u e b f y=>?_,λt c l own u e b f=>?_,λt j i u e b=>?_⟩
   .exact h.calm t q u (a t e).1 (by rw [<-E];exact b) f y
   .exact h.rep t c l own u (a t e).1 (by rw [<-E];exact b) f
   .rcases I t j i e with ⟨rfl,o⟩ | ⟨_,o⟩
    .grind
    .obtain ⟨F,G⟩:=h.fresh t j i u o b;exact ⟨λn H=>(F n H).more J,G⟩
  | true=>
   refine ⟨λt q u e b f y=>?_,λt c l own u e b f=>?_,λt j i u e b=>?_⟩
   .by_cases m:t=d
    .subst m;rw [qwm z] at y;rw [q7s (by rw [<-w];exact z)] at b;cases y;cases b;exact L.calm ((a t e).2 rfl) f
    .rcases qs7 y with ⟨k,_⟩ | k
     .simp_all
     .rcases q3p b with A | A
      .grind
      .exact h.calm t q u (a t e).1 (by rw [<-E];exact A) f k
   .by_cases m:t=d
    .subst m;rw [qwm z] at f;rw [q7s (by rw [<-w];exact z)] at b;cases f;exact L.rep c l own ((a t e).2 rfl) (Option.some.inj b)
    .rcases qs7 f with ⟨k,_⟩ | k
     .simp only [zS] at k;exact absurd k.symm m
     .rcases q3p b with A | A
      .simp only [zS] at A;exact absurd A.symm m
      .exact h.rep t c l own u (a t e).1 (by rw [<-E];exact A) k
   .rcases I t j i e with ⟨rfl,o⟩ | ⟨m,o⟩
    .rw [qwm z] at b;cases b;exact L.fresh j i o
    .rcases qs7 b with ⟨k,_⟩ | k
     .simp only [zS] at k;exact absurd k.symm m
     .obtain ⟨F,G⟩:=h.fresh t j i u o k;exact ⟨λn H=>(F n H).more J,G⟩
theorem zk5 {o:Oper} {fr:Fr} {H H':Heap} (a:∀ x ∈ o.op.operands.toList,∀ g,x≠.global g):∀ x ∈ o.op.operands.toList,opd {fr with tmps:=jj fr.tmps (o.looksAt all) .nil} H' x=opd fr H x:=
 λx b=>qg2 b (a x b)
theorem Rel.cm {st:StV K} {fr:Fr} {H:Heap} {w:Wd} (R:Rel X sz C base st fr H w):Cm X sz H.next w [] ⟨[],[]⟩ st fr:=by
 refine ⟨λt p v _ i m k n a=>?_,λt c l own v _ i k=>?_,λt j z v h=>by simp [look] at h⟩
 .obtain ⟨u,b,r⟩:=R.f t p i;rw [k] at b;cases b;cases r with
  | eptr d=>simp only [V.nm,List.mem_singleton] at a;subst a;exact R.h.lts d
  | list d=>simp only [V.nm,List.mem_singleton] at a;subst a;exact R.h.lts d
  | nlist=>simp [V.nm] at a
  | _=>simp [zcb] at m
 .obtain ⟨u,b,r⟩:=R.f t _ i;rw [k] at b;cases b;cases r with
  | nlist h=>exact .nlist trivial
  | list d o q e s x g y A=>exact .list d o q e s x g y trivial
theorem qim {α:Type} {c:Bool} {x:Option α} {r:α} (h:(bif c then x else none)=some r):c=true/\x=some r:=by
 cases c with
 | false=>cases h
 | true=>exact ⟨rfl,h⟩
theorem z0z {fr fr':Fr} {H' J:Heap} {o:Oper} {v:V} {t:Nat} (p:(∃ ty i,o.op=.indexAddr ty (.tmp t) i)∨(∃ ty i,o.op=.fieldAddr ty (.tmp t) i))
  (k:∀ x ∈ o.op.operands.toList,opd fr' H' x=opd fr J x) (e:jk C.E o fr' H'=some (.val v,H')):(∃ a b c d,v=.ptr a b c d)/\∃ u,fr.tmp t=some u/\∀ n ∈ v.nm,n ∈ u.nm:=by
 rcases p with ⟨ty,i,l⟩ | ⟨ty,i,l⟩
 .simp only [jk,l] at e;obtain ⟨ti,_,e⟩:=zI.1 e;obtain ⟨u,h,e⟩:=zI.1 e;obtain ⟨j,_,e⟩:=zI.1 e;rw [k _ (by simp [l,Op.operands])] at h;split at e
  .obtain ⟨q,_,e⟩:=zI.1 e;obtain ⟨z,g,e⟩:=zM.1 e;simp only [zP,Out.val.injEq,and_true] at e;subst e;unfold qgy at g;split at g
   .split at g
    .cases g;exact ⟨⟨_,_,_,_,rfl⟩,_,h,λn m=>m⟩
    .cases g
   .cases g
  .obtain ⟨q,_,e⟩:=zI.1 e;split at e
   .split at e
    .cases e;exact ⟨⟨_,_,_,_,rfl⟩,_,h,λn m=>m⟩
    .cases e
   .cases e
  .cases e
 .simp only [jk,l] at e;obtain ⟨ti,_,e⟩:=zI.1 e;obtain ⟨f,_,e⟩:=zI.1 e;obtain ⟨r,_,e⟩:=zI.1 e;cases g:Nat.beq r.size 0 with
  | true=>simp_all
  | false=>
   rw [g] at e;obtain ⟨u,h,e⟩:=zI.1 e;rw [k _ (by simp [l,Op.operands])] at h;split at e
   .cases e;exact ⟨⟨_,_,_,_,rfl⟩,_,h,λn m=>m⟩
   .cases e
theorem zca {st:StV K} {t:Nat} (h:elemAt st t=true):∃ p,st.tmps.get t=some p/\zcb p=true:=by
 unfold elemAt at h;split at h
 .rename_i a;exact ⟨_,a,rfl⟩
 .rename_i a;exact ⟨_,a,rfl⟩
 .cases h
theorem zn6 {w0:Wd} {done done':List Done} {b:Dirt} {st:StV K} {fr fr':Fr} {H' J:Heap} {o:Oper} {p:PV K} {v:V} {i:Nat} {w':Wd} (h:Cm X sz B w0 done b st fr) (F:∀ d ∈ done,d ∈ done') (r:Rep X sz w' p v)
  (s:qg4 o.op=true) (G:∀ t,o.op≠.move (.tmp t)) (y:∀ x ∈ o.op.operands.toList,opd fr' H' x=opd fr J x) (he:jk C.E o fr' H'=some (.val v,H')) :
  NewV X sz B w0 done' (qj5 b st o.op) (qbn b st i o) p v:=by
 have k:∀ t,((∃ ty i,o.op=.indexAddr ty (.tmp t) i)∨(∃ ty i,o.op=.fieldAddr ty (.tmp t) i))->NewV X sz B w0 done' (!b.dirty.any (Nat.beq t)&&elemAt st t) (match o.dst with | some d=>bif Nat.blt d st.n then (bif elemAt st t then (look b.fresh t).map λx=>(x.1,false) else none) else none | none=>none) p v:=by
  intro t a;obtain ⟨⟨z,Q,a3,R,rfl⟩,u,A,D⟩:=z0z a y he;refine ⟨λw _ n e=>?_,λc l own w s=>?_,λj S m=>?_⟩
  .simp only [zA,Bool.not_eq_true'] at w;obtain ⟨q,H,f⟩:=zca w.2;exact h.calm t q u w.1 H f A n (D n e)
  .subst s;cases r
  .split at m
   .rename_i d _;cases I:Nat.blt d st.n with
    | false=>simp_all
    | true=>
     rw [I] at m;cases f:elemAt st t with
     | false=>simp_all
     | true=>
      rw [f] at m;obtain ⟨⟨T,L⟩,M,N⟩:=zM.1 m;obtain ⟨rfl,rfl⟩:=N;obtain ⟨z,_⟩:=h.fresh t _ _ u M A;exact ⟨λn e=>(z n (D n e)).more F,λO=>by cases O⟩
   .cases m
 cases a:o.op with
 | indexAddr ty x P=>
  cases x with
  | tmp t=>
   have:=k t (.inl ⟨_,_,a⟩);simp only [qbn,a,qkq,qj5];exact this
  | _=>
   have g:qbn b st i o=none:=by
    unfold qbn;split
    .simp only [a,qkq];cases Nat.blt _ st.n<;>rfl
    .rfl
   rw [g];exact .no
 | fieldAddr ty x P=>
  cases x with
  | tmp t=>
   have:=k t (.inr ⟨_,_,a⟩);simp only [qbn,a,qkq,qj5];exact this
  | _=>
   have g:qbn b st i o=none:=by
    unfold qbn;split
    .simp only [a,qkq];cases Nat.blt _ st.n<;>rfl
    .rfl
   rw [g];exact .no
 | move x=>
  cases x with
  | tmp t=>simp_all
  | _=>
   have g:qbn b st i o=none:=by
    unfold qbn;split
    .simp only [a,qkq];cases Nat.blt _ st.n<;>rfl
    .rfl
   rw [g];exact .no
 | buildSlice=>rw [a] at s;simp [qg4] at s
 | _=>
  have g:qbn b st i o=none:=by
   unfold qbn;split
   .simp only [a,qkq];cases Nat.blt _ st.n<;>rfl
   .rfl
  rw [g];exact .no
theorem zhk {w0:Wd} {done:List Done} {c:Dirt} {st:StV K} {o:Oper} {p:PV K} {v:V} {i:Nat} {fr':Fr} {T h:Heap} {t:TypeId} {n:Nat} {parts:Array (Nat×Operand)} (e:o.op=.buildSlice t n parts)
  (a:jk C.E o fr' T=some (.val v,h)) (k:∃ d ∈ done,d.i=i/\d.lo<=T.next/\T.next<d.hi):NewV X sz B w0 done (qj5 c st o.op) (qbn c st i o) p v:=by
 have l:∃ len z,v=.slice T.next 0 0 len z (some len):=by
  simp only [jk,e] at a;obtain ⟨ti,_,a⟩:=zI.1 a;obtain ⟨w,_,a⟩:=zI.1 a;split at a
  .obtain ⟨q,_,a⟩:=zI.1 a;cases r:Nat.ble (n * q.size) 16777216 with
   | false=>simp_all
   | true=>
    rw [r] at a;obtain ⟨cells,_,a⟩:=zM.1 a;simp only [zP,Out.val.injEq] at a;exact ⟨_,_,a.1.symm⟩
  .cases a
 obtain ⟨len,z,rfl⟩:=l;have s:qj5 c st o.op=false:=by rw [e];rfl
 rw [s];refine ⟨λf=>(by cases f),λ_ _ _ f=>(by cases f),λj x b=>?_⟩;unfold qbn at b;split at b
 .rw [e] at b;rcases qim b with ⟨_,u⟩
  obtain ⟨rfl,rfl⟩:=u;refine ⟨λm g=>?_,λ_=>⟨_,_,_,rfl⟩⟩;simp only [V.nm,List.mem_singleton] at g;subst g;exact k
 .cases b
theorem z1f {w0:Wd} {done:List Done} {a:Dirt} {st:StV K} {fr:Fr} (h:Cm X sz B w0 done a st fr) {t:Nat} {p:PV K} {v:V} (d:st.tmps.get t=some p) (he:zcb p=true) (b:fr.tmp t=some v):∀ n ∈ v.nm,qt6 B done n (z5w a t):=by
 intro n c;unfold z5w;cases e:a.dirty.any (Nat.beq t) with
 | false=>exact h.calm t p v e d he b n c
 | true=>
  split
  .rename_i j f g;exact (h.fresh t j f v g b).1 n c
  .trivial
theorem q67 {st:StV K}:∀ {l:List Operand} {ps:List (PV K)},qhi (qo X tbl inv meas) C st l=some ps->∀ x ∈ l,∃ p,qbo (qo X tbl inv meas) C st x=some p
 | [],_,_,x,a=>by cases a
 | y::l,ps,h,x,a=>by
  simp only [qhi] at h;obtain ⟨q,b,c⟩:=zI.1 h;obtain ⟨e,d,_⟩:=zM.1 c;rcases zD.1 a with rfl | a
  .exact ⟨q,b⟩
  .exact q67 d x a
theorem zbp (ok:CfgOk X sz C) (ok2:CfgOk2 X C) {w w0:Wd} {done:List Done} {u:Dirt} {st:StV K} {fr:Fr} {H:Heap} (i:Cm X sz B w0 done u st fr) {g1:Nat->Option O}
  (j:∀ nm cs e gen a b ex,w0.g nm=some (.row cs e gen a b ex)->¬ w0.M nm->¬ ({w with g:=g1}:Wd).M nm/\∃ cs2 k m ex',({w with g:=g1}:Wd).g nm=some (.row (cs++cs2) e k a m ex'))
  (d:∀ nm,nm<B->g1 nm=w.g nm) {x:Operand} {p:PV K} {v:V} (f:quf (qo X tbl inv meas) C u st x=true) (J:qbo (qo X tbl inv meas) C st x=some p) (P:opd fr H x=some v) (r:Rep X sz w p v):Rep X sz {w with g:=g1} p v:=by
 unfold quf at f;rw [J] at f;cases p with
 | int=>cases r with | int h=>exact .int h
 | str=>cases r;exact .str
 | lit=>cases r;exact .lit
 | sb=>cases r with | sb A D E=>exact .sb A D E
 | nils=>cases r;exact .nils
 | list c l own=>
  simp only at f;split at f
  .rename_i t;have L:u.dirty.any (Nat.beq t)=false:=by simpa using f
   have n:st.tmps.get t=some (.list c l own):=J;have o:fr.tmp t=some v:=P;have Q:=(i.rep t c l own v L n o).zvt ok.len ok2.plain j .list;have F:=i.calm t _ v L n rfl o;have N:qpu w sz c own v->qpu {w with g:=g1} sz c own v:=by
    intro h;cases own with
    | none=>trivial
    | some y=>
     obtain ⟨A,D,E,R⟩:=h;refine ⟨A,D,λS=>?_,R⟩;have:=E S;cases v with
     | slice nm gn off len z cap=>
      simp only [za2] at this ⊢;rcases this with G | ⟨G,T,cs,e,a,b,ex,U,W⟩
      .exact .inl G
      .exact .inr ⟨G,T,cs,e,a,b,ex,by rw [d nm (F nm (by simp [V.nm]))];exact U,W⟩
     | _=>exact this
   cases Q with
   | nlist _=>
    cases r with
    | nlist h=>exact .nlist (N h)
   | list Y Z hM q hb hz s I _=>
    cases r with
    | list _ _ _ _ _ _ _ _ h=>exact .list Y Z hM q hb hz s I (N h)
  .cases f
 | _=>simp at f
theorem qug (ok:CfgOk X sz C) (ok2:CfgOk2 X C) {w w0:Wd} {done:List Done} {o:Dirt} {st:StV K} {fr:Fr} {H:Heap} (d:Cm X sz B w0 done o st fr) {g1:Nat->Option O}
  (c:∀ nm cs e gen a k ex,w0.g nm=some (.row cs e gen a k ex)->¬ w0.M nm->¬ ({w with g:=g1}:Wd).M nm/\∃ cs2 f h ex',({w with g:=g1}:Wd).g nm=some (.row (cs++cs2) e f a h ex'))
  (b:∀ nm,nm<B->g1 nm=w.g nm):∀ {l:List Operand} {ps:List (PV K)} {i:List V},l.all (quf (qo X tbl inv meas) C o st)=true->qhi (qo X tbl inv meas) C st l=some ps->qdm fr H l=some i->qu X sz w ps i->qu X sz {w with g:=g1} ps i
 | [],ps,i,_,j,m,r=>by
  simp only [qhi,zS] at j;subst j;rw [r.jb];exact .nil
 | x::l,ps,i,n,j,m,r=>by
  simp only [List.all_cons,zA] at n;simp only [qhi] at j;obtain ⟨p,s,t⟩:=zI.1 j;obtain ⟨u,y,rfl⟩:=zM.1 t;simp only [qdm] at m;obtain ⟨v,z,A⟩:=zI.1 m;obtain ⟨D,E,rfl⟩:=zM.1 A;obtain ⟨J,q,F,G,I⟩:=r.z7;cases F;exact .cons (zbp ok ok2 d c b n.1 s z G) (qug ok ok2 d c b n.2 y E I)
theorem qft {w0:Wd} {done:List Done} {a:Dirt} {st:StV K} {o:Oper} {p:PV K} {v:V} {i:Nat} (h:(match o.op with | .move _ | .indexAddr .. | .fieldAddr .. | .buildSlice ..=>false | _=>true)=true) :
  NewV X sz B w0 done (qj5 a st o.op) (qbn a st i o) p v:=by
 have c:qbn a st i o=none:=by
  unfold qbn;split
  .cases b:o.op<;>simp [b] at h<;>simp only [qkq]<;>cases Nat.blt _ st.n<;>rfl
  .rfl
 have d:qj5 a st o.op=false:=by
  cases b:o.op<;>simp [b] at h<;>rfl
 rw [c,d];exact .no
theorem q2m {st:StV K} {fr:Fr} {H:Heap} {o:Oper} {x:Operand} {v:V} (b:x ∈ o.op.operands.toList) (a:(qqf x).isEmpty=true) (c:opd fr H x=some v) (H0:Heap):opd {fr with tmps:=jj fr.tmps (o.looksAt all) .nil} H0 x=some v:=by
 have:opd {fr with tmps:=jj fr.tmps (o.looksAt all) .nil} H0 x=opd fr H x:=qg2 b (by intro g d;subst d;simp [qqf] at a);rw [this];exact c
theorem zn2 (ok:CfgOk X sz C) {i:Nat} {w0:Wd} {Z:List Done3} {done:List Done} {st:StV K} {fr:Fr} {H:Heap} {w:Wd} (m:Mid X sz C base B old i w0 Z done st fr H w) {dt:Dirt} {o:Oper} {l:List Oper} {Q:Ex->Fr->Heap->Prop}
  {k:PV K->StV K->Prop} {f:FP3} (hw:qek o all fr=some true) (ha:(Z.filter λd=>!(b.getD i 0).testBit d.i).all (λd=>qnm old d f)=true)
  (a1:∀ p a,k p a->∀ j,(look st.cells j).isSome=true->(look a.cells j).isSome=true)
  {t:TypeId} {m0 x y:Operand} (g:o.op=.mapUpdate t m0 x y∨o.op=.insert t m0 x y) (I:∃ d id,m0=.tmp d/\st.tmps.get d=some (.map id)/\(bif (qqf x).isEmpty&&(qqf y).isEmpty then some (FP3.write id) else none)=some f) {pm px py:PV K} (L:qbo (qo X tbl inv meas) C st m0=some pm) (a6:qbo (qo X tbl inv meas) C st x=some px) (a7:qbo (qo X tbl inv meas) C st y=some py) (h:qu0 (qo X tbl inv meas) C t pm px py st k)
  (next:∀ p a v J w' e,k p a->(a.tmps=st.tmps/\a.n=st.n)->(∀ d ∈ done,d ∈ e)->NewV X sz B w0 e (qj5 dt st o.op) (qbn dt st i o) p v->Le w w'->Mid X sz C base B old (i+1) w0 (⟨i,f,makes o.op⟩::Z) e (a.put o.dst p) (fr.put o.dst v) J w'->WpD C.E all b (i+1) l e (fr.put o.dst v) J Q):WpD C.E all b i (o::l) done fr H Q:=by
 have more:∀ (d:Done),∀ x ∈ done,x ∈ d::done:=λd x hx=>zG _ hx;have R:=m.R;obtain ⟨vm,em,rm⟩:=zc R L;obtain ⟨vx,ex,rx⟩:=zc R a6;obtain ⟨vy,ey,ry⟩:=zc R a7;obtain ⟨id,a,row,w',rfl,rfl,N,F,O,s,h4,e1,e2,R',G,a8,aa⟩:=qno ok R.h rm rx ry h;obtain ⟨d,aj,rfl,ab,I⟩:=I;have u:st.tmps.get d=some (.map id):=L;rw [ab] at u;cases u;obtain ⟨q,I⟩:=qim I;cases I;simp only [zA] at q;have P:qqf x=[]:=by simpa using q.1
 have S:qqf y=[]:=by simpa using q.2
 have z:Operand.tmp d ∈ o.op.operands.toList/\x ∈ o.op.operands.toList/\y ∈ o.op.operands.toList:=by rcases g with g | g<;>simp [g,Op.operands]
 have hd:d ∈ o.looksAt all:=by rcases g with g | g<;>simp [Oper.looksAt,g,Op.operands]
 have ad:fr.tmp d=some (.map (w.c id)):=em;have ae:∀ r,FP3.write id=FP3.write r->w.M (w.c r):=by
  intro r he;cases he;exact R.h.live s
 have af:qlw C.E o fr=.writes [w.c id]:=by
  rcases g with g | g<;>simp only [qlw,g,kv,Bool.not_true,zQ,q2g,ad,V.nm,P,S,zJ]
 have T:fpR B done H.next w (.write id) (.writes [w.c id]):=⟨rfl,O⟩
 have U:∀ id,w.cl id->id<w.n:=λid h=>by rw [R.h.n];exact (R.h.cl id h).1
 have A:=qrl (nm:=w.c id) m.D ha (.inl ⟨id,.inr rfl,λW=>m.lt id W O⟩);have Y:=qpc (H:=H) (l:=[w.c id]) (dels:=(zv b i done).flatMap Done.names) (List.mem_singleton.2 rfl) N A;have ag:(zx H (.writes [w.c id]) ((zv b i done).flatMap Done.names)).ro<=w.c id:=by
  show H.ro<=w.c id;rw [R.h.keeps.ro];exact zR R.h.rob.1 F
 refine qe4 (fp:=.writes [w.c id]) (out:=.skip) (v:=j8) (K:=(zx H (.writes [w.c id]) ((zv b i done).flatMap Done.names)).put (w.c id) row) hw af (by simp) (qjz R.h m.D m.wr ae T ha) ?_ (.inr ⟨rfl,rfl⟩) (zN _) ?_
 .refine aa o (.tmp d) x y _ _ g ?_ (q2m (st:=st) z.2.1 q.1 ex _) (q2m (st:=st) z.2.2 q.2 ey _) Y ag;simp only [opd,qd7 hd];exact em
 .have RJ:RelH X sz C base a (qcm H ((zx H (.writes [w.c id]) ((zv b i done).flatMap Done.names)).put (w.c id) row) (.writes [w.c id]) ((zv b i done).flatMap Done.names)) w':=by
   refine R'.congr (λn=>?_) ?_ ?_ ?_
   .rw [qit];have ah:((zx H (.writes [w.c id]) ((zv b i done).flatMap Done.names)).put (w.c id) row).next-H.next=0:=Nat.sub_self _
    rw [ah];simp only [List.range'_zero,zJ,List.mem_filter,List.mem_singleton];have ai:(Nat.blt (w.c id) H.next&&!((zv b i done).flatMap Done.names).any λm=>Nat.beq (w.c id) m)=true:=qtk N A;by_cases hn:n=w.c id
    .subst hn;rw [zT ⟨rfl,ai⟩,qa7,qa7]
    .rw [zF (λhh=>hn hh.1),qct hn]
   .rfl
   .rfl
   .rfl
  exact next _ _ j8 _ w' _ h4 ⟨e1,e2⟩ (more _) (qft (by rcases g with g | g<;>rw [g])) G (m.go ok e1 e2 RJ G .undef (zN _) ⟨zN _,zN _⟩ (λ_=>rfl) (T.mono G (λ_ h=>h) U) (a1 _ _ h4) (by intro r he;cases he;rw [a8];exact s))
theorem zzg (ok:CfgOk X sz C) (ok2:CfgOk2 X C) (tok:qke X sz C tbl) (bJ:qps X sz C inl) {i:Nat} {w0:Wd} {l3:List Done3} {done:List Done} {st:StV K} {fr:Fr} {H:Heap} {w:Wd} (m:Mid X sz C base B old i w0 l3 done st fr H w) {dt:Dirt} (aM:Cm X sz B w0 done dt st fr) {o:Oper} {l:List Oper} {Q:Ex->Fr->Heap->Prop}
  {k:PV K->StV K->Prop} {f:FP3} (hw:qek o all fr=some true) (L:fp3 (qo X tbl inv meas) C all b i o dt st=some f) (ha:(l3.filter λd=>!(b.getD i 0).testBit d.i).all (λd=>qnm old d f)=true)
  (ai:∀ p I,k p I->∀ j,(look st.cells j).isSome=true->(look I.cells j).isSome=true)
  (h:qdd (qo X tbl inv meas) C (ztw (qo X tbl inv meas) inl f) o st k)
  (next:∀ p I v J w' aj,k p I->(I.tmps=st.tmps/\I.n=st.n)->(∀ d ∈ done,d ∈ aj)->NewV X sz B w0 aj (qj5 dt st o.op) (qbn dt st i o) p v->Le w w'->Mid X sz C base B old (i+1) w0 (⟨i,f,makes o.op⟩::l3) aj (I.put o.dst p) (fr.put o.dst v) J w'->WpD C.E all b (i+1) l aj (fr.put o.dst v) J Q):WpD C.E all b i (o::l) done fr H Q:=by
 have more:∀ (d:Done),∀ x ∈ done,x ∈ d::done:=λd x hx=>zG _ hx;have R:=m.R;unfold fp3 at L;cases ht:kv C.E o.op with
 | false=>
  rw [ht] at L;cases L;have a8:qlw C.E o fr=.none:=by simp only [qlw,ht,Bool.not_false,zO]
  have aN:=qjz (fp:=.none) (lo:=H.next) (dels:=(zv b i done).flatMap Done.names) R.h m.D (f:=.none) m.wr (by simp) rfl ha;by_cases bK:∃ t,o.op=.move (.tmp t)
  .obtain ⟨t,G⟩:=bK;simp only [qdd,G] at h;obtain ⟨p,ak,hk⟩:=qe h;obtain ⟨v,ev,rv⟩:=zc R ak;have b7:fr.tmp t=some v:=ev;have U:st.tmps.get t=some p:=ak;have hd:t ∈ o.looksAt all:=by simp [Oper.looksAt,G,Op.operands]
   refine qe4 (fp:=.none) (K:=zx H .none ((zv b i done).flatMap Done.names)) (out:=.val v) (v:=v) hw a8 (by simp) aN ?_ (.inl rfl) (zN _) ?_
   .simp only [jk,G,opd,qd7 hd,b7,zH]
   .rw [ql1];refine next p st v H w _ hk ⟨rfl,rfl⟩ (more _) ⟨λS he=>?_,λc l' own S he=>?_,λj wh aT=>?_⟩ (.refl w) (m.go ok rfl rfl R.h (.refl w) rv (zN _) ⟨zN _,zN _⟩ (λ_=>rfl) rfl (λ_ h=>h) (by simp))
    .simp only [G,qj5,zA,Bool.not_eq_true'] at S;exact aM.calm t p v S.1 U he b7
    .simp only [G,qj5,zA,Bool.not_eq_true'] at S;subst he;exact aM.rep t c l' own v S.1 U b7
    .unfold qbn at aT;split at aT
     .rw [G] at aT;have F:=(qim aT).2;simp only [qkq] at F;obtain ⟨a1,a2⟩:=aM.fresh t j wh v F b7;exact ⟨λn A=>(a1 n A).more (more _),a2⟩
     .cases aT
  have bL:∀ t,o.op≠.move (.tmp t):=λt ht=>bK ⟨t,ht⟩;by_cases hp:qg4 o.op=true
  .have aU:=qvw ht (.inl hp);obtain ⟨p,I,v,w',F,N,h3,h4,h5,h6⟩:=q59 (fr':={fr with tmps:=jj fr.tmps (o.looksAt all) .nil}) (H':=zx H .none ((zv b i done).flatMap Done.names)) ok R hp (zk5 aU)
    (λs d x G=>by rw [G] at ht;simp [kv] at ht) h
   refine qe4 (fp:=.none) (K:=zx H .none _) hw a8 (by simp) aN h6 (.inl rfl) (zN _) ?_;rw [ql1];exact next p I v H w' _ F ⟨N.tmps,N.n⟩ (more _) (zn6 (J:=H) aM (more _) h5 hp bL (zk5 aU) h6) h4 (m.go ok N.tmps N.n h3 h4 h5 (zN _) ⟨zN _,zN _⟩ (λ_=>rfl) rfl (ai _ _ F) (by simp))
  by_cases A:qqv o.op=true
  .have aU:=qvw ht (.inr A);obtain ⟨p,I,v,row,w',F,N,h3,h4,h5,h6,h7⟩:=zck ok R A h;have a7:makes o.op=true:=by
    cases G:o.op<;>simp [qqv,G] at A<;>rfl
   refine qe4 (fp:=.none) (out:=.val v) (v:=v) (K:=(zx H .none ((zv b i done).flatMap Done.names)).new row) hw a8 (by simp) aN (h7 _ _ rfl (zk5 aU)) (.inl rfl) (by rw [za];exact Nat.le_succ _) ?_;rw [znq];refine next p I v _ w' _ F ⟨N,h3⟩ (more _) ?_ h5 (m.go ok N h3 h4 h5 h6 (by rw [za];exact Nat.le_succ _) ⟨by rw [za];exact Nat.le_succ _,by rw [za,za];exact zN _⟩ (λS=>by rw [a7] at S;cases S) rfl (ai _ _ F) (by simp))
   cases G:o.op with
   | buildSlice t' n' cc=>
    rw [<-G];exact zhk (fr':={fr with tmps:=jj fr.tmps (o.looksAt all) .nil}) G (h7 _ (zx H .none ((zv b i done).flatMap Done.names)) rfl (zk5 aU)) ⟨_,zC,rfl,zN _,by rw [za];exact Nat.lt_succ_self _⟩
   | _=>rw [<-G];exact qft (by first | (simp [qqv,G] at A;done) | (simp [G];done))
  exfalso;cases G:o.op with
  | load=>rw [G] at ht;simp [kv] at ht
  | store=>rw [G] at ht;simp [kv] at ht
  | lookup=>rw [G] at ht;simp [kv] at ht
  | mapUpdate=>rw [G] at ht;simp [kv] at ht
  | insert=>rw [G] at ht;simp [kv] at ht
  | next=>rw [G] at ht;simp [kv] at ht
  | call c=>
   rw [G] at ht;simp only [qdd,G] at h;obtain ⟨ps,aO,F⟩:=qe h;split at F
   .rename_i f S;simp [kv,S] at ht
   .rename_i bi S;simp only [kv,S] at ht;simp only [qg4,G,S] at hp;unfold qlt at F;split at F
    all_goals first
     | (simp at hp;done)
     | (simp at ht;done)
     | (exact absurd F id)
   .exact absurd F id
  | _=>first
   | (simp [qg4,G] at hp;done)
   | (simp [qqv,G] at A;done)
   | (simp only [qdd,G] at h;exact absurd h id)
 | true=>
  rw [ht] at L;simp only [Bool.not_true,zQ] at L;cases G:o.op with
  | load t x=>
   rw [G] at L;simp only [qdd,G] at h;obtain ⟨ti,al,F⟩:=qe h;obtain ⟨p,ak,N⟩:=qe F;obtain ⟨v,ev,rv⟩:=zc R ak;have a7:makes (.load t x)=false:=rfl;have run:∀ nm,v.nm=[nm]->qc4 fr [x]=[nm]->nm ∉ (zv b i done).flatMap Done.names->fpR B done H.next w f (.reads [nm])->(∀ id,f≠.write id)->(∀ H1:Heap,H1.zm=H.zm->H1.get nm=H.get nm->opd {fr with tmps:=jj fr.tmps (o.looksAt all) .nil} H1 x=some v)->WpD C.E all b i (o::l) done fr H Q:=by
    intro nm ad av P aw bM aF;have a8:qlw C.E o fr=.reads [nm]:=by
     simp only [qlw,G,Op.operands];exact congrArg FP.reads av
    obtain ⟨q,h3,b8,gn,off,lim,rfl,Y,hl,_⟩:=qqq ok R.h rv N;simp only [V.nm,List.cons.injEq,and_true] at ad;subst ad;have aJ:=qq9 (H:=H) (l:=[b8]) (dels:=(zv b i done).flatMap Done.names) (List.mem_singleton.2 rfl) Y P;obtain ⟨u,hu,ru⟩:=hl _ aJ;obtain ⟨w',aP,R',W,r'⟩:=qkp ok R.h ru;have ax:∀ id,w.cl id->id<w.n:=λid h=>by rw [R.h.n];exact (R.h.cl id h).1
    refine qe4 (fp:=.reads [b8]) (out:=.val u) (v:=u) (K:=zx H (.reads [b8]) ((zv b i done).flatMap Done.names)) hw a8 (by simp) (qjz R.h m.D m.wr (λid he=>absurd he (bM id)) aw ha) ?_ (.inl rfl) (zN _) ?_
    .simp only [jk,G,al,zB,aF (zx H (.reads [b8]) ((zv b i done).flatMap Done.names)) rfl aJ,hu,zH]
    .rw [qyh];exact next _ _ u H w' _ h3 ⟨aP.tmps,aP.n⟩ (more _) (qft (by rw [G])) W (m.go ok aP.tmps aP.n R' W r' (zN _) ⟨zN _,zN _⟩ (λ_=>rfl) (aw.mono W (λ_ h=>h) ax) (ai _ _ h3) (λid he=>absurd he (bM id)))
   obtain ⟨q,_,nm,gn,off,lim,hv,Y,_,aV⟩:=qqq ok R.h rv N;subst hv;cases x with
   | tmp d=>
    simp only at L;have hd:d ∈ o.looksAt all:=by simp [Oper.looksAt,G,Op.operands]
    have aF:∀ H1:Heap,H1.zm=H.zm->H1.get nm=H.get nm->opd {fr with tmps:=jj fr.tmps (o.looksAt all) .nil} H1 (.tmp d)=some (.ptr nm gn off lim):=by
     intro H1 _ _;simp only [opd,qd7 hd];exact ev
    have av:qc4 fr [.tmp d]=[nm]:=by
     have:fr.tmp d=some (.ptr nm gn off lim):=ev;simp only [qc4,List.flatMap_cons,List.flatMap_nil,q2g,this,V.nm,zJ]
    split at L
    .rename_i id o' l' hg;have U:st.tmps.get d=some p:=ak;rw [hg] at U;cases U;cases L;rcases aV with ⟨ay,he,ad,ct,hl⟩ | ⟨cs,o2,he,_⟩
     .have bq:ay=id:=by
       rcases he with ⟨_,_,he⟩ | ⟨_,_,_,_,he⟩
       .cases he;rfl
       .cases he
      subst bq;have S:=(R.h.cells _ ct hl).1;refine run nm rfl av (qrl m.D ha (.inl ⟨_,.inl rfl,λaz=>?_⟩)) ⟨by rw [ad],S⟩ (by simp) aF;rw [ad];exact m.lt _ az S
     .cases he
    .rename_i id c' i' n' o' hg;have U:st.tmps.get d=some p:=ak;rw [hg] at U;cases U;cases L;rcases aV with ⟨ay,he,ad,ct,hl⟩ | ⟨cs,o2,he,_⟩
     .have bq:ay=id:=by
       rcases he with ⟨_,_,he⟩ | ⟨_,_,_,_,he⟩
       .cases he
       .cases he;rfl
      subst bq;have S:=(R.h.cells _ ct hl).1;refine run nm rfl av (qrl m.D ha (.inl ⟨_,.inl rfl,λaz=>?_⟩)) ⟨by rw [ad],S⟩ (by simp) aF;rw [ad];exact m.lt _ az S
     .cases he
    .rename_i cW o' hg;have U:st.tmps.get d=some p:=ak;rw [hg] at U;cases U;cases L;cases rv with
     | eptr q1 q2 q3 q4 q5 q6=>
      have bf:=z1f aM hg rfl ev nm (by simp [V.nm]);have P:nm ∉ (zv b i done).flatMap Done.names:=qrl m.D ha (.inr (.inl ⟨_,rfl,_,List.mem_singleton.2 rfl,bf⟩));refine run nm rfl av P ⟨[nm],rfl,λn A=>?_⟩ (by simp) aF;rw [List.mem_singleton.1 A];exact ⟨⟨q3,_,_,_,_,_,_,q1⟩,_,List.mem_singleton.2 rfl,bf⟩
    .cases L
   | _=>simp at L
  | store t a x=>
   rw [G] at L;simp only [qdd,G] at h;obtain ⟨ti,al,F⟩:=qe h;obtain ⟨pa,bN,N⟩:=qe F;obtain ⟨px,aQ,h3⟩:=qe N;obtain ⟨va,ea,ra⟩:=zc R bN;obtain ⟨vx,ex,rx⟩:=zc R aQ;obtain ⟨I,id,gn,off,lim,H',w',h4,aW,rfl,Y,cX,aN,bs,bO,hs,e1,e2,_,R',W,cd,bg⟩:=qvu ok R.h ra rx h3;cases a with
   | tmp d=>
    simp only at L;have bt:st.tmps.get d=some pa:=bN;rw [bt] at L;have L:(bif (qqf x).isEmpty then some (FP3.write id) else none)=some f:=by
     rcases aW with ⟨_,_,rfl⟩ | ⟨_,_,_,_,rfl⟩
     .exact L
     .exact L
    cases bu:(qqf x).isEmpty with
    | false=>rw [bu] at L;cases L
    | true=>
     rw [bu] at L;simp only [zO,zS] at L;subst L;have cf:∀ ay,FP3.write id=FP3.write ay->w.M (w.c ay):=by
      intro ay he;cases he;exact R.h.live bg
     have bh:qqf x=[]:=by simpa using bu
     have hd:d ∈ o.looksAt all:=by simp [Oper.looksAt,G,Op.operands]
     have cg:fr.tmp d=some (.ptr (w.c id) gn off lim):=ea;have a8:qlw C.E o fr=.writes [w.c id]:=by
      have aG:=ht;rw [G] at aG;simp only [qlw,G,aG,Bool.not_true,zQ,q2g,cg,V.nm,bh,zJ]
     have aw:fpR B done H.next w (.write id) (.writes [w.c id]):=⟨rfl,aN⟩
     have ax:∀ id,w.cl id->id<w.n:=λid h=>by rw [R.h.n];exact (R.h.cl id h).1
     have P:=qrl (nm:=w.c id) m.D ha (.inl ⟨id,.inr rfl,λaz=>m.lt id az aN⟩);have aJ:=qpc (H:=H) (l:=[w.c id]) (dels:=(zv b i done).flatMap Done.names) (List.mem_singleton.2 rfl) Y P;have ch:(zx H (.writes [w.c id]) ((zv b i done).flatMap Done.names)).ro<=w.c id:=by
      show H.ro<=w.c id;rw [R.h.keeps.ro];exact zR R.h.rob.1 bs
     obtain ⟨row,b9,bP⟩:=bO _ aJ ch;have a7:makes (.store t (.tmp d) x)=false:=rfl;have cj:∀ H0,opd {fr with tmps:=jj fr.tmps (o.looksAt all) .nil} H0 x=some vx:=by
      intro H0;have:opd {fr with tmps:=jj fr.tmps (o.looksAt all) .nil} H0 x=opd fr H x:=qg2 (by simp [G,Op.operands]) (by intro g hg;subst hg;simp [qqf] at bh);rw [this];exact ex
     refine qe4 (fp:=.writes [w.c id]) (out:=.skip) (v:=j8) (K:=(zx H (.writes [w.c id]) ((zv b i done).flatMap Done.names)).put (w.c id) row) hw a8 (by simp) (qjz R.h m.D m.wr cf aw ha) ?_ (.inr ⟨rfl,rfl⟩) (zN _) ?_
     .have aF:opd {fr with tmps:=jj fr.tmps (o.looksAt all) .nil} (zx H (.writes [w.c id]) ((zv b i done).flatMap Done.names)) (.tmp d)=some (.ptr (w.c id) gn off lim):=by
       simp only [opd,qd7 hd];exact ea
      simp only [jk,G,al,zB,aF,cj,bP,zH]
     .have RJ:RelH X sz C base I (qcm H ((zx H (.writes [w.c id]) ((zv b i done).flatMap Done.names)).put (w.c id) row) (.writes [w.c id]) ((zv b i done).flatMap Done.names)) w':=by
       refine R'.congr (λn=>?_) ?_ ?_ ?_
       .rw [qit,b9];have Z:((zx H (.writes [w.c id]) ((zv b i done).flatMap Done.names)).put (w.c id) row).next-H.next=0:=Nat.sub_self _
        rw [Z];simp only [List.range'_zero,zJ,List.mem_filter,List.mem_singleton];have ck:(Nat.blt (w.c id) H.next&&!((zv b i done).flatMap Done.names).any λm=>Nat.beq (w.c id) m)=true:=qtk Y P;by_cases A:n=w.c id
        .subst A;rw [zT ⟨rfl,ck⟩,qa7,qa7]
        .rw [zF (λhh=>A hh.1),qct A]
       .rw [b9];rfl
       .rw [b9];rfl
       .rw [b9];rfl
      exact next _ _ j8 _ w' _ h4 ⟨e1,e2⟩ (more _) (qft (by rw [G])) W (m.go ok e1 e2 RJ W .undef (zN _) ⟨zN _,zN _⟩ (λ_=>rfl) (aw.mono W (λ_ h=>h) ax) (ai _ _ h4) (by intro ay he;cases he;rw [cd];exact bg))
   | _=>simp at L
  | mapUpdate t m0 x y=>
   rw [G] at L;simp only [qdd,G] at h;obtain ⟨pm,cn,F⟩:=qe h;obtain ⟨px,aQ,N⟩:=qe F;obtain ⟨py,cp,h3⟩:=qe N;exact zn2 ok m hw ha ai (.inl G) (by
    cases m0 with
    | tmp d=>
     simp only at L;split at L
     .rename_i id bt;exact ⟨d,id,rfl,bt,L⟩
     .cases L
    | _=>simp at L) cn aQ cp h3 next
  | call c=>
   rw [G] at L;simp only [qdd,G] at h;obtain ⟨ps,aO,F⟩:=qe h;obtain ⟨vs,ev,rv⟩:=qej R aO;have aG:=ht;rw [G] at aG;have aX:H.ro=base.ro:=R.h.keeps.ro;split at F
   .rename_i f' S;obtain ⟨pf,aW,N⟩:=qe F;obtain ⟨vf,ef,rf⟩:=zc R aW;simp only [S] at L;have a8:qlw C.E o fr=.call:=by
     simp only [qlw,G,aG,Bool.not_true,zQ,S]
    have bj:∀ (H1:Heap),(∀ n,H1.get n=H.get n)->H1.zm=H.zm->∀ x ∈ o.op.operands.toList,opd {fr with tmps:=jj fr.tmps (o.looksAt all) .nil} H1 x=opd fr H x:=by
     intro H1 aA cq x hx;cases x with
     | global g=>simp only [opd,aA,cq]
     | tmp t=>exact qg2 hx (by simp)
     | const v=>rfl
     | func f=>rfl
    have aB:∀ x ∈ c.args.toList,x ∈ o.op.operands.toList:=by
     intro x hx;simp only [G,Op.operands,Call.operands,Array.toList_append,List.mem_append];exact .inr hx
    have aY:f' ∈ o.op.operands.toList:=by
     simp only [G,Op.operands,Call.operands,Array.toList_append,List.mem_append,S];exact .inl (by simp)
    cases an:qw0 C.E all b i with
    | true=>
     rw [an] at L;simp only [zO,zS] at L;subst L;obtain ⟨g,us,cr,ae⟩:=qya ok ok2 tok bJ R.h rf rv N;have P:=qun m.D ha (.inl rfl);have hH:zx H .lone []=H:=by cases H;rfl
     refine ze6 (fp:=.lone) (t:=g) (args:=us) (K0:=H) hw a8 (by rw [an];rfl) (qjz (fp:=.lone) (lo:=H.next) R.h m.D (f:=.lone) m.wr (by simp) (.inl rfl) ha) ?_ ?_
     .rw [P,hH];have e1:qdm {fr with tmps:=jj fr.tmps (o.looksAt all) .nil} H c.args.toList=some vs:=by
       rw [qhj λx hx=>bj H (λ_=>rfl) rfl x (aB x hx)];exact ev
      have e2:=(bj H (λ_=>rfl) rfl f' aY).trans ef;simp only [jk,G,S,e1,e2,zB,cr,zH]
     .refine ae.mono λv H1 hA=>?_;obtain ⟨p,I,w',a1,a2,a3,a4,a5,a6⟩:=hA;have Z:H.next<=H1.next:=by have:=a5.nx;rw [R.h.nx,a4.nx] at this;exact this
      rw [P];have hJ:RelH X sz C base I (qcm H H1 .lone []) w':=by
       refine a4.congr (λn=>?_) rfl ?_ ?_
       .simp only [qcm,Heap.get,jj]
       .rw [a4.keeps.ro];exact aX
       .rw [a4.keeps.zm];exact R.h.keeps.zm
      exact ⟨Z,next p I v _ w' _ a1 ⟨a2,a3⟩ (more _) (qft (by rw [G])) a5 (m.go ok a2 a3 hJ a5 a6 Z ⟨Z,zN _⟩ (λa7=>by rw [G] at a7;simp [makes,S] at a7) (.inl rfl) (ai _ _ a1) (by simp))⟩
    | false=>
     rw [an] at L;simp only [zQ,aW,aO] at L;split at L
     .rename_i g first cap args bQ bR
      cases bQ;cases bR;obtain ⟨_,L⟩:=qim L;cases L;cases rf with
      | @func f2 a c2 va vc bS bT q1 q2=>
      generalize bw:(first.isEmpty&&cap.isEmpty&&c.args.toList.all (quf (qo X tbl inv meas) C dt st))=cb at *;let D:=(zv b i done).flatMap Done.names;let H1:Heap:=zx H .call D;have aA:∀ n,H1.get n=if n ∈ D then none else H.get n:=λn=>by
       simp only [H1,zx,Heap.get,qaj]
       split<;>rfl
      have ba:∀ n ∈ D,B<=n:=by
       intro n A;rcases Nat.lt_or_ge n B with F | F
       .exact absurd A (zdf m.D F)
       .exact F
      obtain ⟨st0,H0,R0,e0⟩:=m.z0;have cY:base.next<=B:=by have:=R0.keeps.next;omega
      have bk:∀ nm cs e gen ab aZ ex,w0.g nm=some (.row cs e gen ab aZ ex)->¬ w0.M nm->¬ ({w with g:=H1.get}:Wd).M nm/\∃ cs2 b1 b2 ex',({w with g:=H1.get}:Wd).g nm=some (.row (cs++cs2) e b1 ab b2 ex'):=by
       intro nm cs e gen ab aZ ex F N;obtain ⟨h3,cs2,b1,b2,ex',h4⟩:=m.z.mem nm cs e gen ab aZ ex F N;refine ⟨h3,cs2,b1,b2,ex',?_⟩;show H1.get nm=_;have Y:=m.lt0 F;rw [aA,zF (λhd=>by have:=ba nm hd;omega),<-R.h.g];exact h4
      have bz:Cut X sz C base H H1 w:=by
       refine ⟨λn x hx=>?_,λn A=>?_,rfl,rfl,zN _,λgn bU cu e' cZ da ex' F N h3=>?_⟩
       .rw [aA] at hx;split at hx
        .cases hx
        .exact hx
       .rw [aA,zF (λhd=>by have:=ba n hd;omega)]
       .obtain ⟨_,db,e2,dc,dd,de,bV,df,cw⟩:=R0.globs gn bU F;rw [N] at bV;cases bV;exact cw.zvt ok.len ok2.plain bk (.eptr (ok2.zm gn bU F))
      have bA:cb=false->D=[]:=by
       intro cx;rw [cx] at ha;exact qun m.D ha (.inr rfl)
      have bW:qu X sz {w with g:=H1.get} (first++ps++cap) (va++vs++vc):=by
       cases bl:cb with
       | false=>
        have cy:({w with g:=H1.get}:Wd)=w:=by
         have:H1.get=w.g:=by
          rw [R.h.g];funext n;rw [aA,bA bl,zF (by simp)]
         rw [this]
        rw [cy];exact qu.append (qu.append (ps:=first) ⟨bS,q1⟩ rv) ⟨bT,q2⟩
       | true=>
        rw [bl] at bw;simp only [zA,List.isEmpty_iff] at bw;obtain ⟨⟨rfl,rfl⟩,ah⟩:=bw;have cz:va=[]:=by cases va with | nil=>rfl | cons=>simp at bS
        have cA:vc=[]:=by cases vc with | nil=>rfl | cons=>simp at bT
        subst cz;subst cA;simp only [List.nil_append,zJ];exact qug ok ok2 aM bk (λnm Y=>by show H1.get nm=w.g nm;rw [aA,zF (λhd=>by have:=ba nm hd;omega),R.h.g]) ah aO ev rv
      have fin:(qdv C.E (.func g) (va++vs++vc) H1 λv H'=>∃ r w',Form r/\Answer X sz C H1 w.M r (qqj (qcr r.flat)) v H' w'/\k (qd8 st r).1 (qd8 st r).2)->WpD C.E all b i (o::l) done fr H Q:=by
       intro ae;refine ze6 (fp:=.call) (t:=.func g) (args:=va++vs++vc) (K0:=H1) hw a8 (by rw [an];rfl) (qjz (fp:=.call) (lo:=H.next) R.h m.D (f:=.call cb) m.wr (by simp) rfl ha) ?_ ?_
       .have bm:∀ x p,x ∈ o.op.operands.toList->qbo (qo X tbl inv meas) C st x=some p->opd {fr with tmps:=jj fr.tmps (o.looksAt all) .nil} H1 x=opd fr H x:=by
         intro x p hx aQ;cases x with
         | global gl=>
          simp only [qbo] at aQ;obtain ⟨gs,cB,_⟩:=zM.1 aQ;obtain ⟨_,_,_,_,_,_,_,Y,_⟩:=R.h.globs gl gs cB;have:H1.get gl=H.get gl:=by rw [aA,zF (λhd=>by have:=ba gl hd;omega)]
          simp only [opd,this];rfl
         | tmp t=>exact qg2 hx (by simp)
         | const v=>rfl
         | func f=>rfl
        have e1:qdm {fr with tmps:=jj fr.tmps (o.looksAt all) .nil} H1 c.args.toList=some vs:=by
         rw [qhj λx hx=>by obtain ⟨p,hp⟩:=q67 aO x hx;exact bm x p (aB x hx) hp];exact ev
        have e2:=(bm f' _ aY aW).trans ef;show jk C.E o _ H1=_;simp only [jk,G,S,e1,e2,zB,qht,zH]
       .refine ae.mono λv H2 hA=>?_;obtain ⟨r,w',af,a,hk⟩:=hA;have Z:H.next<=H2.next:=a.keeps.next
        have aH:∀ n,(qcm H H2 .call D).get n=if n ∈ List.range' H.next (H2.next-H.next) then H2.get n else H.get n:=λn=>q17
        obtain ⟨cC,e1,e2,R',W,r'⟩:=qp7 ok ok2 R.h af (H1:=H1) rfl a (J:=qcm H H2 .call D) (λn A=>by
          rw [aH,zF (λhh=>by have:=(List.mem_range'_1.1 hh).1;omega)]) (λn x hx=>by
          rw [aH];split
          .exact hx
          .rename_i A;by_cases Y:n<H.next
           .rw [a.keeps.old n Y] at hx;exact bz.sub n x hx
           .exfalso;have bB:H2.next<=n:=by
             rcases Nat.lt_or_ge n H2.next with F | F
             .exact absurd (List.mem_range'_1.2 ⟨by omega,by omega⟩) A
             .exact F
            rw [a.wf n bB] at hx;cases hx) (λn A=>by
          rw [aH];split
          .rfl
          .rename_i aP;have bB:H2.next<=n:=by
            rcases Nat.lt_or_ge n H2.next with F | F
            .exact absurd (List.mem_range'_1.2 ⟨by omega,by omega⟩) aP
            .exact F
           rw [R.h.wf n A,a.wf n bB]) rfl rfl rfl
        exact ⟨Z,next _ _ v _ cC _ hk ⟨e1,e2⟩ (more _) (qft (by rw [G])) W (m.go ok e1 e2 R' W r' Z ⟨Z,zN _⟩ (λa7=>by rw [G] at a7;simp [makes,S] at a7) rfl (ai _ _ hk) (by simp))⟩
      cases bC:fnP (qo X tbl inv meas) st g (first++ps++cap) with
      | none=>
       simp only [zbm,bC] at N;exact fin (zhx ok ok2 bJ R.h bz bW N)
      | some x=>
       obtain ⟨dg,r⟩:=x;simp only [zbm,bC] at N;cases hd:distinct (qcr r.flat) with
       | false=>rw [hd] at N;exact absurd N id
       | true=>
        rw [hd] at N;simp only [zO] at N;obtain ⟨bX,hk⟩:=N;obtain ⟨af,ae⟩:=q6c ok2 tok R.h bz bW bC bX;exact fin (ae.mono λv H' ⟨w',a⟩=>⟨r,w',af,a,hk⟩)
     .cases L
   .rename_i bi S;have cD:bi=.append:=by
     cases bi<;>first | rfl | (simp [S] at L;done)
    subst cD;simp only [S] at L;have bY:∃ x y,c.args.toList=[x,y]/\(qnn (qo X tbl inv meas) C st x || qnn (qo X tbl inv meas) C st y)=false:=by
     split at L
     .rename_i x y bD;cases aC:(qnn (qo X tbl inv meas) C st x || qnn (qo X tbl inv meas) C st y) with
      | true=>rw [aC] at L;cases L
      | false=>exact ⟨x,y,bD,aC⟩
     .cases L
    have cE:f=.lone:=by
     split at L
     .rename_i x y bD;obtain ⟨x',y',aD,aC⟩:=bY;rw [bD] at aD;cases aD;rw [aC] at L;simp only [zQ] at L;obtain ⟨_,N⟩:=qim L;cases N;rfl
     .cases L
    subst cE;have aB:∀ x ∈ c.args.toList,x ∈ o.op.operands.toList:=by
     intro x hx;simp only [G,Op.operands,Call.operands,Array.toList_append,List.mem_append];exact .inr hx
    have ad:∀ x (p:PV K) v,qbo (qo X tbl inv meas) C st x=some p->opd fr H x=some v->Rep X sz w p v->((∃ s,p=.str s)∨p=.nils∨∃ c l own,p=.list c l own)->q2g fr x=v.nm/\q9y fr x=some v:=by
     intro x p v F N h3 h4;cases x with
     | tmp t=>
      have aR:fr.tmp t=some v:=N;simp only [q2g,aR,q9y];exact ⟨trivial,trivial⟩
     | const cv=>
      have ak:(qsu 1000 cv).bind (q07 (qo X tbl inv meas))=some p:=F;obtain ⟨u,ao,aa⟩:=zI.1 ak;have aR:qsu 1000 cv=some v:=N;rw [ao] at aR;cases aR;refine ⟨?_,ao⟩;unfold q07 at aa;split at aa
      .rfl
      .rfl
      .cases bZ:qmb v with
       | false=>rw [bZ] at aa;cases aa
       | true=>cases v<;>simp [qmb] at bZ<;>rfl
     | global g=>
      simp only [qbo] at F;obtain ⟨q,_,rfl⟩:=zM.1 F;rcases h4 with ⟨_,h4⟩ | h4 | ⟨_,_,_,h4⟩<;>cases h4
     | func f=>
      simp only [qbo,zS] at F;subst F;rcases h4 with ⟨_,h4⟩ | h4 | ⟨_,_,_,h4⟩<;>cases h4
    have fin:∀ (a1 a2:Operand) (s x:PV K) (v1 v2:V) (t u:TypeId) (ti ui:TI) (e:TypeId) (ei:TI) (p:PV K) (I:StV K) (v:V) (H':Heap) (w':Wd),c.args.toList=[a1,a2]->qbo (qo X tbl inv meas) C st a1=some s->qbo (qo X tbl inv meas) C st a2=some x->
      opd fr H a1=some v1->opd fr H a2=some v2->Rep X sz w s v1->Rep X sz w x v2->((∃ s',s=.str s')∨s=.nils∨∃ c l own,s=.list c l own)->((∃ s',x=.str s')∨x=.nils∨∃ c l own,x=.list c l own)->
      c.argTypes.toList=[t,u]->C.E.types t=some ti->C.E.types u=some ui->ti.under=.slice e->((∃ e',ui.under=.slice e')∨ui.under=.string)->C.E.types e=some ei->
      qc7 H e ei.size ei.bytes v1 v2=some (v,H')->k p I->I.tmps=st.tmps->I.n=st.n->RelH X sz C base I H' w'->Le w w'->Rep X sz w' p v->WpD C.E all b i (o::l) done fr H Q:=by
     intro a1 a2 s x v1 v2 t u ti ui e ei p I v H' w' O o1 o2 e1 e2 r1 r2 k1 k2 aE al b3 ao aa aq bn hk g1 g2 R' W hr;obtain ⟨n1,y1⟩:=ad a1 s v1 o1 e1 r1 k1;obtain ⟨n2,y2⟩:=ad a2 x v2 o2 e2 r2 k2;have ar:qc4 fr c.args.toList=v1.nm++v2.nm:=by
      rw [O];simp only [qc4,List.flatMap_cons,List.flatMap_nil,zJ,n1,n2]
     have b4:∀ n ∈ v1.nm,n ∈ qc4 fr c.args.toList:=λn A=>by rw [ar];exact List.mem_append.2 (.inl A)
     have bo:∀ n ∈ v2.nm,n ∈ qc4 fr c.args.toList:=λn A=>by rw [ar];exact List.mem_append.2 (.inr A)
     have Y:∀ (q:PV K) v0,Rep X sz w q v0->((∃ s',q=.str s')∨q=.nils∨∃ c l own,q=.list c l own)->∀ n ∈ v0.nm,n<H.next:=by
      intro q v0 hq hk n A;rcases hk with ⟨s',rfl⟩ | rfl | ⟨c',l',own,rfl⟩
      .cases hq;simp [V.nm] at A
      .cases hq;simp [V.nm] at A
      .rcases qav hq with ⟨_,rfl⟩ | ⟨nm,gn,off,z,cap,cs,e',gen,ab,aZ,ex,rfl,hg,_⟩
       .simp [V.nm] at A
       .simp only [V.nm,List.mem_singleton] at A;subst A;exact R.h.lts hg
     have ah:∀ n ∈ qc4 fr c.args.toList,n<H.next:=by
      intro n A;rw [ar] at A;rcases List.mem_append.1 A with A | A
      .exact Y s v1 r1 k1 n A
      .exact Y x v2 r2 k2 n A
     have c0:∀ g,a1≠.global g:=by
      intro g hg;subst hg;simp only [qbo] at o1;obtain ⟨q,_,rfl⟩:=zM.1 o1;rcases k1 with ⟨_,h4⟩ | h4 | ⟨_,_,_,h4⟩<;>cases h4
     have c1:∀ g,a2≠.global g:=by
      intro g hg;subst hg;simp only [qbo] at o2;obtain ⟨q,_,rfl⟩:=zM.1 o2;rcases k2 with ⟨_,h4⟩ | h4 | ⟨_,_,_,h4⟩<;>cases h4
     have cF:∀ T,opd {fr with tmps:=jj fr.tmps (o.looksAt all) .nil} T a1=some v1:=λT=>(qg2 (aB a1 (by rw [O];simp)) c0).trans e1;have cG:∀ T,opd {fr with tmps:=jj fr.tmps (o.looksAt all) .nil} T a2=some v2:=λT=>(qg2 (aB a2 (by rw [O];simp)) c1).trans e2;have c3:∀ (T K1:Heap),qc7 T e ei.size ei.bytes v1 v2=some (v,K1)->jk C.E o {fr with tmps:=jj fr.tmps (o.looksAt all) .nil} T=some (.val v,K1):=by
      intro T K1 aS;have ea:qdm {fr with tmps:=jj fr.tmps (o.looksAt all) .nil} T c.args.toList=some [v1,v2]:=by
       rw [O];exact qw7 (cF T) (qw7 (cG T) zu2)
      rcases aa with ⟨e',aa⟩ | aa
      .simp only [jk,G,S,ea,zB,qar,aE,al,b3,ao,aa,aq,aS,zH]
      .simp only [jk,G,S,ea,zB,qar,aE,al,b3,ao,aa,aq,aS,zH]
     have Z:H.next<=H'.next:=by have:=W.nx;rw [R.h.nx,R'.nx] at this;exact this
     have ax:∀ id,w.cl id->id<w.n:=λid h=>by rw [R.h.n];exact (R.h.cl id h).1
     have bE:∃ m,v2.many=some m:=by
      rcases k2 with ⟨s',rfl⟩ | rfl | ⟨c',l',own,rfl⟩
      .cases r2;exact ⟨_,rfl⟩
      .cases r2;exact ⟨_,rfl⟩
      .rcases qav r2 with ⟨_,rfl⟩ | ⟨nm,gn,off,z,cap,cs,e',gen,ab,aZ,ex,rfl,_⟩
       .exact ⟨_,rfl⟩
       .exact ⟨_,rfl⟩
     obtain ⟨m2,c4⟩:=bE;have aK:quw fr c.args.toList=ztg m2 v1:=by
      rw [O];simp only [quw,y1,y2,zB,c4];cases v1 with
      | slice nm g off len z cap=>cases cap<;>rfl
      | _=>rfl
     cases bF:quw fr c.args.toList with
     | true=>
      have a8:qlw C.E o fr=.reads (qc4 fr c.args.toList):=by
       simp only [qlw,G,aG,Bool.not_true,zQ,S,bF,zO]
      have cH:∀ n ∈ qc4 fr c.args.toList,n ∉ (zv b i done).flatMap Done.names:=by
       intro n A;rw [qun m.D ha (.inl rfl)];simp
      have aw:fpR B done H.next w FP3.lone (.reads (qc4 fr c.args.toList)):=.inr ⟨_,.inr rfl,ah⟩
      have c5:∀ id,FP3.lone≠.write id:=by simp
      generalize hD:(zv b i done).flatMap Done.names=D at *;let T:=zx H (.reads (qc4 fr c.args.toList)) D;have hT:∀ n,n ∈ qc4 fr c.args.toList->T.get n=H.get n:=λn A=>qq9 A (ah n A) (cH n A);obtain ⟨K1,aS,ag⟩:=q8k (H:=H) (H1:=T) rfl (λn A=>by
       rcases A with A | A
       .exact hT n (b4 n A)
       .exact hT n (bo n A)) (by
       rw [bF] at aK;cases v1 with
       | nils=>exact .inl rfl
       | slice nm g off len z cap=>
        cases cap with
        | none=>simp [ztg] at aK
        | some c'=>exact .inr ⟨_,_,_,_,_,_,_,rfl,c4,aK.symm⟩
       | _=>simp [ztg] at aK) bn
      have au:K1.next=H'.next:=by
       rcases ag with ⟨rfl,rfl⟩ | ⟨row,rfl,rfl⟩
       .rfl
       .rw [za,za];rfl
      refine qe4 (fp:=.reads (qc4 fr c.args.toList)) (out:=.val v) (v:=v) (K:=K1) hw a8 (by simp) (by rw [hD];exact qjz (fp:=.reads (qc4 fr c.args.toList)) (lo:=H.next) R.h m.D m.wr (λid he=>absurd he (c5 id)) aw ha) ?_ (.inl rfl) (by rw [au];exact Z) ?_
      .rw [hD];exact c3 _ _ aS
      .rw [hD];have RJ:RelH X sz C base I (qcm H K1 (.reads (qc4 fr c.args.toList)) D) w':=by
        refine R'.congr (λn=>?_) au ?_ ?_
        .rw [qzb];rcases ag with ⟨rfl,rfl⟩ | ⟨row,rfl,rfl⟩
         .rw [zF];intro A;have:=List.mem_range'_1.1 A;have b5:T.next=H'.next:=rfl
          omega
         .have b5:(T.new row).next=H.next+1:=za
          split
          .rename_i A;have:=List.mem_range'_1.1 A;have:n=H.next:=by omega
           subst this;rw [qcp];exact qcp (H:=T)
          .rename_i A;by_cases N:n=H.next
           .exfalso;apply A;exact List.mem_range'_1.2 ⟨by omega,by omega⟩
           .obtain ⟨t0,cI,cJ,cK⟩:=H;simp only [Heap.new,Heap.get,Tree.jq];rw [zF N]
        .rw [R'.keeps.ro];exact aX
        .rw [R'.keeps.zm];exact R.h.keeps.zm
       exact next p I v _ w' _ hk ⟨g1,g2⟩ (more _) (qft (by rw [G])) W (m.go ok g1 g2 RJ W hr (by show H.next<=K1.next;rw [au];exact Z) ⟨by rw [au];exact Z,zN _⟩ (λa7=>by rw [G] at a7;simp [makes,S] at a7) (aw.mono W (λ_ h=>h) ax) (ai _ _ hk) (λid he=>absurd he (c5 id)))
     | false=>
      have a8:qlw C.E o fr=.writes (qc4 fr c.args.toList):=by
       simp only [qlw,G,aG,Bool.not_true,zQ,S,bF,zQ]
      have P:=qun m.D ha (.inl rfl);have aI:∀ n,n ∈ qc4 fr c.args.toList->n<H.next->(zx H (.writes (qc4 fr c.args.toList)) []).get n=H.get n:=λn F N=>qpc F N (by simp)
      let T:=zx H (.writes (qc4 fr c.args.toList)) [];obtain ⟨K1,aS,ag⟩:=q4p (H:=H) (H1:=T) rfl rfl (λn A=>by
       rcases A with A | A
       .exact aI n (b4 n A) (Y s v1 r1 k1 n A)
       .exact aI n (bo n A) (Y x v2 r2 k2 n A)) bn
      have au:K1.next=H'.next:=by
       rcases ag with ⟨rfl,rfl⟩ | ⟨row,rfl,rfl⟩ | ⟨nm,row,_,_,rfl,rfl⟩
       .rfl
       .rw [za,za];rfl
       .rfl
      refine qe4 (fp:=.writes (qc4 fr c.args.toList)) (out:=.val v) (v:=v) (K:=K1) hw a8 (by simp) (qjz (fp:=.writes (qc4 fr c.args.toList)) (lo:=H.next) R.h m.D (f:=.lone) m.wr (by simp) (.inr ⟨_,.inl rfl,ah⟩) ha) ?_ (.inl rfl) (by rw [au];exact Z) ?_
      .rw [P];exact c3 _ _ aS
      .rw [P];have RJ:RelH X sz C base I (qcm H K1 (.writes (qc4 fr c.args.toList)) []) w':=by
        refine R'.congr (λn=>?_) au ?_ ?_
        .rw [qit];have hT:∀ m,m ∈ (qc4 fr c.args.toList).filter (λn=>Nat.blt n H.next&&!([]:List Nat).any λm=>Nat.beq n m)->T.get m=H.get m:=by
          intro m hm;simp only [List.mem_filter,zA,Nat.blt_eq] at hm;exact aI m hm.1 hm.2.1
         rcases ag with ⟨rfl,rfl⟩ | ⟨row,rfl,rfl⟩ | ⟨nm,row,bp,dh,rfl,rfl⟩
         .split
          .rename_i A;rcases List.mem_append.1 A with A | A
           .exact hT n A
           .have:=List.mem_range'_1.1 A;have b5:T.next=H'.next:=rfl
            omega
          .rfl
         .have b5:(T.new row).next=H.next+1:=za
          split
          .rename_i A;rcases List.mem_append.1 A with A | A
           .have N:n<H.next:=by
             simp only [List.mem_filter,zA,Nat.blt_eq] at A;exact A.2.1
            rw [qec (H:=T) N,qec N];exact hT n A
           .have:=List.mem_range'_1.1 A;have:n=H.next:=by omega
            subst this;rw [qcp];exact qcp (H:=T)
          .rename_i A;by_cases N:n=H.next
           .exfalso;apply A;refine List.mem_append.2 (.inr (List.mem_range'_1.2 ⟨by omega,by omega⟩))
           .have:(H.new row).get n=H.get n:=by
             obtain ⟨t0,cI,cJ,cK⟩:=H;simp only [Heap.new,Heap.get,Tree.jq];rw [zF N]
            rw [this]
         .have c6:nm<H.next:=Y s v1 r1 k1 nm bp
          have b5:(T.put nm row).next-H.next=0:=Nat.sub_self _
          rw [b5];simp only [List.range'_zero,zJ];by_cases N:n=nm
          .subst N;rw [zT,qa7,qa7];simp only [List.mem_filter,zA,Nat.blt_eq];exact ⟨b4 n bp,c6,by simp⟩
          .rw [qct N,qct N];split
           .rename_i A;exact hT n A
           .rfl
        .rw [R'.keeps.ro];exact aX
        .rw [R'.keeps.zm];exact R.h.keeps.zm
       exact next p I v _ w' _ hk ⟨g1,g2⟩ (more _) (qft (by rw [G])) W (m.go ok g1 g2 RJ W hr (by show H.next<=K1.next;rw [au];exact Z) ⟨by rw [au];exact Z,zN _⟩ (λa7=>by rw [G] at a7;simp [makes,S] at a7) (.inr ⟨_,.inl rfl,ah⟩) (ai _ _ hk) (by simp))
    have cL:∀ (l:List Operand) s x,qhi (qo X tbl inv meas) C st l=some [s,x]->∃ a1 a2,l=[a1,a2]/\qbo (qo X tbl inv meas) C st a1=some s/\qbo (qo X tbl inv meas) C st a2=some x:=by
     intro l s x hl
     match l,hl with
     | [],hl=>simp [qhi] at hl
     | [a1],hl=>
      simp only [qhi,zH,zI] at hl;obtain ⟨q,_,hq⟩:=hl;simp at hq
     | a1::a2::a3::l,hl=>
      simp only [qhi] at hl;obtain ⟨q1,_,hq⟩:=zI.1 hl;obtain ⟨q2,bG,bb⟩:=zM.1 hq;obtain ⟨q4,_,bc⟩:=zI.1 bG;obtain ⟨q6,cM,cN⟩:=zM.1 bc;obtain ⟨q8,_,cO⟩:=zI.1 cM;obtain ⟨di,_,c7⟩:=zM.1 cO;subst c7;subst cN;simp at bb
     | [a1,a2],hl=>
      simp only [qhi] at hl;obtain ⟨q1,F,hq⟩:=zI.1 hl;obtain ⟨q2,bG,bb⟩:=zM.1 hq;obtain ⟨q4,h4,bc⟩:=zI.1 bG;simp only [zH,zS] at bc;subst bc;simp only [List.cons.injEq,and_true] at bb;obtain ⟨rfl,rfl⟩:=bb;exact ⟨a1,a2,rfl,F,h4⟩
    unfold qlt at F;split at F
    .contradiction
    .rename_i s x t u _ aE;obtain ⟨a1,a2,O,o1,o2⟩:=cL _ _ _ aO;have aC:qnn (qo X tbl inv meas) C st a1=false/\qnn (qo X tbl inv meas) C st a2=false:=by
      obtain ⟨x',y',aD,aC⟩:=bY;rw [O] at aD;cases aD;exact Bool.or_eq_false_iff.1 aC
     obtain ⟨v1,cu,rfl,r1,rr⟩:=rv.z7;obtain ⟨v2,cV,rfl,r2,r4⟩:=rr.z7;have:=r4.jb;subst this;have aL:opd fr H a1=some v1/\opd fr H a2=some v2:=by
      rw [O] at ev;simp only [qdm] at ev;obtain ⟨u1,cP,aR⟩:=zI.1 ev;obtain ⟨u2,cQ,c8⟩:=zM.1 aR;obtain ⟨u3,cR,c9⟩:=zI.1 cQ;simp only [zH,zS] at c9;subst c9;simp only [List.cons.injEq,and_true] at c8;obtain ⟨rfl,rfl⟩:=c8;exact ⟨cP,cR⟩
     have af:∀ (c':Nat) (q:PV K) l',asL (qo X tbl inv meas) c' q=some l'->((∃ s',q=.str s')∨q=.nils∨∃ c l own,q=.list c l own):=by
      intro c' q l' hq;unfold asL at hq;split at hq
      .exact .inr (.inl rfl)
      .exact .inr (.inr ⟨_,_,_,rfl⟩)
      .cases hq
     split at F
     .rename_i ti ui al b3;split at F
      .rename_i e e' ao aa;split at F
       .rename_i c' ei b6 aq;cases hb:(Nat.ble ei.bytes 1024&&!Nat.beq ei.size 0) with
        | false=>rw [hb] at F;exact absurd F id
        | true=>
         rw [hb] at F;simp only [zO] at F;simp only [zA,Nat.ble_eq] at hb;rw [zhb aC.2 o2] at F;simp only at F;split at F
         .rename_i l' hl;have rl:=qe5 r2 hl;have cS:=ok.size e c' ei b6 aq;obtain ⟨cT,bd,bH⟩:=qjr ok.len R.h.g rl (ok.pos e c' b6);rw [<-cS] at bd;obtain ⟨l0,_,_,_,bI,_⟩:=qp1 R.h F;obtain ⟨p,I,v,H',w',q1,q2,q3,q4,q5,q6,q7⟩:=qfv ok R.h b6 aq hb.1 r1 bd bH F;exact fin a1 a2 s x v1 v2 t u ti ui e ei p I v H' w' O o1 o2 aL.1 aL.2 r1 r2 (af _ _ _ bI) (af _ _ _ hl) aE al b3 ao (.inl ⟨_,aa⟩) aq q4 q1 q2 q3 q5 q6 q7
         .exact absurd F id
       .exact absurd F id
      .rename_i e ao aa;split at F
       .rename_i ei y b6 aq;cases hb:(Nat.ble ei.bytes 1024&&Nat.beq ei.size 1) with
        | false=>rw [hb] at F;exact absurd F id
        | true=>
         rw [hb] at F;simp only [zO] at F;simp only [zA,Nat.ble_eq] at hb;cases r2;have cU:=zE hb.2;obtain ⟨ca,bH⟩:=q7v (w:=w) ok y;have bd:js H ei.size (.str y)=some ((X.u8 ▸ y:List (K 0)).length,y.map λb=>V.int .u8 b.toNat):=by rw [cU,q1a,ca]
         obtain ⟨l0,_,_,_,bI,_⟩:=qp1 R.h F;obtain ⟨p,I,v,H',w',q1,q2,q3,q4,q5,q6,q7⟩:=qfv ok R.h b6 aq hb.1 r1 bd bH F;exact fin a1 a2 s (.str y) v1 (.str y) t u ti ui e ei p I v H' w' O o1 o2 aL.1 aL.2 r1 .str (af _ _ _ bI) (.inl ⟨_,rfl⟩) aE al b3 ao (.inr aa) aq q4 q1 q2 q3 q5 q6 q7
       .exact absurd F id
      .exact absurd F id
     .exact absurd F id
    .contradiction
    .contradiction
    .exact absurd F id
   .exact absurd F id
  | _=>rw [G] at L;simp at L
end
end Go.E3
/- E3: REGIONS that draw their order, as a whole; what a piece of code leaves alone. -/
namespace Go.E3
open Go Go.E2
variable {K:Nat->Type}
section
variable {X:Codecs K} {sz:Nat->Nat} {C:ZC K} {base:Heap}
variable {tbl:Tbl K} {inv:Nat->List (NV K)->Prop} {meas:Nat->List (NV K)->Nat} {inl:ZI K}
variable {all:Array Oper} {b:Array Nat} {B old:Nat}
theorem zku {α:Type}:∀ {l:List (Nat×α)} {j:Nat},(look l j).isSome=true->∃ a,(j,a) ∈ l
 | [],j,h=>by simp [look] at h
 | (i,a)::l,j,h=>by
  simp only [look,cond_eq_ite,Nat.beq_eq] at h;by_cases hi:i=j
  .subst hi;exact ⟨a,zC⟩
  .rw [zF hi] at h;obtain ⟨b,c⟩:=zku h;exact ⟨b,zG _ c⟩
theorem qpe (ok:CfgOk X sz C) (ok2:CfgOk2 X C) (tok:qke X sz C tbl) (u:qps X sz C inl):∀ {l:List Oper} {i:Nat} {w0:Wd} {A:List Done3} {done:List Done} {st:StV K} {fr:Fr} {H:Heap} {w:Wd} {F:Dirt} {k:StV K->Prop},
  Mid X sz C base B old i w0 A done st fr H w->Cm X sz B w0 done F st fr->q4c (qo X tbl inv meas) C inl all b old i l F A st k->
  WpD C.E all b i l done fr H λex fr' H'=>ex=.normal/\∃ g w',k g/\Rel X sz C base g fr' H' w'/\Le w w'
 | [],i,w0,A,done,st,fr,H,w,F,k,m,_,h=>zln ⟨rfl,st,w,h,m.R,.refl w⟩
 | o::l,i,w0,A,done,st,fr,H,w,F,k,m,cm,h=>by
  simp only [q4c] at h;cases r:qul o.op with
  | true=>rw [r] at h;exact absurd h id
  | false=>
   rw [r] at h;simp only [zQ] at h;obtain ⟨bw,q,hw,s,G,P,R1⟩:=qy3 m.R h;have I:Mid X sz C base B old i w0 A done q fr H w:=⟨m.R.step ok G.tmps G.n R1 (.refl w),m.D,m.hB,by rw [P];exact m.hold,m.lt,λd r id he=>by rw [G.cells];exact m.live d r id he,m.top,m.z,m.z0⟩;have y:Cm X sz B w0 done F q fr:=⟨λt p v r L=>by rw [G.tmps] at L;exact cm.calm t p v r L,λt c l' own v r L=>by rw [G.tmps] at L;exact cm.rep t c l' own v r L,cm.fresh⟩;cases bw with
   | true=>
    simp only [zO] at s;split at s
    .rename_i f hf;cases S:(A.filter λd=>!(b.getD i 0).testBit d.i).all (λd=>qnm old d f) with
     | false=>rw [S] at s;exact absurd s id
     | true=>
      rw [S] at s;simp only [zO] at s;have M:∀ {g:StV K} {Q:Prop},(bif q.cells.all (λx=>(look g.cells x.1).isSome) then Q else False)->q.cells.all (λx=>(look g.cells x.1).isSome)=true/\Q:=by
       intro g Q hq;cases hc:q.cells.all (λx=>(look g.cells x.1).isSome) with
       | false=>simp_all
       | true=>simp_all
      refine zzg ok ok2 tok u I y hw hf S (λp g T j hj=>?_) s λp g v J w' U T N V W Y m'=>?_
      .obtain ⟨a,Z⟩:=zku hj;exact List.all_eq_true.1 (M T).1 _ Z
      have a6:∀ x d,qbn F q i o=some x->o.dst=some d->Nat.blt d fr.n=true:=by
       intro x d h2 h3;unfold qbn at h2;rw [h3] at h2;rw [I.R.n];exact (qim h2).1
      have ih:=qpe ok ok2 tok u m' (y.put V N.1 (I.R.n.trans N.2.symm) a6 W) (M T).2;obtain ⟨x,hx,e,O,a7,a1,a2,a3⟩:=ih;exact ⟨x,hx,e,O,a7,a1,a2,Y.trans a3⟩
    .exact absurd s id
   | false=>
    refine zxg hw ?_;exact qpe ok ok2 tok u (I.go (f:=.none) (fp:=.none) (mk:=false) ok rfl rfl R1 (.refl w) .undef (zN _) ⟨zN _,zN _⟩ (λ_=>rfl) rfl (λ_ h=>h) (by simp)) (y.put (λd r=>zG _ r) rfl I.R.n (λx d hx=>by cases hx) .no) s
end
theorem q7f {fr:Fr} {dst:Option Tmp} {v:V} {t:Nat} (h:dst≠some t):(fr.put dst v).tmp t=fr.tmp t:=by
 cases dst with
 | none=>rfl
 | some d=>
  obtain ⟨b,n,c⟩:=fr;simp only [Fr.put];cases Nat.blt d n with
  | false=>rfl
  | true=>
   simp only [zO,Fr.tmp,Tree.jq];rw [zF];intro a;exact h (by rw [a])
theorem qvo {E:Env} {call:Go.E2.Call} {b:Bool} {all:Array Oper} {t:Nat}:∀ {l:List Oper} {fr fr':Fr} {H H':Heap} {ex:Ex},(∀ o ∈ l,o.dst≠some t)->qh8 E call b all l fr H=some (ex,fr',H')->fr'.tmp t=fr.tmp t
 | [],fr,fr',H,H',ex,_,h=>by
  simp only [qh8,zS,zP] at h;rw [h.2.1]
 | o::l,fr,fr',H,H',ex,a,h=>by
  have c:=a o zC;have d:∀ o ∈ l,o.dst≠some t:=λo e=>a o (zG _ e);simp only [qh8] at h;split at h
  .rw [qvo d h,q7f c]
  .simp only [zS,zP] at h;rw [h.2.1]
  .cases h
theorem qsh {E:Env} {call:Go.E2.Call} {all:Array Oper} {b:Array Nat} {t:Nat}:∀ {l:List Oper} {i:Nat} {done:List Done} {fr fr':Fr} {H H':Heap},(∀ o ∈ l,o.dst≠some t)->qdy E call all b i l done fr H=some (fr',H')->fr'.tmp t=fr.tmp t
 | [],i,done,fr,fr',H,H',_,h=>by
  simp only [qdy,zS,zP] at h;rw [h.1]
 | o::l,i,done,fr,fr',H,H',d,h=>by
  have e:=d o zC;have f:∀ o ∈ l,o.dst≠some t:=λo g=>d o (zG _ g);simp only [qdy] at h;obtain ⟨j,_,k⟩:=zI.1 h;rcases je k with ⟨_,a⟩ | ⟨_,a⟩
  .split at a
   .rcases je a with ⟨_,c⟩ | ⟨_,c⟩
    .rw [qsh f c,q7f e]
    .cases c
   .cases a
  .cases a
theorem qth {σ:Type} {step:σ->Option (Bool×σ)} {P:σ->Prop} (c:∀ s b a,P s->step s=some (b,a)->P a):∀ {n:Nat} {s a:σ},P s->iter step n s=some a->P a
 | 0,s,a,_,h=>by cases h
 | n+1,s,a,e,h=>by
  simp only [iter] at h;split at h
  .rename_i f d;exact qth c (c _ _ _ e d) h
  .rename_i f d;cases h;exact c _ _ _ e d
  .cases h
theorem qa6 {E:Env} {call:Go.E2.Call} {fn:FuncId} {round:Option Nat} {fuel t:Nat}:∀ {c:Code} {fr fr':Fr} {H H':Heap} {ex:Ex},t ∉ qho c->zn E call fn round fuel c fr H=some (ex,fr',H')->fr'.tmp t=fr.tmp t
 | .skip,fr,fr',H,H',ex,_,h=>by simp only [zn,zS,zP] at h;rw [h.2.1]
 | .label _,fr,fr',H,H',ex,_,h=>by simp only [zn,zS,zP] at h;rw [h.2.1]
 | .exit _,fr,fr',H,H',ex,_,h=>by simp only [zn,zS,zP] at h;rw [h.2.1]
 | .goto _,fr,fr',H,H',ex,_,h=>by simp only [zn,zS,zP] at h;rw [h.2.1]
 | .ret,fr,fr',H,H',ex,_,h=>by simp only [zn,zS,zP] at h;rw [h.2.1]
 | .refuse _,fr,fr',H,H',ex,_,h=>by simp [zn] at h
 | .seq a b,fr,fr',H,H',ex,d,h=>by
  simp only [qho,List.mem_append,not_or] at d;simp only [zn] at h;split at h
  .rename_i g H1 e;rw [qa6 d.2 h,qa6 d.1 e]
  .exact qa6 d.1 h
 | .cond c a b,fr,fr',H,H',ex,d,h=>by
  simp only [qho,List.mem_append,not_or] at d;simp only [zn] at h;split at h
  .exact qa6 d.1 h
  .exact qa6 d.2 h
  .cases h
 | .block id c,fr,fr',H,H',ex,d,h=>by
  simp only [qho] at d;simp only [zn] at h;split at h
  .rename_i q g H1 e;simp only [cond_eq_ite] at h;split at h
   .simp only [zS,zP] at h;rw [<-h.2.1,qa6 d e]
   .simp only [zS,zP] at h;rw [<-h.2.1,qa6 d e]
  .exact qa6 d h
 | .scope c,fr,fr',H,H',ex,d,h=>by
  simp only [qho] at d;simp only [zn] at h;split at h
  .cases h
  .exact qa6 d h
 | .loop c,fr,fr',H,H',ex,d,h=>by
  simp only [qho] at d;simp only [zn] at h;refine qth (P:=λs:Ex×Fr×Heap=>s.2.1.tmp t=fr.tmp t) (λs b w m i=>?_) (s:=(.normal,fr,H)) rfl h;split at i
  .rename_i g H1 e;simp only [zS,zP] at i;rw [<-i.2];show g.tmp t=_;rw [qa6 d e];exact m
  .rename_i r _ e;simp only [zS,zP] at i;rw [<-i.2];obtain ⟨x,n,g1⟩:=r;show n.tmp t=_;rw [qa6 d e];exact m
  .cases i
 | .region _ l j,fr,fr',H,H',ex,d,h=>by
  have p:∀ o ∈ l.toList,o.dst≠some t:=by
   intro o u v;exact d (by simp only [qho,List.mem_filterMap];exact ⟨o,u,v⟩)
  simp only [zn] at h;cases j with
  | true=>
   obtain ⟨⟨n,g1⟩,e,k⟩:=zM.1 h;simp only [zP] at k;rw [<-k.2.1];exact qsh p e
  | false=>
   exact qvo p h
 | .rangeFunc f ps a b,fr,fr',H,H',ex,d,h=>by
  obtain ⟨z,_,h⟩:=zI.1 h;split at h
  .simp only [cond_eq_ite] at h;split at h
   .split at h
    .obtain ⟨y,_,k⟩:=zM.1 h;simp only [zP] at k;rw [<-k.2.1];rfl
    .simp only [zS,zP] at h;rw [<-h.2.1];rfl
    .cases h
   .cases h
  .cases h
theorem zk8 {fr:Fr} {dst:Option Tmp} {v:V}:(fr.put dst v).n=fr.n:=by
 cases dst with
 | none=>rfl
 | some d=>
  obtain ⟨a,n,b⟩:=fr;simp only [Fr.put];cases Nat.blt d n<;>rfl
theorem zd6 {E:Env} {call:Go.E2.Call} {b:Bool} {all:Array Oper} {t:Nat}:∀ {l:List Oper} {fr fr':Fr} {H H':Heap} {ex:Ex},(∀ o ∈ l,o.dst≠some t)->qh8 E call b all l fr H=some (ex,fr',H')->fr'.n=fr.n
 | [],fr,fr',H,H',ex,_,h=>by
  simp only [qh8,zS,zP] at h;rw [h.2.1]
 | o::l,fr,fr',H,H',ex,a,h=>by
  have e:=a o zC;have c:∀ o ∈ l,o.dst≠some t:=λo d=>a o (zG _ d);simp only [qh8] at h;split at h
  .rw [zd6 c h,zk8]
  .simp only [zS,zP] at h;rw [h.2.1]
  .cases h
theorem q7o {E:Env} {call:Go.E2.Call} {all:Array Oper} {b:Array Nat} {t:Nat}:∀ {l:List Oper} {i:Nat} {done:List Done} {fr fr':Fr} {H H':Heap},(∀ o ∈ l,o.dst≠some t)->qdy E call all b i l done fr H=some (fr',H')->fr'.n=fr.n
 | [],i,done,fr,fr',H,H',_,h=>by
  simp only [qdy,zS,zP] at h;rw [h.1]
 | o::l,i,done,fr,fr',H,H',d,h=>by
  have k:=d o zC;have e:∀ o ∈ l,o.dst≠some t:=λo f=>d o (zG _ f);simp only [qdy] at h;obtain ⟨g,_,j⟩:=zI.1 h;rcases je j with ⟨_,a⟩ | ⟨_,a⟩
  .split at a
   .rcases je a with ⟨_,c⟩ | ⟨_,c⟩
    .rw [q7o e c,zk8]
    .cases c
   .cases a
  .cases a
theorem qeu {E:Env} {call:Go.E2.Call} {fn:FuncId} {round:Option Nat} {fuel t:Nat}:∀ {c:Code} {fr fr':Fr} {H H':Heap} {ex:Ex},t ∉ qho c->zn E call fn round fuel c fr H=some (ex,fr',H')->fr'.n=fr.n
 | .skip,fr,fr',H,H',ex,_,h=>by simp only [zn,zS,zP] at h;rw [h.2.1]
 | .label _,fr,fr',H,H',ex,_,h=>by simp only [zn,zS,zP] at h;rw [h.2.1]
 | .exit _,fr,fr',H,H',ex,_,h=>by simp only [zn,zS,zP] at h;rw [h.2.1]
 | .goto _,fr,fr',H,H',ex,_,h=>by simp only [zn,zS,zP] at h;rw [h.2.1]
 | .ret,fr,fr',H,H',ex,_,h=>by simp only [zn,zS,zP] at h;rw [h.2.1]
 | .refuse _,fr,fr',H,H',ex,_,h=>by simp [zn] at h
 | .seq a b,fr,fr',H,H',ex,d,h=>by
  simp only [qho,List.mem_append,not_or] at d;simp only [zn] at h;split at h
  .rename_i g H1 e;rw [qeu d.2 h,qeu d.1 e]
  .exact qeu d.1 h
 | .cond c a b,fr,fr',H,H',ex,d,h=>by
  simp only [qho,List.mem_append,not_or] at d;simp only [zn] at h;split at h
  .exact qeu d.1 h
  .exact qeu d.2 h
  .cases h
 | .block id c,fr,fr',H,H',ex,d,h=>by
  simp only [qho] at d;simp only [zn] at h;split at h
  .rename_i u g H1 e;simp only [cond_eq_ite] at h;split at h
   .simp only [zS,zP] at h;rw [<-h.2.1,qeu d e]
   .simp only [zS,zP] at h;rw [<-h.2.1,qeu d e]
  .exact qeu d h
 | .scope c,fr,fr',H,H',ex,d,h=>by
  simp only [qho] at d;simp only [zn] at h;split at h
  .cases h
  .exact qeu d h
 | .loop c,fr,fr',H,H',ex,d,h=>by
  simp only [qho] at d;simp only [zn] at h;refine qth (P:=λs:Ex×Fr×Heap=>s.2.1.n=fr.n) (λs b x m i=>?_) (s:=(.normal,fr,H)) rfl h;split at i
  .rename_i g H1 e;simp only [zS,zP] at i;rw [<-i.2];show g.n=_;rw [qeu d e];exact m
  .rename_i r _ e;simp only [zS,zP] at i;rw [<-i.2];obtain ⟨A,p,g1⟩:=r;show p.n=_;rw [qeu d e];exact m
  .cases i
 | .region _ l j,fr,fr',H,H',ex,d,h=>by
  have q:∀ o ∈ l.toList,o.dst≠some t:=by
   intro o v w;exact d (by simp only [qho,List.mem_filterMap];exact ⟨o,v,w⟩)
  simp only [zn] at h;cases j with
  | true=>
   obtain ⟨⟨p,g1⟩,e,k⟩:=zM.1 h;simp only [zP] at k;rw [<-k.2.1];exact q7o q e
  | false=>
   exact zd6 q h
 | .rangeFunc f ps a b,fr,fr',H,H',ex,d,h=>by
  obtain ⟨z,_,h⟩:=zI.1 h;split at h
  .simp only [cond_eq_ite] at h;split at h
   .split at h
    .obtain ⟨y,_,k⟩:=zM.1 h;simp only [zP] at k;rw [<-k.2.1]
    .grind
    .cases h
   .cases h
  .cases h
theorem q1g (l:List Nat):∃ t,t ∉ l:=by
 have b:∃ m,∀ x ∈ l,x<m:=by
  induction l with
  | nil=>simp_all
  | cons a l e=>
   obtain ⟨m,c⟩:=e;refine ⟨max m (a+1),λx d=>?_⟩;rcases zD.1 d with rfl | d
   .omega
   .grind
 obtain ⟨m,c⟩:=b;exact ⟨m,λh=>Nat.lt_irrefl _ (c m h)⟩
theorem Wp.frame {E:Env} {fn:FuncId} {round:Option Nat} {c:Code} {fr:Fr} {H:Heap} {Q:Ex->Fr->Heap->Prop} (h:Wp E fn round c fr H Q):Wp E fn round c fr H λex fr' H'=>Q ex fr' H'/\(∀ t,t ∉ qho c->fr'.tmp t=fr.tmp t)/\fr'.n=fr.n:=by
 obtain ⟨x,⟨a,b⟩,i⟩:=h;obtain ⟨e,f,g⟩:=x;refine ⟨(e,f,g),⟨a,b⟩,i,λt d=>qa6 d (b a (zN _)),?_⟩;obtain ⟨t,d⟩:=q1g (qho c);exact qeu d (b a (zN _))
end Go.E3
/- E3: WHAT VARIES, at the head of a loop and behind a cut. -/
namespace Go.E3
open Go Go.E2
variable {K:Nat->Type}
structure Part (X:Codecs K) (sz:Nat->Nat) (base:Heap) (st0:StV K) (w0:Wd) (st2:StV K) (H2:Heap) (w2:Wd) (st1:StV K) (w1:Wd) (pend:List Nat):Prop where
 g:w1.g=w2.g
 M:w1.M=w2.M
 ce:w1.ce=w2.ce
 nx:w1.nx=w2.nx
 c:w1.c=w2.c
 cl:∀ id,w1.cl id↔(w2.cl id/\id<st0.next)
 n:w1.n=st1.next
 le:Le w0 w1
 nxt:st0.next<=st1.next
 known:st1.known=st0.known
 owns:w1.owns=look st1.owns
 ownn:∀ i s,look st1.owns i=some s->i<st1.next
 eta:∀ i s nm,look st1.owns i=some s->w1.eta i=some nm->base.next<=nm/\nm<H2.next/\¬ w2.M nm
 einj:∀ i j s s' nm,look st1.owns i=some s->look st1.owns j=some s'->w1.eta i=some nm->w1.eta j=some nm->i=j
 pends:∀ i2 ∈ pend,(∃ s2,look st2.owns i2=some s2)/\∀ nm,w2.eta i2=some nm->∀ j s,look st1.owns j=some s->w1.eta j≠some nm
 pdist:pend.Nodup
section
variable {X:Codecs K} {sz:Nat->Nat} {C:ZC K} {base H0 H2:Heap} {st0 st2:StV K} {w0 w2:Wd}
variable {tbl:Tbl K} {inv:Nat->List (NV K)->Prop} {meas:Nat->List (NV K)->Nat}
theorem Part.move (ok2:CfgOk2 X C) {b:StV K} {w1:Wd} {a:List Nat} (m:Part X sz base st0 w0 st2 H2 w2 b w1 a) {p:PV K} {v:V} (r:Rep X sz w2 p v) (c:Plain p):Rep X sz w1 p v:=
 r.plain ok2.plain m.g (λ_ _ _ h=>by rw [m.M];exact h) c
theorem qem (ok:CfgOk X sz C) (ok2:CfgOk2 X C) (R2:RelH X sz C base st2 H2 w2):∀ {ks:List SK} {ps o:List (PV K)} {vs:List V} {ns:List (NV K)} {t:List Nat} {d:StV K} {w1:Wd} {G:List (PV K)->List (NV K)->StV K->Prop},
  qob (qo X tbl inv meas) st2 ks o=some ns->qu X sz w2 o vs->(∀ (i:Nat) (p:PV K),ks[i]? = some .keep->ps[i]? = some p->∀ w',Le w0 w'->w'.g=w2.g->w'.M=w2.M->Rep X sz w' p (vs.getD i j8))->(∀ (i id c:Nat) (fx:Bool) (n0:Int),ks[i]? = some .grow->ps[i]? = some (.mlist id c fx n0)->id<st0.next/\∃ n2,o[i]? = some (.mlist id c fx n2))->
  Part X sz base st0 w0 st2 H2 w2 d w1 (qba ks o++t)->qoq (qo X tbl inv meas) ks ps d G->
  ∃ S f w,G S ns f/\Part X sz base st0 w0 st2 H2 w2 f w t/\Le w1 w/\qu X sz w S vs/\f.tmps=d.tmps/\f.n=d.n/\f.cells=d.cells
 | [],[],o,vs,ns,t,d,w1,G,hN,hr,hK,hG,m,h=>by
  cases o with
  | nil=>
   simp only [qob,zS] at hN;subst hN;simp only [qoq] at h;have:=hr.jb;subst this;exact ⟨[],d,w1,h,m,.refl w1,.nil,rfl,rfl,rfl⟩
  | cons _ _=>simp [qob] at hN
 | [],_::_,o,vs,ns,t,d,w1,G,hN,hr,hK,hG,m,h=>absurd h id
 | _::_,[],o,vs,ns,t,d,w1,G,hN,hr,hK,hG,m,h=>absurd h id
 | k::ks,p::ps,[],vs,ns,t,d,w1,G,hN,hr,hK,hG,m,h=>by simp [qob] at hN
 | k::ks,p::ps,p2::o,vs,ns,t,d,w1,G,hN,hr,hK,hG,m,h=>by
  obtain ⟨v,aC,rfl,r1,r2⟩:=hr.z7;simp only [qob] at hN;obtain ⟨a,y,aD⟩:=zI.1 hN;obtain ⟨b7,I,aE⟩:=zM.1 aD;subst aE;have J:∀ (i:Nat) (p:PV K),ks[i]? = some .keep->ps[i]? = some p->∀ w',Le w0 w'->w'.g=w2.g->w'.M=w2.M->Rep X sz w' p (aC.getD i j8):=by
   intro i q P T w' h3 h4 h5;have:=hK (i+1) q (by simpa using P) (by simpa using T) w' h3 h4 h5;simpa using this
  have L:∀ (i id c:Nat) (fx:Bool) (n0:Int),ks[i]? = some .grow->ps[i]? = some (.mlist id c fx n0)->id<st0.next/\∃ n2,o[i]? = some (.mlist id c fx n2):=by
   intro i id c fx n0 P T;have:=hG (i+1) id c fx n0 (by simpa using P) (by simpa using T);simpa using this
  cases k with
  | grow=>
   simp only [qoq] at h;cases p with
   | mlist id c fx n0=>
    obtain ⟨aq,n2,ai⟩:=hG 0 id c fx n0 rfl rfl;cases ai;cases y;cases r1 with
    | mlist q1 q2 q3 q4 q5 q6 q7=>
     obtain ⟨S,f,w,g1,H,E,U,W,Y,Z⟩:=qem ok ok2 R2 I r2 J L m (h n2);have r:Rep X sz w1 (.mlist id c fx n2) (.slice (w1.c id) _ 0 (n2.toNat+1) 1 none):=.mlist (by rw [m.n];exact zL aq m.nxt) ((m.cl id).2 ⟨q2,aq⟩) q3 q4 (by rw [m.c,m.g];exact q5) q6 q7;rw [m.c] at r;exact ⟨_,f,w,g1,H,E,.cons (r.mono ok.len E) U,W,Y,Z⟩
   | _=>exact h.elim
  | int kd=>
   simp only [qoq] at h;cases p2 with
   | int k' l n=>
    simp only [qvv] at y;split at y
    .rename_i hk;subst hk;cases y;cases r1;have m':Part X sz base st0 w0 st2 H2 w2 d w1 (qba ks o++t):=m;obtain ⟨S,f,w,g1,H,E,U,W,Y,Z⟩:=qem ok ok2 R2 I r2 J L m' (h n);exact ⟨_,f,w,g1,H,E,.cons (.int λm hm=>by cases hm) U,W,Y,Z⟩
    .cases y
   | _=>simp [qvv] at y
  | str=>
   simp only [qoq] at h;cases p2 with
   | str s=>
    simp only [qvv,zS] at y;subst y;cases r1;obtain ⟨S,f,w,g1,H,E,U,W,Y,Z⟩:=qem ok ok2 R2 I r2 J L m (h s);exact ⟨_,f,w,g1,H,E,.cons .str U,W,Y,Z⟩
   | _=>simp [qvv] at y
  | keep=>
   simp only [qoq] at h;have ha:a=[]:=by
    cases p2<;>simp [qvv] at y<;>exact y
   subst ha;obtain ⟨S,f,w,g1,H,E,U,W,Y,Z⟩:=qem ok ok2 R2 I r2 J L m h;have hq:=hK 0 p rfl rfl w H.le H.g H.M;simp only [List.getD_cons_zero] at hq;exact ⟨_,f,w,g1,H,E,.cons hq U,W,Y,Z⟩
  | bool=>
   simp only [qoq] at h;have hb:∃ b,a=[.b b]/\v=.bool b:=by
    cases p2 with
    | lit b=>simp only [qvv,zS] at y;cases r1;exact ⟨b,y.symm,rfl⟩
    | sb id neg b pt pf=>simp only [qvv,zS] at y;cases r1;exact ⟨b,y.symm,rfl⟩
    | _=>simp [qvv] at y
   obtain ⟨b,rfl,rfl⟩:=hb;let w1b:Wd:={w1 with n:=d.next+1,nu:=λid=>if id=d.next then b else w1.nu id};have a1:Le w1 w1b:=Le.ext (by rw [m.n];exact Nat.le_succ _) (λid hi=>zF (by rw [m.n] at hi;omega));have m':Part X sz base st0 w0 st2 H2 w2 {d with next:=d.next+1} w1b (qba ks o++t):=
    ⟨m.g,m.M,m.ce,m.nx,m.c,m.cl,rfl,m.le.trans a1,Nat.le_succ_of_le m.nxt,m.known,m.owns,λi s h=>Nat.lt_succ_of_lt (m.ownn i s h),m.eta,m.einj,m.pends,m.pdist⟩
   obtain ⟨S,f,w,g1,H,E,U,W,Y,Z⟩:=qem ok ok2 R2 I r2 J L m' (h b);refine ⟨_,f,w,g1,H,a1.trans E,.cons ?_ U,W,Y,Z⟩;have:Rep X sz w1b (.sb d.next false b (b=true) (b=false)) (.bool b):=.sb .rfl .rfl λ_=>⟨Nat.lt_succ_self _,by show b=((if d.next=d.next then b else w1.nu d.next) != false);rw [zT rfl];simp⟩;exact this.mono ok.len E
  | list c own nb=>
   simp only [qoq] at h;have Q:∃ l,asL (qo X tbl inv meas) c p2=some l/\a=[.l c l]/\(own=true->qfh st2 p2=true)/\(nb=true->zuw p2=true):=by
    have e:qvv (qo X tbl inv meas) st2 (.list c own nb) p2=(bif (own&&!qfh st2 p2) || (nb&&!zuw p2) then none else (asL (qo X tbl inv meas) c p2).map λl=>[.l c l]):=by
     cases p2<;>rfl
    rw [e] at y;rcases je y with ⟨hb,T⟩ | ⟨_,T⟩
    .obtain ⟨l,Q,rfl⟩:=zM.1 T;simp only [Bool.or_eq_false_iff] at hb;refine ⟨l,Q,rfl,λho=>?_,λho=>?_⟩
     .have:=hb.1;rw [ho] at this;simpa using this
     .have:=hb.2;rw [ho] at this;simpa using this
    .cases T
   obtain ⟨l,Q,rfl,B,ar⟩:=Q;have rl:=qe5 r1 Q;cases own with
   | false=>
    have u:qba (.list c false nb::ks) (p2::o)=qba ks o:=by cases p2<;>rfl
    rw [u] at m;have h':qoq (qo X tbl inv meas) ks ps d λS ns aj=>G (.list c l none::S) (.l c l::ns) aj:=h l;obtain ⟨S,f,w,g1,H,E,U,W,Y,Z⟩:=qem ok ok2 R2 I r2 J L m h';exact ⟨_,f,w,g1,H,E,.cons ((m.move ok2 rl .list).mono ok.len E) U,W,Y,Z⟩
   | true=>
    have B:=B rfl;have h':qoq (qo X tbl inv meas) ks ps {d with owns:=(d.next,bif nb then 1 else 0)::d.owns,next:=d.next+1} λS ns aj=>G (.list c l (some (d.next,bif nb then 1 else 0))::S) (.l c l::ns) aj:=h l;generalize hq:(bif nb then 1 else 0:Nat)=q at h';have A:∃ e0:Option Nat,(p2=.nils/\e0=none/\qba (.list c true nb::ks) (p2::o)=qba ks o)∨(∃ l2 D s2,p2=.list c l2 (some (D,s2))/\e0=w2.eta D/\look st2.owns D=some s2/\qba (.list c true nb::ks) (p2::o)=D::qba ks o):=by
     cases p2 with
     | nils=>exact ⟨none,.inl ⟨rfl,rfl,rfl⟩⟩
     | list c2 l2 o2=>
      cases o2 with
      | none=>simp [qfh] at B
      | some x=>
       obtain ⟨D,s2⟩:=x;simp only [qfh] at B;split at B
       .rename_i s' hs;have:=zE B;subst this;unfold asL at Q;simp only at Q;split at Q
        .rename_i hc;subst hc;exact ⟨w2.eta D,.inr ⟨l2,D,_,rfl,rfl,hs,rfl⟩⟩
        .cases Q
       .cases B
     | _=>simp [qfh] at B
    obtain ⟨e0,A⟩:=A;let w1b:Wd:={w1 with n:=d.next+1,owns:=look ((d.next,q)::d.owns),eta:=λj=>if j=d.next then e0 else w1.eta j};have aF:look d.owns d.next=none:=by
     cases hq:look d.owns d.next with
     | none=>rfl
     | some s=>have:=m.ownn _ _ hq;omega
    have a1:Le w1 w1b:=by
     refine ⟨⟨by rw [m.n];exact Nat.le_succ _,λnm cs e gen ak au ex hg hM=>⟨hM,[],gen,au,ex,by rw [zJ];exact hg⟩,λ_ _=>rfl,λ_ _=>rfl,λi hi h0=>?_,λi s s' hi h0 P=>?_,λi s hi h0 P=>?_,rfl,λ_ _=>.rfl,zN _,rfl,λ_ _ h=>h,λ_ _=>rfl,qor λ_ _ _=>rfl⟩,λ_ h=>h,rfl⟩
     .rw [m.n] at hi;rw [m.owns] at h0;show look ((d.next,q)::d.owns) i=none;rw [qcb,zF (by omega)];exact h0
     .rw [m.n] at hi;rw [m.owns] at h0;have av:look ((d.next,q)::d.owns) i=some s':=P;rw [qcb,zF (by omega),h0] at av;cases av;exact zN _
     .rw [m.n] at hi;exact ⟨zF (by omega),λ_ _ _=>rfl⟩
    have N:∀ nm,e0=some nm->(∀ j s,look d.owns j=some s->w1.eta j≠some nm)/\base.next<=nm/\nm<H2.next/\¬ w2.M nm:=by
     intro nm F;rcases A with ⟨rfl,he,_⟩ | ⟨l2,D,s2,rfl,he,a6,u⟩
     .rw [he] at F;cases F
     .have:=m.pends D (by rw [u];exact List.mem_append_left _ zC);rw [he] at F;exact ⟨this.2 nm F,R2.eta D s2 nm a6 F⟩
    have m':Part X sz base st0 w0 st2 H2 w2 {d with owns:=(d.next,q)::d.owns,next:=d.next+1} w1b (qba ks o++t):=by
     have aw:∀ i,i ∈ qba ks o++t->i ∈ qba (.list c true nb::ks) (p2::o)++t:=by
      intro i hi;rcases A with ⟨_,_,u⟩ | ⟨l2,D,s2,_,_,_,u⟩
      .rw [u];exact hi
      .rw [u];exact zG _ hi
     have aG:(qba ks o++t).Nodup:=by
      have:=m.pdist;rcases A with ⟨_,_,u⟩ | ⟨l2,D,s2,_,_,_,u⟩
      .rw [u] at this;exact this
      .rw [u,List.cons_append,List.nodup_cons] at this;exact this.2
     refine ⟨m.g,m.M,m.ce,m.nx,m.c,m.cl,rfl,m.le.trans a1,Nat.le_succ_of_le m.nxt,m.known,rfl,λi s h=>?_,λi s nm h hn=>?_,λi j s s' nm P T e1 e2=>?_,λD ax=>?_,aG⟩
     .rw [qcb] at h;by_cases hi:i=d.next
      .subst hi;exact Nat.lt_succ_self _
      .rw [zF hi] at h;exact Nat.lt_succ_of_lt (m.ownn i s h)
     .rw [qcb] at h;by_cases hi:i=d.next
      .have al:e0=some nm:=by
        have:(if i=d.next then e0 else w1.eta i)=some nm:=hn;rw [zT hi] at this;exact this
       exact (N nm al).2
      .rw [zF hi] at h;have al:w1.eta i=some nm:=by
        have:(if i=d.next then e0 else w1.eta i)=some nm:=hn;rw [zF hi] at this;exact this
       exact m.eta i s nm h al
     .rw [qcb] at P T;have a7:(if i=d.next then e0 else w1.eta i)=some nm:=e1;have a8:(if j=d.next then e0 else w1.eta j)=some nm:=e2;by_cases hi:i=d.next<;>by_cases hj:j=d.next
      .omega
      .rw [zT hi] at a7;rw [zF hj] at a8 T;exact absurd a8 ((N nm a7).1 j s' T)
      .rw [zF hi] at a7 P;rw [zT hj] at a8;exact absurd a7 ((N nm a8).1 i s P)
      .rw [zF hi] at a7 P;rw [zF hj] at a8 T;exact m.einj i j s s' nm P T a7 a8
     .obtain ⟨⟨s2,a6⟩,hp⟩:=m.pends D (aw D ax);refine ⟨⟨s2,a6⟩,λnm F j s hj he=>?_⟩;rw [qcb] at hj;have O:(if j=d.next then e0 else w1.eta j)=some nm:=he;by_cases ay:j=d.next
      .rw [zT ay] at O;rcases A with ⟨ai,aa,_⟩ | ⟨l2,i3,s3,ai,aa,aH,u⟩
       .rw [aa] at O;cases O
       .rw [aa] at O;have:=R2.einj D i3 s2 s3 nm a6 aH F O;subst this;have hd:=m.pdist;rw [u,List.cons_append,List.nodup_cons] at hd;exact hd.1 ax
      .rw [zF ay] at O hj;exact hp nm F j s hj O
    obtain ⟨S,f,w,g1,H,E,U,W,Y,Z⟩:=qem ok ok2 R2 I r2 J L m' h';refine ⟨_,f,w,g1,H,a1.trans E,.cons (Rep.mono ok.len E ?_) U,W,Y,Z⟩;have ah:∀ ab,w1b.owns d.next=some ab->q<=ab:=by
     intro ab aI;have:look ((d.next,q)::d.owns) d.next=some ab:=aI
     rw [qcb,zT rfl] at this;cases this;exact zN _
    have aJ:q % 2=1->∀ v0,Rep X sz w2 p2 v0->NB v0:=by
     intro P v0 r0;have aK:nb=true:=by
      cases nb with
      | true=>rfl
      | false=>simp at hq;subst hq;cases P
     have ho:=ar aK;unfold zuw at ho;split at ho
     .cases r0;trivial
     .have hs:=zE ho;cases r0 with
      | nlist hh=>exact hh.2.2.2 hs
      | list _ _ _ _ _ _ _ _ hh=>exact hh.2.2.2 hs
     .cases ho
    rcases qav rl with ⟨rfl,rfl⟩ | ⟨nm,gn,off,z,cap,cs,e,gen,ak,au,ex,rfl,hg,hf,hM,aW,hz,aX,aL,_⟩
    .exact .nlist ⟨Nat.lt_succ_self _,ah,λ_=>trivial,λ_=>trivial⟩
    .have ad:=m.move ok2 rl .list;rcases qav ad with ⟨_,hh⟩ | ⟨b8,b9,aY,z',aZ,ba,e',b1,aA,b2,ex',hh,aM,aN,aO,an,bb,ae,af,_⟩
     .cases hh
     .cases hh;refine .list aM aN aO rfl an hz ae (λi hi j p hp=>(af i hi j p hp).mono ok.len a1) ⟨Nat.lt_succ_self _,ah,λ_=>?_,λh=>aJ h _ r1⟩;rcases A with ⟨rfl,_⟩ | ⟨l2,D,s2,rfl,aa,a6,_⟩
      .cases r1
      .have aP:l2=l:=by
        unfold asL at Q;simp only at Q;split at Q
        .cases Q;rfl
        .cases Q
       subst aP;have R:za2 w2 sz D c (.slice nm gn off l2.length z cap):=by
        rcases qav r1 with ⟨_,hh⟩ | ⟨bc,bd,b3,z3,b4,bf,e3,b5,aB,b6,bg,hh,_,_,_,_,_,_,_,aQ⟩
        .cases hh
        .rw [hh];exact aQ.2.2.1 (by rw [R2.owns];exact a6)
       simp only [za2] at R ⊢;rcases R with hc | ⟨aR,aS,aT,e4,ag,az,aU,aV,ao⟩
       .exact .inl hc
       .refine .inr ⟨aR,?_,aT,e4,ag,az,aU,by show w1.g nm=_;rw [m.g];exact aV,ao.1,ao.2.1,by show w1.ce e4=_;rw [m.ce];exact ao.2.2⟩;show (if d.next=d.next then e0 else w1.eta d.next)=some nm;rw [zT rfl,aa];exact aS
end
end Go.E3
/- E3: THE HEAD of a loop, and what stands behind a cut. -/
namespace Go.E3
open Go Go.E2
variable {K:Nat->Type}
theorem q1q {α:Type}:∀ {l:List Nat} {t:Tree α} {n:Nat},(qwi l t).get n=if n ∈ l then none else t.get n
 | [],t,n=>by simp [qwi]
 | m::l,t,n=>by
  simp only [qwi];rw [q1q,Tree.quu];by_cases a:n ∈ l
  .simp [a]
  .by_cases b:n=m
   .subst b;simp [a]
   .simp [a,b]
theorem qoy {α:Type}:∀ {a:List Nat} {l:List (Nat×α)} {j:Nat},look (a.foldl qck l) j=if j ∈ a then none else look l j
 | [],l,j=>by simp
 | i::a,l,j=>by
  simp only [List.foldl_cons];rw [qoy,qfs];by_cases b:j ∈ a
  .simp [b]
  .by_cases c:j=i
   .subst c;simp [b]
   .simp [b,c]
theorem qez {α:Type}:∀ {l:List (Nat×α)} {n:Nat} {a:α},look l n=some a->(n,a) ∈ l
 | [],_,_,h=>by cases h
 | (i,b)::l,n,a,h=>by
  simp only [look,cond_eq_ite,Nat.beq_eq] at h;split at h
  .rename_i hi;subst hi;cases h;exact zC
  .exact zG _ (qez h)
theorem qhu:∀ {l:List Nat},distinct l=true->l.Nodup
 | [],_=>List.nodup_nil
 | i::l,h=>by
  simp only [distinct,zA,Bool.not_eq_true'] at h;rw [List.nodup_cons];refine ⟨λa=>?_,qhu h.2⟩;have:=h.1;rw [<-Bool.not_eq_true,List.any_eq_true] at this;exact this ⟨i,a,Nat.beq_refl i⟩
section
variable {X:Codecs K} {sz:Nat->Nat} {C:ZC K} {base H0 H2:Heap} {st0 st2:StV K} {w0 w1 w2:Wd} {fr0 fr2:Fr}
variable {tbl:Tbl K} {inv:Nat->List (NV K)->Prop} {meas:Nat->List (NV K)->Nat}
theorem Rep.zw1 {w:Wd} {c:Nat} {l:List (K c)} {own:Option (Nat×Nat)} {v:V} (r:Rep X sz w (.list c l own) v):Rep X sz w (.list c l none) v/\qpu w sz c own v:=by
 cases r with
 | nlist d=>exact ⟨.nlist trivial,d⟩
 | list e f g a h i b j d=>exact ⟨.list e f g a h i b j trivial,d⟩
theorem Rep.qme {w:Wd} {c:Nat} {l:List (K c)} {own:Option (Nat×Nat)} {v:V} (r:Rep X sz w (.list c l none) v) (h:qpu w sz c own v):Rep X sz w (.list c l own) v:=by
 cases r with
 | nlist d=>exact .nlist h
 | list e f g a i j b k d=>exact .list e f g a i j b k h
theorem q15 {st:StV K} {w:Wd} (a:∀ i,w.owns i=look st.owns i) {c:Nat} {l:List (K c)} {i s:Nat} (h:qfh st (.list c l (some (i,s)):PV K)=true):w.owns i=some s:=by
 rw [a];simp only [qfh] at h;split at h
 .simp_all
 .cases h
theorem q96 (ok2:CfgOk2 X C) (hle:Le w0 w1) (d:Le w0 w2) {c:Nat} {l A:List (K c)} {i s:Nat} {v0 v:V} (u:w2.owns i=some s) (w:w1.g=w2.g) (B:w1.M=w2.M) (D:Rep X sz w0 (.list c A (some (i,s))) v0) (E:Rep X sz w2 (.list c l (some (i,s))) v) :
  Rep X sz w1 (.list c l (some (i,s))) v:=by
 obtain ⟨p,x⟩:=E.zw1;obtain ⟨_,f⟩:=D.zw1;refine (p.plain ok2.plain w (λ_ _ _ F=>by rw [B];exact F) .list).qme ⟨zL f.1 hle.n,(qpu.mono hle f).2.1,λm=>?_,x.2.2.2⟩;have o:=x.2.2.1 u;have j:w0.owns i=some s:=by
  cases j:w0.owns i with
  | none=>rw [hle.o1 i f.1 j] at m;cases m
  | some y=>
   have a:=f.2.1 y j;have b:=hle.o2 i y s f.1 j m;rw [Nat.le_antisymm b a]
 obtain ⟨G,_⟩:=hle.o3 i s f.1 j m;obtain ⟨H,_⟩:=d.o3 i s f.1 j u;have I:w1.ce=w2.ce:=hle.ce.trans d.ce.symm;cases v with
 | nils=>trivial
 | slice nm gn off len z cap=>
  rcases o with o | ⟨k,J,cs,e,h,q,ex,r,t⟩
  .exact .inl o
  .exact .inr ⟨k,by rw [G,<-H];exact J,cs,e,h,q,ex,by rw [w];exact r,t.1,t.2.1,by rw [I];exact t.2.2⟩
 | _=>exact o
mutual
theorem qyu (J:∀ c x,(X.cells c x).length=sz c) (ok2:CfgOk2 X C) (hle:Le w0 w1) (w:Le w0 w2) (z:∀ i,w2.owns i=look st2.owns i) (L:∀ id,id<w0.n->w1.c id=w2.c id) (G:w1.g=w2.g) (H:w1.M=w2.M):∀ (p p2:PV K) {d:List Prop} {r v:V},
  qb4 (qo X tbl inv meas) st2 p p2=some d->(∀ q ∈ d,q)->Rep X sz w0 p r->Rep X sz w2 p2 v->Rep X sz w1 p v
 | .int k l a,p2,d,r,v,h,j,m,e=>by
  cases p2 with
  | int k' D b=>
   simp only [qb4] at h;split at h
   .rename_i N;subst N;have:a=b:=by
     rcases E:q98 l D with _ | _
     .rw [E] at h;cases h;exact j _ zC
     .unfold q98 at E;split at E
      .rename_i x y;have O:x=y:=of_decide_eq_true E;cases m with | int h0=>cases e with | int A=>
       rw [<-h0 x rfl,<-A y rfl,O]
      .cases E
    subst this;cases e;cases m with | int u=>exact .int u
   .cases h
  | _=>simp [qb4] at h
 | .lit a,p2,d,r,v,h,j,m,e=>by
  cases p2 with
  | lit b=>
   simp only [qb4] at h;split at h
   .rename_i N;subst N;cases e;exact .lit
   .cases h
  | _=>simp [qb4] at h
 | .sb id neg a pt pf,p2,d,r,v,h,j,m,e=>by
  cases p2 with
  | sb a1 Z b a6 a7=>
   simp only [qb4,zS] at h;subst h;have:a=b:=j _ zC;subst this;cases e;have:=m.mono J hle;cases m;exact this
  | _=>simp [qb4] at h
 | .str a,p2,d,r,v,h,j,m,e=>by
  cases p2 with
  | str b=>
   simp only [qb4,zS] at h;subst h;have:a=b:=j _ zC;subst this;cases e;exact .str
  | _=>simp [qb4] at h
 | .list c l o,p2,d,r,v,h,j,m,e=>by
  cases o with
  | some x=>
   obtain ⟨i,s⟩:=x;cases p2 with
   | list P D I=>
    cases I with
    | none=>simp [qb4] at h
    | some y=>
     obtain ⟨i',s'⟩:=y;simp only [qb4] at h;rcases je h with ⟨_,u⟩ | ⟨u,A⟩
     .cases u
     .simp only [zA] at u;obtain ⟨⟨F,Q⟩,R⟩:=u;have:=zE F;subst this;have:=zE Q;subst this;split at A
      .rename_i B;subst B;cases A;have:l=D:=j _ zC;subst this;exact q96 ok2 hle w (q15 z R) G H m e
      .cases A
   | _=>simp [qb4] at h
  | none=>
   cases p2 with
   | list P D I=>
    cases I with
    | some x=>simp [qb4] at h
    | none=>
     simp only [qb4] at h;split at h
     .rename_i B;subst B;cases h;have:l=D:=j _ zC;subst this;exact e.plain ok2.plain G (λ_ _ _ hm=>by rw [H];exact hm) .list
     .cases h
   | _=>simp [qb4] at h
 | .nils,p2,d,r,v,h,j,m,e=>by
  cases p2 with
  | nils=>cases e;exact .nils
  | _=>simp [qb4] at h
 | .cell i o l,p2,d,r,v,h,j,m,e=>by
  cases p2 with
  | cell i' I D=>
   simp only [qb4] at h;rcases je h with ⟨_,u⟩ | ⟨u,_⟩
   .cases u
   .simp only [zA] at u;have F:=zE u.1.1;have Q:=zE u.1.2;have R:=zE u.2;subst F;subst Q;subst R;cases m with
    | cell hi=>
     cases e with
     | cell a8=>
      rw [<-L i hi];exact .cell (zL hi hle.n)
  | _=>simp [qb4] at h
 | .eptr cs o,p2,d,r,v,h,j,m,e=>by cases p2<;>simp [qb4] at h
 | .mlist i c fx n,p2,d,r,v,h,j,m,e=>by cases p2<;>simp [qb4] at h
 | .nilp,p2,d,r,v,h,j,m,e=>by cases p2<;>simp [qb4] at h
 | .func f a c,p2,d,r,v,h,j,m,e=>by
  cases p2 with
  | func f' a' P=>
   simp only [qb4] at h;rcases je h with ⟨_,u⟩ | ⟨u,A⟩
   .cases u
   .have F:=zE u;subst F;obtain ⟨x,S,T⟩:=zI.1 A;obtain ⟨y,U,W⟩:=zM.1 T;subst W;cases m with
    | @func _ _ _ va vc q1 q2 q3 q4=>
     cases e with
     | @func _ _ _ aa ab p1 p2 p3 p4=>
      have g1:=qld J ok2 hle w z L G H a a' S (λq Y=>j q (List.mem_append_left _ Y)) ⟨q1,q3⟩ ⟨p1,p3⟩;have g2:=qld J ok2 hle w z L G H c P U (λq Y=>j q (List.mem_append_right _ Y)) ⟨q2,q4⟩ ⟨p2,p4⟩;exact .func g1.1 g2.1 g1.2 g2.2
  | _=>simp [qb4] at h
 | .nilf,p2,d,r,v,h,j,m,e=>by cases p2<;>simp [qb4] at h
 | .yield i,p2,d,r,v,h,j,m,e=>by cases p2<;>simp [qb4] at h
 | .map i,p2,d,r,v,h,j,m,e=>by cases p2<;>simp [qb4] at h
 | .iface t q,p2,d,r,v,h,j,m,e=>by cases p2<;>simp [qb4] at h
 | .nili,p2,d,r,v,h,j,m,e=>by cases p2<;>simp [qb4] at h
 | .agg cs,p2,d,r,v,h,j,m,e=>by cases p2<;>simp [qb4] at h
 | .tuple cs,p2,d,r,v,h,j,m,e=>by cases p2<;>simp [qb4] at h
theorem qld (w:∀ c x,(X.cells c x).length=sz c) (ok2:CfgOk2 X C) (hle:Le w0 w1) (e:Le w0 w2) (j:∀ i,w2.owns i=look st2.owns i) (z:∀ id,id<w0.n->w1.c id=w2.c id) (A:w1.g=w2.g) (B:w1.M=w2.M):∀ (ps d:List (PV K)) {a:List Prop} {b f:List V},
  qq4 (qo X tbl inv meas) st2 ps d=some a->(∀ q ∈ a,q)->qu X sz w0 ps b->qu X sz w2 d f->qu X sz w1 ps f
 | [],[],a,b,f,h,k,m,l=>by rw [l.jb];exact .nil
 | [],_::_,a,b,f,h,k,m,l=>by simp [qq4] at h
 | _::_,[],a,b,f,h,k,m,l=>by simp [qq4] at h
 | p::ps,p2::d,a,b,f,h,k,m,l=>by
  simp only [qq4] at h;obtain ⟨x,o,r⟩:=zI.1 h;obtain ⟨y,s,t⟩:=zM.1 r;subst t;obtain ⟨J,D,rfl,E,F⟩:=m.z7;obtain ⟨v,G,rfl,H,I⟩:=l.z7;exact .cons (qyu w ok2 hle e j z A B p p2 o (λq u=>k q (List.mem_append_left _ u)) E H) (qld w ok2 hle e j z A B ps d s (λq u=>k q (List.mem_append_right _ u)) F I)
end
def zi7 (a:Fr) (d:Heap) (w2:Wd):RSlot->List V->Prop
 | .one t _,b=>∃ v,a.tmp t=some v/\b=[v]
 | .var id _,b=>w2.M (w2.c id)/\∃ e ex,d.get (w2.c id)=some (.row b e 0 0 0 ex)
 | .ml ..,_=>False
def Good (w0 w2 w':Wd):Prop:=Le w0 w'/\w'.g=w2.g/\w'.M=w2.M/\w'.c=w2.c
def zfn (X:Codecs K) (sz:Nat->Nat) (st0:StV K) (a:Fr) (c:Heap) (w0 w2:Wd) (s:RSlot):Prop:=
 ∀ x,qfe st0 s=some x->∀ b,zi7 a c w2 s b->∀ (i:Nat) (p:PV K),x.1[i]? = some .keep->x.2[i]? = some p->∀ w',Le w0 w'->w'.g=w2.g->w'.M=w2.M->Rep X sz w' p (b.getD i j8)
def zfm (st0 st2:StV K) (s:RSlot):Prop:=
 ∀ x y,qfe st0 s=some x->qfe st2 s=some y->∀ (i id c:Nat) (fx:Bool) (a:Int),x.1[i]? = some .grow->x.2[i]? = some (.mlist id c fx a)->id<st0.next/\∃ b,y.2[i]? = some (.mlist id c fx b)
def qv1 (X:Codecs K) (sz:Nat->Nat) (a:Heap) (w2 w1:Wd) (id:Nat) (ct:ZT K):Prop:=w2.M (w2.c id)/\∀ w',Le w1 w'->qfa X sz w' id ct (a.get (w2.c id))
theorem zaf {A B:StV K} {s:RSlot} {x y:List SK×List (PV K)} (a:qfe A s=some x) (b:qfe B s=some y):x.1=y.1:=by
 cases s with
 | one t k=>
  obtain ⟨_,_,rfl⟩:=zM.1 a;obtain ⟨_,_,rfl⟩:=zM.1 b;rfl
 | var id ks=>
  obtain ⟨_,_,rfl⟩:=zM.1 a;obtain ⟨_,_,rfl⟩:=zM.1 b;rfl
 | ml id c=>simp [qfe] at a
theorem qll (g:Rel X sz C base st2 fr2 H2 w2) {s:RSlot} {y:List SK×List (PV K)} (h:qfe st2 s=some y):∃ a,zi7 fr2 H2 w2 s a/\qu X sz w2 y.2 a:=by
 cases s with
 | one t k=>
  obtain ⟨p,b,rfl⟩:=zM.1 h;obtain ⟨v,i,d⟩:=g.f t p b;exact ⟨[v],⟨v,i,rfl⟩,.cons d .nil⟩
 | var id ks=>
  obtain ⟨ps,b,rfl⟩:=zM.1 h;obtain ⟨_,j,a,e,ex,l,_,d⟩:=g.h.cells id _ (qfx b);exact ⟨a,⟨j,e,ex,l⟩,d⟩
 | ml id c=>simp [qfe] at h
theorem qhw (ok:CfgOk X sz C) (ok2:CfgOk2 X C) (N:Rel X sz C base st2 fr2 H2 w2):∀ {b:List RSlot} {ns:List (NV K)} {f:StV K} {w1:Wd} {G:List (NV K)->StV K->Prop},
  qgd (qo X tbl inv meas) st2 b=some ns->(∀ s ∈ b,zfn X sz st0 fr2 H2 w0 w2 s/\zfm st0 st2 s)->Part X sz base st0 w0 st2 H2 w2 f w1 (kl st2 b)->za6 X sz w1 f.tmps fr2->
  (∀ id ps,look f.cells id=some ps->id ∈ qi7 b∨qv1 X sz H2 w2 w1 id ps)->(∀ id,(look f.cells id).isSome=(look st0.cells id).isSome)->qew (qo X tbl inv meas) st0 b f G->
  ∃ r z,G ns r/\Part X sz base st0 w0 st2 H2 w2 r z []/\za6 X sz z r.tmps fr2/\(∀ id ps,look r.cells id=some ps->qv1 X sz H2 w2 z id ps)/\(∀ id,(look r.cells id).isSome=(look st0.cells id).isSome)/\r.n=f.n
 | [],ns,f,w1,G,O,hK,m,hT,hC,hD,h=>by
  simp only [qgd,zS] at O;subst O;exact ⟨f,w1,h,m,hT,λid ps B=>(hC id ps B).elim (λhv=>by simp [qi7] at hv) (λh=>h),hD,rfl⟩
 | s::b,ns,f,w1,G,O,hK,m,hT,hC,hD,h=>by
  by_cases P:∃ id c,s=.ml id c
  .obtain ⟨id,c,rfl⟩:=P;simp only [qgd] at O;obtain ⟨D,a1,Q⟩:=zI.1 O;obtain ⟨d,hd,R⟩:=zI.1 Q;obtain ⟨a,ha,ad⟩:=zI.1 R;obtain ⟨ae,I,rfl⟩:=zM.1 ad;simp only [qew] at h;obtain ⟨l0,af,h0⟩:=qe h;rw [hd] at h0;have A:∀ (x:List (K c)) (y:List (K d)),qew (qo X tbl inv meas) st0 b {f with cells:=qhq f.cells id (.ml c x (.list d y (some (f.next,1)))),owns:=(f.next,1)::f.owns,next:=f.next+1} λms st2=>G (.l c x::.l d y::ms) st2:=h0;have a6:=qli a1;obtain ⟨_,hM,S,e,gen,fl,ex,hg,ag,ah,ai,hr⟩:=N.h.cells id _ a6;have hr:qu X sz w2 (D.1.flatMap (X.cells c)++[D.2]) S:=hr;have q1:=hr.take (D.1.flatMap (X.cells c)).length;have q2:=hr.drop (D.1.flatMap (X.cells c)).length;rw [List.take_left] at q1;rw [List.drop_left] at q2;have F:kl st2 (.ml id c::b)=qba [.list d true true] [D.2]++kl st2 b:=by
    simp only [kl,a1];obtain ⟨l,p⟩:=D;cases p with
    | list c' l' o=>cases o<;>rfl
    | _=>rfl
   rw [F] at m;have a7:qoq (qo X tbl inv meas) [.list d true true] [qnx] f λqs ns aj=>∃ y,qs=[.list d y (some (f.next,1))]/\ns=[.l d y]/\aj = {f with owns:=(f.next,1)::f.owns,next:=f.next+1}:=by
    intro y;exact ⟨y,by simp⟩
   obtain ⟨qs,r,z,⟨y,rfl,hy,rfl⟩,u,g3,g4,_⟩:=qem ok ok2 N.h (ns:=a) (ps:=[qnx]) (by simp only [qob,ha,zB,zH,zJ]) q2 (λi p hk=>by rcases i with _ | i<;>simp at hk) (λi id c fx n0 hk=>by rcases i with _ | i<;>simp at hk) m a7;subst hy;have J:za6 X sz z f.tmps fr2:=by
    intro i p E;obtain ⟨v,A,h2⟩:=hT i p E;exact ⟨v,A,h2.mono ok.len g3⟩
   have ak:qu X sz z (qs1 X (.ml c D.1 (.list d y (some (f.next,1))))) S:=by
    have q3:qu X sz z (D.1.flatMap (X.cells c)) (S.take (D.1.flatMap (X.cells c)).length):=by
     refine ⟨q1.1,λj p E=>u.move ok2 (q1.2 j p E) ?_⟩;obtain ⟨x,_,T⟩:=List.mem_flatMap.1 (List.mem_of_getElem? E);exact ok2.plain c x p T
    have:=q3.append g4;rw [List.take_append_drop] at this;exact this
   have m2:Part X sz base st0 w0 st2 H2 w2 {f with cells:=qhq f.cells id (.ml c D.1 (.list d y (some (f.next,1)))),owns:=(f.next,1)::f.owns,next:=f.next+1} z (kl st2 b):=⟨u.g,u.M,u.ce,u.nx,u.c,u.cl,u.n,u.le,u.nxt,u.known,u.owns,u.ownn,u.eta,u.einj,u.pends,u.pdist⟩;have U:∀ w ps,look (qhq f.cells id (.ml c D.1 (.list d y (some (f.next,1))))) w=some ps->w ∈ qi7 b∨qv1 X sz H2 w2 z w ps:=by
    intro w ps B;rw [qe7] at B;by_cases hi:w=id
    .rw [zT hi] at B;cases B;subst hi;exact .inr ⟨hM,λw' L=>⟨S,e,gen,fl,ex,hg,ag,by rw [L.ce,u.ce];exact ah,ai,ak.mono ok.len L⟩⟩
    .rw [zF hi] at B;rcases hC w ps B with A | ⟨h0,A⟩
     .simp only [qi7,zD] at A;rcases A with A | A
      .exact absurd A hi
      .exact .inl A
     .exact .inr ⟨h0,λw' L=>A w' (g3.trans L)⟩
   have V:∀ w,(look (qhq f.cells id (.ml c D.1 (.list d y (some (f.next,1))))) w).isSome=(look st0.cells w).isSome:=by
    intro w;rw [qe7];by_cases hi:w=id
    .rw [zT hi,hi,qli af];rfl
    .rw [zF hi];exact hD w
   obtain ⟨H,w3,b1,b2,b3,b4,b5,b6⟩:=qhw ok ok2 N I (λs' W=>hK s' (zG _ W)) m2 J U V (A D.1 y);exact ⟨H,w3,b1,b2,b3,b4,b5,b6⟩
  have ao:∀ id c,s=.ml id c->False:=λid c he=>P ⟨id,c,he⟩;simp only [qgd] at O;obtain ⟨y,hy,Q⟩:=zI.1 O;obtain ⟨a,ha,R⟩:=zI.1 Q;obtain ⟨ae,I,rfl⟩:=zM.1 R;simp only [qew] at h;split at h
  .exact absurd h id
  .rename_i x T;obtain ⟨S,Y,hr⟩:=qll N hy;have hk:=zaf T hy;rw [<-hk] at ha;have F:kl st2 (s::b)=qba x.1 y.2++kl st2 b:=by
    simp only [kl,hy];rw [hk]
   rw [F] at m;obtain ⟨qs,r,z,g1,u,g3,g4,g5,g6,g7⟩:=qem ok ok2 N.h ha hr ((hK s zC).1 x T S Y) ((hK s zC).2 x y T hy) m h;have J:za6 X sz z r.tmps fr2:=by
    intro i p E;rw [g5] at E;obtain ⟨v,A,h2⟩:=hT i p E;exact ⟨v,A,h2.mono ok.len g3⟩
   have a8:∀ id ps,look r.cells id=some ps->id ∈ qi7 (s::b)∨qv1 X sz H2 w2 z id ps:=by
    intro id ps B;rw [g7] at B;rcases hC id ps B with A | ⟨h0,A⟩
    .exact .inl A
    .exact .inr ⟨h0,λw' L=>A w' (g3.trans L)⟩
   have aa:∀ id,(look r.cells id).isSome=(look st0.cells id).isSome:=by
    intro id;rw [g7];exact hD id
   have ab:∀ s' ∈ b,zfn X sz st0 fr2 H2 w0 w2 s'/\zfm st0 st2 s':=λs' W=>hK s' (zG _ W);cases s with
   | ml id c=>exact absurd ⟨id,c,rfl⟩ P
   | one t k=>
    simp only at g1;split at g1
    .rename_i q;obtain ⟨v,hv,rfl⟩:=Y;obtain ⟨v',_,he,hq,_⟩:=g4.z7;cases he;have m2:Part X sz base st0 w0 st2 H2 w2 {r with tmps:=r.tmps.set t q} z (kl st2 b):=⟨u.g,u.M,u.ce,u.nx,u.c,u.cl,u.n,u.le,u.nxt,u.known,u.owns,u.ownn,u.eta,u.einj,u.pends,u.pdist⟩;have al:za6 X sz z (r.tmps.set t q) fr2:=by
      intro i p E;rw [Tree.jq] at E;by_cases hi:i=t
      .rw [zT hi] at E;cases E;subst hi;exact ⟨v,hv,hq⟩
      .rw [zF hi] at E;exact J i p E
     obtain ⟨H,w3,b1,b2,b3,b4,b5,b6⟩:=qhw ok ok2 N I ab m2 al a8 aa g1;exact ⟨H,w3,b1,b2,b3,b4,b5,b6.trans g6⟩
    .exact absurd g1 id
   | var id ks=>
    simp only at g1;have m2:Part X sz base st0 w0 st2 H2 w2 {r with cells:=qhq r.cells id (.cs none qs)} z (kl st2 b):=⟨u.g,u.M,u.ce,u.nx,u.c,u.cl,u.n,u.le,u.nxt,u.known,u.owns,u.ownn,u.eta,u.einj,u.pends,u.pdist⟩;obtain ⟨an,e,ex,hg⟩:=Y;have U:∀ w ps,look (qhq r.cells id (.cs none qs)) w=some ps->w ∈ qi7 b∨qv1 X sz H2 w2 z w ps:=by
     intro w ps B;rw [qe7] at B;by_cases hi:w=id
     .rw [zT hi] at B;cases B;subst hi;exact .inr ⟨an,λw' L=>⟨S,e,ex,hg,trivial,g4.mono ok.len L⟩⟩
     .rw [zF hi] at B;rcases a8 w ps B with A | A
      .simp only [qi7,zD] at A;rcases A with A | A
       .exact absurd A hi
       .exact .inl A
      .exact .inr A
    have Z:(look st0.cells id).isSome=true:=by
     simp only [qfe] at T;obtain ⟨ps,A,_⟩:=zM.1 T;rw [qfx A];rfl
    have V:∀ w,(look (qhq r.cells id (.cs none qs)) w).isSome=(look st0.cells w).isSome:=by
     intro w;rw [qe7];by_cases hi:w=id
     .rw [zT hi,hi,Z];rfl
     .rw [zF hi];exact aa w
    obtain ⟨H,w3,b1,b2,b3,b4,b5,b6⟩:=qhw ok ok2 N I ab m2 J U V g1;exact ⟨H,w3,b1,b2,b3,b4,b5,b6.trans g6⟩
theorem qqy (A:z2n K):∀ {ks:List SK} {ps:List (PV K)} {ns:List (NV K)} {i:Nat},qob A st2 ks ps=some ns->i ∈ qba ks ps->∃ s,look st2.owns i=some s
 | [],ps,ns,i,_,h=>by cases ps<;>simp [qba] at h
 | _::_,[],ns,i,h,_=>by simp [qob] at h
 | k::ks,p::ps,ns,i,h,hi=>by
  simp only [qob] at h;obtain ⟨a,f,g⟩:=zI.1 h;obtain ⟨r,m,_⟩:=zM.1 g;have d:i ∈ qba ks ps->∃ s,look st2.owns i=some s:=qqy A m;cases k with
  | list c own n=>
   cases own with
   | false=>
    have e:qba (.list c false n::ks) (p::ps)=qba ks ps:=by cases p<;>rfl
    rw [e] at hi;exact d hi
   | true=>
    cases p with
    | list u l o=>
     cases o with
     | none=>exact d hi
     | some x=>
      obtain ⟨j,s⟩:=x;simp only [qba,zD] at hi;rcases hi with rfl | hi
      .simp only [qvv] at f;rcases je f with ⟨b,_⟩ | ⟨_,b⟩
       .simp only [Bool.true_and] at b;simp only [qfh] at b;split at b
        .rename_i q t;exact ⟨q,t⟩
        .cases b
       .cases b
      .exact d hi
    | _=>exact d hi
  | _=>exact d hi
theorem qlg (A:z2n K):∀ {b:List RSlot} {ns:List (NV K)} {i:Nat},qgd A st2 b=some ns->i ∈ kl st2 b->∃ s,look st2.owns i=some s
 | [],ns,i,_,h=>by simp [kl] at h
 | s::b,ns,i,h,hi=>by
  by_cases e:∃ id c,s=.ml id c
  .obtain ⟨id,c,rfl⟩:=e;simp only [qgd] at h;obtain ⟨y,g,j⟩:=zI.1 h;obtain ⟨d,v,k⟩:=zI.1 j;obtain ⟨a,m,t⟩:=zI.1 k;obtain ⟨r,n,_⟩:=zM.1 t;have f:kl st2 (.ml id c::b)=qba [.list d true true] [y.2]++kl st2 b:=by
    simp only [kl,g];obtain ⟨l,p⟩:=y;cases p with
    | list w x o=>cases o<;>rfl
    | _=>rfl
   rw [f,List.mem_append] at hi;rcases hi with hi | hi
   .exact qqy A (ks:=[.list d true true]) (ps:=[y.2]) (ns:=a) (by simp only [qob,m,zB,zH,zJ]) hi
   .exact qlg A n hi
  have q:∀ id c,s=.ml id c->False:=λid c u=>e ⟨id,c,u⟩;simp only [qgd] at h;obtain ⟨y,g,j⟩:=zI.1 h;obtain ⟨a,m,k⟩:=zI.1 j;obtain ⟨r,n,_⟩:=zM.1 k;simp only [kl,g,List.mem_append] at hi;rcases hi with hi | hi
  .exact qqy A m hi
  .exact qlg A n hi
theorem q1x (ok:CfgOk X sz C) (ok2:CfgOk2 X C) (r:Rel X sz C base st0 fr0 H0 w0) (e:Rel X sz C base st2 fr2 H2 w2) (hle:Le w0 w2) {u:List Nat} {a:List RSlot} {ns:List (NV K)} {G:List (NV K)->StV K->Prop}
  (hn:st2.n=st0.n) (V:∀ t,t ∉ u->fr2.tmp t=fr0.tmp t) (W:qgd (qo X tbl inv meas) st2 a=some ns) (hK:∀ s ∈ a,zfn X sz st0 fr2 H2 w0 w2 s/\zfm st0 st2 s)
  (hC:∀ id ps,look st0.cells id=some ps->id ∈ qi7 a∨∀ w',Good w0 w2 w'->qv1 X sz H2 w2 w' id ps)
  (k:∀ i s,look (qfd st0 u a).owns i=some s->look st2.owns i=some s) (N:∀ i ∈ kl st2 a,look (qfd st0 u a).owns i=none) (F:distinct (kl st2 a)=true)
  (h:qew (qo X tbl inv meas) st0 a (qfd st0 u a) G):∃ l w1,G ns l/\Rel X sz C base l fr2 H2 w1/\Le w0 w1/\l.n=st0.n:=by
 have w:∀ i,look (qfd st0 u a).owns i=if i ∈ kl st0 a then none else look st0.owns i:=λi=>qoy
 have E:∀ i s,look (qfd st0 u a).owns i=some s->look st0.owns i=some s:=by
  intro i s hi;rw [w] at hi;split at hi
  .cases hi
  .exact hi
 let w1:Wd:={w2 with n:=st0.next,owns:=look (qfd st0 u a).owns,cl:=λid=>w2.cl id/\id<st0.next};have B:w0.n=st0.next:=r.h.n
 have y:Le w0 w1:=by
  refine ⟨⟨by rw [B];exact zN _,hle.mem,hle.c,hle.nu,λi hi H=>?_,λi s T hi H o=>?_,λi s hi H o=>?_,hle.ce,λid hi=>⟨λO=>(hle.cl id hi).1 O.1,λO=>⟨(hle.cl id hi).2 O,by rw [<-B];exact hi⟩⟩,hle.nx,hle.b,hle.Mu,hle.lp,hle.gm⟩,hle.df,hle.fl⟩
  .rw [r.h.owns] at H;show look (qfd st0 u a).owns i=none;rw [w,H]
   split<;>rfl
  .rw [r.h.owns] at H;have:=E i T o;rw [H] at this;cases this;exact zN _
  .have z:w2.owns i=some s:=by rw [e.h.owns];exact k i s o
   exact hle.o3 i s hi H z
 have m:Part X sz base st0 w0 st2 H2 w2 (qfd st0 u a) w1 (kl st2 a):=by
  refine ⟨rfl,rfl,rfl,rfl,rfl,λ_=>.rfl,rfl,y,zN _,rfl,rfl,λi s hi=>r.h.ownn i s (E i s hi),λi s nm hi L=>e.h.eta i s nm (k i s hi) L,λi j s T nm o z e1 e2=>e.h.einj i j s T nm (k i s o) (k j T z) e1 e2,λi2 I=>⟨qlg _ W I,λnm Y j s Z L=>?_⟩,qhu F⟩;obtain ⟨s2,a6⟩:=qlg _ W I;have:=e.h.einj i2 j s2 s nm a6 (k j s Z) Y L;subst this;rw [N i2 I] at Z;cases Z
 have hT:za6 X sz w1 (qfd st0 u a).tmps fr2:=by
  intro t p hp;have D:(qwi u st0.tmps).get t=some p:=hp;rw [q1q] at D;split at D
  .cases D
  .rename_i ht;obtain ⟨v,o,z⟩:=r.f t p D;exact ⟨v,by rw [V t ht];exact o,z.mono ok.len y⟩
 have J:Good w0 w2 w1:=⟨y,rfl,rfl,rfl⟩;obtain ⟨l,w3,g1,d,g3,g4,g5,g6⟩:=qhw ok ok2 e W hK m hT (λid ps U=>(hC id ps U).imp_right λO=>O w1 J) (λ_=>rfl) h;have a7:zaw base.next w3 fr2.defers:=by
  have P:w3.fl=w2.fl:=d.le.fl.trans hle.fl.symm;refine ⟨λx hx=>?_,e.ds.2.1,by rw [P,d.nx];exact e.ds.2.2⟩;obtain ⟨m,o,z,h3,h4⟩:=e.ds.1 x hx;exact ⟨m,o,z,by rw [P];exact h3,by rw [d.g];exact h4⟩
 refine ⟨l,w3,g1,⟨?_,g3,?_,a7⟩,d.le,g6⟩
 .have Q:∀ id,(look l.cells id).isSome=true->w0.cl id/\id<st0.next:=by
   intro id hs;rw [g5] at hs;obtain ⟨ps,a8⟩:=Option.isSome_iff_exists.1 hs;obtain ⟨q,A,_⟩:=r.h.cells id ps a8;exact ⟨q,(r.h.cl id q).1⟩
  refine ⟨e.h.wf,e.h.rob,d.g.trans e.h.g,d.nx.trans e.h.nx,d.le.b.trans r.h.b,λn hM=>e.h.Mlt n (by rw [<-d.M];exact hM),d.n,zR r.h.one d.nxt,e.h.keeps,λid hc=>?_,λid R o z L=>?_,λid ps U=>?_,λi=>by rw [d.owns],d.ownn,λi s nm o z=>?_,d.einj,d.ce.trans e.h.ce,λid b hk=>?_,λgn ps hg=>?_⟩
  .obtain ⟨c1,c2⟩:=(d.cl id).1 hc;obtain ⟨q,A,S⟩:=e.h.cl id c1;exact ⟨zL c2 d.nxt,by rw [d.c];exact A,by rw [d.c];exact S⟩
  .rw [d.c] at L;exact e.h.cinj id R ((d.cl id).1 o).1 ((d.cl R).1 z).1 L
  .obtain ⟨q,A⟩:=Q id (by rw [U];rfl);have hi:id<w0.n:=by rw [B];exact A
   obtain ⟨a0,a1⟩:=g4 id ps U;refine ⟨(d.cl id).2 ⟨(hle.cl id hi).2 q,A⟩,by rw [d.c,d.M];exact a0,by rw [d.c];exact a1 w3 (.refl w3)⟩
  .obtain ⟨q,A,S⟩:=d.eta i s nm o z;exact ⟨q,A,by rw [d.M];exact S⟩
  .rw [d.known] at hk;obtain ⟨q0,q,A⟩:=r.h.known id b hk;exact ⟨q0,zL q d.nxt,by rw [d.le.nu id (by rw [B];exact q)];exact A⟩
  .obtain ⟨q0,aa,e',fl,fz,ex',q,A,S⟩:=r.h.globs gn ps hg;exact ⟨q0,aa,e',fl,fz,ex',q,A,S.mono ok.len d.le⟩
 .rw [e.n,hn,g6];rfl
end
end Go.E3
