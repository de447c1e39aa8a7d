import Derived.Test.YtpofmogdhigakaaGreatDoorCfg
import Derived.Test.YtpofmogdhigakaaGreatDoorM7
namespace Go.Proofs.YtpofmogdhigakaaGreatDoor
open Go Go.E2 Go.E3
set_option maxRecDepth 100000
variable {sp:Nat->Option (List V->Heap->Option (CR×Heap))}
noncomputable def qa8 (f:Nat):Code:=match (qw Tryz.prog (λ_=>none)).funcs f with
 | some fi=>fi.body.getD .skip
 | none=>.skip
noncomputable def rg (f i:Nat):Code:=(qqh i (qa8 f)).getD .skip
noncomputable def tyP (t:Nat):TI:=((qw Tryz.prog (λ_=>none)).types t).getD ⟨.bool,0,0,.nilp,false⟩
theorem zsb:(cfg sp).E.funcs 75=some ⟨some (qa8 75),0,42,[.tmp 4]⟩:=by kernel_rfl
theorem zhg:qa8 75=.seq (rg 75 0) (.seq (rg 75 1) (.seq (.seq (rg 75 2) (.cond (.tmp 12) (.seq (rg 75 3) .ret) .skip)) (.seq (.seq (rg 75 4) (.block 0 (.loop (.seq (.seq (rg 75 5) (.cond (.tmp 19) .skip (.exit 0))) (.seq (.block 1 (.seq (rg 75 7) (.seq (rg 75 8) (.cond (.tmp 29) (.seq (rg 75 9) (rg 75 10)) .skip)))) (rg 75 6)))))) (.seq (rg 75 11) (.seq (rg 75 12) .ret))))):=by kernel_rfl
theorem zs9:jo (rg 75 0)=some [(some 4,.assign (.const (.slice none 0 0)))]:=by kernel_rfl
theorem zta:jo (rg 75 1)=some [(some 8,.move (.tmp 0)),(some 9,.move (.tmp 1)),(some 10,.call ⟨.value (.func 100),#[(.tmp 8),(.tmp 9)],#[69,120]⟩),(some 5,.assign (.tmp 10))]:=by kernel_rfl
theorem ztb:jo (rg 75 2)=some [(some 11,.move (.tmp 5)),(some 12,.binOp .eql 3 (.tmp 11) (.const (.int .i64 (-1))) 3)]:=by kernel_rfl
theorem ztc:jo (rg 75 3)=some [(some 13,.move (.tmp 0)),(some 4,.assign (.tmp 13))]:=by kernel_rfl
theorem ztd:jo (rg 75 4)=some [(some 14,.move (.tmp 5)),(some 15,.binOp .add 3 (.tmp 14) (.const (.int .i64 1)) 3),(some 6,.assign (.tmp 15))]:=by kernel_rfl
theorem zte:jo (rg 75 5)=some [(some 16,.move (.tmp 6)),(some 17,.move (.tmp 0)),(some 18,.call ⟨.builtin .len,#[(.tmp 17)],#[69]⟩),(some 19,.binOp .lss 3 (.tmp 16) (.tmp 18) 3)]:=by kernel_rfl
theorem ztg:jo (rg 75 7)=some [(some 22,.move (.tmp 0)),(some 23,.move (.tmp 6)),(some 24,.indexAddr 69 (.tmp 22) (.tmp 23)),(some 25,.load 73 (.tmp 24)),(some 7,.alloc 73),(none,.store 73 (.tmp 7) (.tmp 25))]:=by kernel_rfl
theorem zth:jo (rg 75 8)=some [(some 26,.move (.tmp 1)),(some 27,.load 73 (.tmp 7)),(some 28,.call ⟨.value (.tmp 26),#[(.tmp 27)],#[73]⟩),(some 29,.unOp .not 4 (.tmp 28))]:=by kernel_rfl
theorem zti:jo (rg 75 9)=some [(some 30,.move (.tmp 0)),(some 31,.move (.tmp 5)),(some 32,.load 73 (.tmp 7)),(some 33,.indexAddr 69 (.tmp 30) (.tmp 31)),(none,.store 73 (.tmp 33) (.tmp 32))]:=by kernel_rfl
theorem zpf:jo (rg 75 10)=some [(some 34,.move (.tmp 5)),(some 35,.binOp .add 3 (.tmp 34) (.const (.int .i64 1)) 3),(some 5,.assign (.tmp 35))]:=by kernel_rfl
theorem ztf:jo (rg 75 6)=some [(some 20,.move (.tmp 6)),(some 21,.binOp .add 3 (.tmp 20) (.const (.int .i64 1)) 3),(some 6,.assign (.tmp 21))]:=by kernel_rfl
theorem zpg:jo (rg 75 11)=some [(some 36,.move (.tmp 0)),(some 37,.move (.tmp 5)),(some 38,.slice 69 (.tmp 36) (some (.tmp 37)) none none),(none,.call ⟨.builtin .clear,#[(.tmp 38)],#[69]⟩)]:=by kernel_rfl
theorem zph:jo (rg 75 12)=some [(some 39,.move (.tmp 0)),(some 40,.move (.tmp 5)),(some 41,.slice 69 (.tmp 39) none (some (.tmp 40)) none),(some 4,.assign (.tmp 41))]:=by kernel_rfl
theorem zns:(cfg sp).E.funcs 100=some ⟨some (qa8 100),0,19,[.tmp 4]⟩:=by kernel_rfl
theorem zrn:qa8 100=.seq (rg 100 0) (.seq (.seq (rg 100 1) (.block 0 (.loop (.seq (rg 100 2) (.seq (.cond (.tmp 9) .skip (.exit 0)) (.seq (.block 1 (.seq (rg 100 3) (.seq (rg 100 4) (.cond (.tmp 16) (.seq (rg 100 5) .ret) .skip)))) (rg 100 6))))))) (.seq (rg 100 7) .ret)):=by kernel_rfl
theorem zoq:jo (rg 100 0)=some [(some 4,.assign (.const (.int .i64 0)))]:=by kernel_rfl
theorem zor:jo (rg 100 1)=some [(some 6,.move (.tmp 0)),(some 7,.call ⟨.builtin .len,#[(.tmp 6)],#[69]⟩),(some 8,.move (.const (.int .i64 0)))]:=by kernel_rfl
theorem zos:jo (rg 100 2)=some [(some 9,.binOp .lss 3 (.tmp 8) (.tmp 7) 3)]:=by kernel_rfl
theorem zot:jo (rg 100 3)=some [(some 10,.move (.tmp 8)),(some 5,.assign (.tmp 10))]:=by kernel_rfl
theorem zou:jo (rg 100 4)=some [(some 11,.move (.tmp 1)),(some 12,.move (.tmp 0)),(some 13,.move (.tmp 5)),(some 14,.indexAddr 69 (.tmp 12) (.tmp 13)),(some 15,.load 73 (.tmp 14)),(some 16,.call ⟨.value (.tmp 11),#[(.tmp 15)],#[73]⟩)]:=by kernel_rfl
theorem zov:jo (rg 100 5)=some [(some 17,.move (.tmp 5)),(some 4,.assign (.tmp 17))]:=by kernel_rfl
theorem zow:jo (rg 100 6)=some [(some 18,.binOp .add 3 (.tmp 8) (.const (.int .i64 1)) 3),(some 8,.move (.tmp 18))]:=by kernel_rfl
theorem zox:jo (rg 100 7)=some [(some 4,.assign (.const (.int .i64 (-1))))]:=by kernel_rfl
theorem zr9:(cfg sp).E.funcs 54=some ⟨some (qa8 54),0,13,[.tmp 2]⟩:=by kernel_rfl
theorem zhe:qa8 54=.seq (rg 54 0) (.seq (rg 54 1) (.seq (rg 54 2) .ret)):=by kernel_rfl
theorem zsw:jo (rg 54 0)=some [(some 1,.box 24 (.tmp 0)),(some 2,.assign (.const (.slice none 0 0)))]:=by kernel_rfl
theorem zsx:jo (rg 54 1)=some [(some 6,.load 24 (.tmp 1)),(some 7,.call ⟨.value (.func 74),#[(.tmp 6)],#[24]⟩),(some 5,.move (.tmp 7)),(some 8,.extract (.tmp 5) 0),(some 9,.extract (.tmp 5) 1),(some 3,.assign (.tmp 8)),(some 4,.assign (.tmp 9))]:=by kernel_rfl
theorem zsy:jo (rg 54 2)=some [(some 10,.move (.tmp 3)),(some 11,.makeFunc (.func 76) #[] #[(.tmp 1)]),(some 12,.call ⟨.value (.func 75),#[(.tmp 10),(.tmp 11)],#[69,120]⟩),(some 2,.assign (.tmp 12))]:=by kernel_rfl
theorem qh1:(cfg sp).E.types 69=some (tyP 69):=by kernel_rfl
theorem qmu:(tyP 69).under=.slice 73:=by kernel_rfl
theorem qh2:(cfg sp).E.types 73=some (tyP 73):=by kernel_rfl
theorem qox:(tyP 73).size=2:=by kernel_rfl
theorem zrg:(tyP 73).isAgg=true:=by kernel_rfl
theorem zg4:(tyP 73).zero.cells=[.int .i64 0,.int .i64 0]:=by kernel_rfl
variable {sp:Nat->Option (List V->Heap->Option (CR×Heap))}
def cP (x:Played):List V:=[.int .i64 x.Sign,.int .i64 x.Pass]
def cPs (l:List Played):List V:=l.flatMap cP
theorem qjo:∀ l:List Played,(cPs l).length=l.length * 2
 | []=>rfl
 | x::l=>by
  have:=qjo l;simp only [cPs,List.flatMap_cons,List.length_append,List.length_cons] at this ⊢;simp only [cP,List.length_cons,List.length_nil];omega
theorem qk0 (x:Played) (l:List Played):cPs (x::l)=cP x++cPs l:=rfl
theorem qwe:∀ {l:List Played} {j:Nat} (h:j<l.length),((cPs l).drop (j * 2)).take 2=cP l[j]
 | x::l,0,_=>by rw [qk0];rfl
 | x::l,j+1,h=>by
  have:=qwe (l:=l) (j:=j) (by simpa using h);rw [qk0,show (j+1) * 2=(cP x).length+j * 2 by simp [cP];omega,List.drop_append,List.drop_eq_nil_of_le (by omega),Nat.add_sub_cancel_left,List.nil_append,List.getElem_cons_succ];exact this
structure Ext (H0 H:Heap) (nm:Nat):Prop where
 next:H0.next<=H.next
 ro:H.ro=H0.ro
 qp:H.qp=H0.qp
 old:∀ m,m<H0.next->m≠nm->H.get m=H0.get m
 wf:∀ n,H.next<=n->H.get n=none
theorem Ext.keeps {H0 H H':Heap} {nm:Nat} (h:Ext H0 H nm) (k:Keeps H H') (wf:∀ n,H'.next<=n->H'.get n=none):Ext H0 H' nm:=
 ⟨zR h.next k.next,k.ro.trans h.ro,k.qp.trans h.qp,λm a b=>(k.old m (zL a h.next)).trans (h.old m a b),wf⟩
def zl3 (E:Env) (H0:Heap) (nm:Nat) (l:List Played) (del:Played->Bool) (a:V):Prop:=
 ∃ fd cap,a=.func (.func fd) [] cap/\∀ H,Ext H0 H nm->∀ x ∈ l,qaa E (.func fd) ([.agg (cP x)]++cap) H λv H'=>v=.bool (del x)/\Keeps H H'/\∀ n,H'.next<=n->H'.get n=none
theorem qkq {H:Heap} (wf:∀ n,H.next<=n->H.get n=none) {n:Nat} {x:O} (h:H.get n=some x):n<H.next:=by
 by_cases a:n<H.next
 .exact a
 .simp_all
theorem zlf {E:Env} {o:Oper} {fr:Fr} {H:Heap} {t u:Nat} {b:Array TypeId} {fd:Nat} {cap:List V} {a:V} (c:o.op=.call ⟨.value (.tmp t),#[.tmp u],b⟩) (d:fr.tmp t=some (.func (.func fd) [] cap)) (e:fr.tmp u=some a):zb E o fr H=some (.call (.func fd) ([a]++cap),H):=
 qe7 c rfl (qe d) (zg (qe e) jn) rfl
theorem q3c {H:Heap} {nm g fl z n:Nat} {e:TypeId} {ex:Bool} {l:List Played} {j:Nat} (b:H.get nm=some (.row (cPs l) e g fl z ex)) (c:fl<=g) (m:n=l.length) (h:j<l.length):jr H (tyP 73) (.ptr nm g (j * 2) (n * 2))=some (.agg (cP l[j])):=by
 have a:=qjo l;have d:Nat.ble fl g=true:=by rw [Nat.ble_eq];exact c
 have f:Nat.ble (j * 2+2) (n * 2)=true:=by rw [Nat.ble_eq];omega
 have i:Nat.ble (n * 2) (cPs l).length=true:=by rw [Nat.ble_eq];omega
 have k:zq H 2 (.ptr nm g (j * 2) (n * 2))=some (cP l[j]):=by
  simp only [zq,b,d,f,i,Bool.and_self,zO,qwe h];rfl
 simp only [jr,qox,k,zB,zrg,zO]
theorem q5r (hs:(cfg sp).E.spec 100=none) {H0 H:Heap} {nm g fl z:Nat} {e:TypeId} {ex:Bool} {Z:Option Nat} {l:List Played} {del:Played->Bool} {dv:V} {F:V} (hl:l.length<=1000000000) (X:Ext H0 H nm) (D:zl3 (cfg sp).E H0 nm l del dv) (J:(F=.nils/\l=[])∨(F=.slice nm g 0 l.length 2 Z/\H.get nm=some (.row (cPs l) e g fl z ex)/\fl<=g/\nm<H.next)) :
  qaa (cfg sp).E (.func 100) [F,dv] H λv H'=>Keeps H H'/\(∀ n,H'.next<=n->H'.get n=none)/\((v=.int .i64 (-1)/\∀ x ∈ l,del x=false)∨∃ k:Nat,v=.int .i64 k/\∃ h:k<l.length,(∀ x ∈ l.take k,del x=false)/\del l[k]=true):=by
 obtain ⟨fd,cap,rfl,hd⟩:=D;have R:∀ {o:Oper} {fr:Fr} {H:Heap} {t:Nat},o.op=.call ⟨.builtin .len,#[.tmp t],#[69]⟩->fr.tmp t=some F->zb (cfg sp).E o fr H=some (.val (.int .i64 l.length),H):=λho ht=>by
  rcases J with ⟨rfl,rfl⟩ | ⟨rfl,_⟩
  .exact qo5 ho rfl rfl rfl qh1 qmu (qe ht)
  .exact qi0 ho rfl rfl rfl qh1 qmu (qe ht)
 refine qb3 hs zns rfl ((?_:∀ G:Fr,G.tmp 0=some F->G.tmp 1=some (.func (.func fd) [] cap)->G.n=19->G.defers=[]->Wp (cfg sp).E 100 none (qa8 100) G H _) _ (zp rfl) (zp rfl) rfl rfl);intro G a0 a1 n0 d0;refine za (zt zoq (go1 rfl (by omega) (qy rfl (v:=.int .i64 0) rfl) λf1 K=>qz (qk ?_)));have n1:=K.n.trans n0;refine za (za (zt zor ?_));refine go1 rfl (by omega) (zf rfl (qe (K.ne a0))) λf2 L=>?_;have n2:=L.n.trans n1;refine go1 rfl (by omega) (R rfl L.get) λf3 M=>?_;have n3:=M.n.trans n2;refine go1 rfl (by omega) (zf rfl (v:=.int .i64 0) rfl) λf4 I=>qz (qk ?_);have n4:=I.n.trans n3;refine qah (qij (λm fr H'=>∃ i:Nat,m=l.length-i/\i<=l.length/\(∀ x ∈ l.take i,del x=false)/\Keeps H H'/\(∀ n,H'.next<=n->H'.get n=none)/\fr.tmp 0=some F/\fr.tmp 1=some (.func (.func fd) [] cap)/\fr.tmp 7=some (.int .i64 l.length)/\fr.tmp 8=some (.int .i64 i)/\fr.n=19/\fr.defers=[])
  ⟨0,rfl,Nat.zero_le _,by simp,.refl H,X.wf,I.ne (M.ne (L.ne (K.ne a0))),I.ne (M.ne (L.ne (K.ne a1))),I.ne M.get,I.get,n4,by rw [I.ds,M.ds,L.ds,K.ds,d0]⟩ ?_)
 rintro m fr H' ⟨i,rfl,hi,N,kp,wf,t0,t1,t7,S,n,ds⟩;have T:jb .lss .i64 i l.length=some (.bool (decide ((i:Int)<l.length))):=by simp [jb]
 refine za (zt zos (go1 rfl (by omega) (qbn rfl ⟨by simp,by simp⟩ (qe S) (qe t7) T) λg1 a=>qz (qk ?_)));have m1:=a.n.trans n;by_cases w:i<l.length
 .have d:decide ((i:Int)<l.length)=true:=by simpa using w
  rcases J with ⟨_,rfl⟩ | ⟨rfl,hr,hf,U⟩
  .cases w
  rw [d] at a;refine za (qdj (qe a.get) (qej (qk ?_)));refine za (qah (za (zt zot ?_)));refine go1 rfl (by omega) (zf rfl (qe (a.ne S))) λg2 y=>?_;have m2:=y.n.trans m1;refine go1 rfl (by omega) (qy rfl (qe y.get)) λg3 q=>qz (qk ?_);have m3:=q.n.trans m2;refine za (zt zou ?_);refine go1 rfl (by omega) (zf rfl (qe (q.ne (y.ne (a.ne t1))))) λg4 r=>?_;have m4:=r.n.trans m3;refine go1 rfl (by omega) (zf rfl (qe (r.ne (q.ne (y.ne (a.ne t0)))))) λg5 s=>?_;have m5:=s.n.trans m4;refine go1 rfl (by omega) (zf rfl (qe (s.ne (r.ne q.get)))) λg6 u=>?_;have m6:=u.n.trans m5;have W:kj (tyP 73).size (.slice nm g 0 l.length 2 Z) (.int .i64 (i:Int))=some (.ptr nm g (i * 2) (l.length * 2)):=by
   rw [qox];simp [kj,w]
  refine go1 rfl (by omega) (qc0 rfl qh1 qmu qh2 (qe (u.ne s.get)) (qe u.get) W) λg7 A=>?_;have m7:=A.n.trans m6;refine go1 rfl (by omega) (jm rfl qh2 (qe A.get) (q3c ((kp.old nm U).trans hr) hf rfl w)) λg8 B=>?_;have m8:=B.n.trans m7;refine qx3 rfl (by omega) (zlf rfl (B.ne (A.ne (u.ne (s.ne r.get)))) B.get) (hd H' (X.keeps kp wf) l[i] (List.getElem_mem w)) λv H2 hv g9 f=>qz (qk ?_);obtain ⟨rfl,O,P⟩:=hv;have m9:=f.n.trans m8;have Y:g9.tmp 8=some (.int .i64 i):=f.ne (B.ne (A.ne (u.ne (s.ne (r.ne (q.ne (y.ne (a.ne S))))))));have Q:g9.defers=[]:=by rw [f.ds,B.ds,A.ds,u.ds,s.ds,r.ds,q.ds,y.ds,a.ds,ds]
  cases p:del l[i] with
  | true=>
   rw [p] at f;refine qdj (qe f.get) (za (zt zov ?_));refine go1 rfl (by omega) (zf rfl (qe (f.ne (B.ne (A.ne (u.ne (s.ne (r.ne q.get)))))))) λh1 b=>?_;have p1:=b.n.trans m9;refine go1 rfl (by omega) (qy rfl (qe b.get)) λh2 C=>qz (qk (qhw ?_));exact ⟨.inr rfl,H2,by rw [C.ds,b.ds,Q];rfl,[.int .i64 i],qc4 C.get qeg,kp.trans O,P,.inr ⟨i,rfl,w,N,p⟩⟩
  | false=>
   rw [p] at f;refine qb8 (qe f.get) (qej ?_);refine qa3 (qk (zt zow ?_));refine go1 rfl (by omega) (qbn rfl ⟨by simp,by simp⟩ (qe Y) (j:=1) rfl (qwv (by omega) (by omega))) λh1 b=>?_;have p1:=b.n.trans m9;refine go1 rfl (by omega) (zf rfl (qe b.get)) λh2 C=>qz ?_;refine ⟨l.length-(i+1),by omega,i+1,rfl,w,λx c=>?_,kp.trans O,P,C.ne (b.ne (f.ne (B.ne (A.ne (u.ne (s.ne (r.ne (q.ne (y.ne (a.ne t0)))))))))),C.ne (b.ne (f.ne (B.ne (A.ne (u.ne (s.ne (r.ne (q.ne (y.ne (a.ne t1)))))))))),C.ne (b.ne (f.ne (B.ne (A.ne (u.ne (s.ne (r.ne (q.ne (y.ne (a.ne t7)))))))))),C.get,C.n.trans p1,by rw [C.ds,b.ds,Q]⟩;rw [List.take_add_one,List.getElem?_eq_getElem w,List.mem_append] at c;rcases c with c | c
   .simp_all
   .simp_all
 .have d:decide ((i:Int)<l.length)=false:=by simpa using w
  rw [d] at a;refine za (qb8 (qe a.get) (qtj ?_));refine qgm (qgm (qfb (qk ?_)));refine za (zt zox ?_);refine go1 rfl (by omega) (qy rfl (v:=.int .i64 (-1)) rfl) λh1 b=>qz (qk (qhw ?_));refine ⟨.inr rfl,H',by rw [b.ds,a.ds,ds];rfl,[.int .i64 (-1)],qc4 b.get qeg,kp,wf,.inl ⟨rfl,λx c=>N x ?_⟩⟩;rw [List.take_of_length_le (by omega)];exact c
variable {sp:Nat->Option (List V->Heap->Option (CR×Heap))}
theorem qw7:∀ (l:List Played) (i:Nat),(cPs l).take (i * 2)=cPs (l.take i)
 | [],i=>by simp [cPs]
 | x::l,0=>rfl
 | x::l,i+1=>by
  rw [qk0,show (i+1) * 2=(cP x).length+i * 2 by simp [cP];omega,List.take_length_add_append,qw7 l i];rfl
theorem q4y:∀ (l:List Played) (i:Nat),(cPs l).drop (i * 2)=cPs (l.drop i)
 | [],i=>by simp [cPs]
 | x::l,0=>rfl
 | x::l,i+1=>by
  rw [qk0,show (i+1) * 2=(cP x).length+i * 2 by simp [cP];omega,List.drop_length_add_append,q4y l i];rfl
theorem q9n (a b:List Played):cPs (a++b)=cPs a++cPs b:=List.flatMap_append
theorem zhu {l:List Played} {i:Nat} {x:Played} (h:i<l.length):setCells (cPs l) (i * 2) (cP x)=cPs (l.set i x):=by
 rw [List.set_eq_take_append_cons_drop,zT h,q9n,qk0];simp only [setCells];rw [qw7,show i * 2+(cP x).length=(i+1) * 2 by simp [cP];omega,q4y,List.append_assoc]
theorem zbc {H:Heap} {nm g fl n i:Nat} {e:TypeId} {ex:Bool} {l:List Played} {x:Played} (c:H.get nm=some (.row (cPs l) e g fl 0 ex)) (a:H.ro<=nm) (q:n=l.length) (h:i<l.length) :
  qfm H (tyP 73) (.ptr nm g (i * 2) (n * 2)) (.agg (cP x))=some (H.put nm (.row (cPs (l.set i x)) e g g 0 ex)):=by
 have b:=qjo l;have d:(V.agg (cP x)).cells=cP x:=rfl;have f:Nat.beq (cP x).length (tyP 73).size=true:=by rw [qox];rfl
 have j:Nat.beq g g=true:=Nat.beq_refl _;have k:Nat.ble (i * 2+(cP x).length) (n * 2)=true:=by rw [Nat.ble_eq];simp only [cP,List.length_cons,List.length_nil];omega
 have m:Nat.ble (n * 2) (cPs l).length=true:=by rw [Nat.ble_eq];omega
 have o:Nat.ble 0 (i * 2)=true:=by rw [Nat.ble_eq];omega
 have p:(cP x).all V.jg=true:=rfl;simp only [qfm,d,f,zO,jk,c,j,k,m,o,p,Bool.and_self,zhu h];exact kq a
theorem qt0 {E:Env} {o:Oper} {fr:Fr} {H:Heap} {t e:TypeId} {ti d:TI} {x:Operand} {lo hi:Option Operand} {nm g off len z:Nat} {cap:Option Nat} {vlo a:Option V} {v:V} (f:o.op=.slice t x lo hi none) (i:E.types t=some ti) (hu:ti.under=.slice e) (he:E.types e=some d) (j:opd fr H x=some (.slice nm g off len z cap))
  (b:qhm fr H lo=some vlo) (c:qhm fr H hi=some a) (h:qbe d.size (.slice nm g off len z cap) vlo a none=some v):zb E o fr H=some (.val v,H):=by
 simp only [zb,f,i,j,b,c,zB,hu,he,h,zH]
theorem zkc (m:Nat):(List.replicate m (tyP 73).zero.cells).flatten=cPs (List.replicate m ⟨0,0⟩):=by
 rw [zg4,cPs,List.flatMap_def,List.map_replicate];rfl
theorem zhv {H:Heap} {nm g fl n i:Nat} {e:TypeId} {ex:Bool} {l:List Played} (c:H.get nm=some (.row (cPs l) e g fl 0 ex)) (a:H.ro<=nm) (t:n=l.length) (h:i<l.length) :
  ∃ cs,qam (cfg sp).E .clear [69] [.slice nm g (i * 2) (n-i) 2 none] H=some (.val (.tuple []),H.put nm (.row (cPs (l.take i)++cs) e g g 0 ex)):=by
 have b:=qjo l;have d:=qjo (List.replicate (n-i) ⟨0,0⟩);rw [List.length_replicate] at d;have f:Nat.beq 2 2=true:=rfl;have j:Nat.beq g g=true:=Nat.beq_refl _;have k:Nat.ble (i * 2+(cPs (List.replicate (n-i) ⟨0,0⟩)).length) (i * 2+(n-i) * 2)=true:=by rw [Nat.ble_eq];omega
 have m:Nat.ble (i * 2+(n-i) * 2) (cPs l).length=true:=by rw [Nat.ble_eq];omega
 have o:Nat.ble 0 (i * 2)=true:=by rw [Nat.ble_eq];omega
 have p:(cPs (List.replicate (n-i) ⟨0,0⟩)).all V.jg=true:=by
  rw [List.all_eq_true];intro v q;obtain ⟨x,_,h⟩:=List.mem_flatMap.1 q;simp only [cP,zD,List.not_mem_nil,or_false] at h;rcases h with rfl | rfl<;>rfl
 have r:¬ (n-i=0):=by omega
 refine ⟨cPs (List.replicate (n-i) ⟨0,0⟩)++(cPs l).drop (i * 2+(cPs (List.replicate (n-i) ⟨0,0⟩)).length),?_⟩;have s:setCells (cPs l) (i * 2) (cPs (List.replicate (n-i) ⟨0,0⟩))=cPs (l.take i)++(cPs (List.replicate (n-i) ⟨0,0⟩)++(cPs l).drop (i * 2+(cPs (List.replicate (n-i) ⟨0,0⟩)).length)):=by
  rw [setCells,qw7,List.append_assoc]
 simp only [qam,qh1,qmu,qh2,qox,zB,f,zO,zF r,zkc,jk,c,j,k,m,o,p,Bool.and_self,s,kq a,zH]
theorem Ext.new {H0 H:Heap} {nm:Nat} (h:Ext H0 H nm) (x:O):Ext H0 (H.new x) nm:=
 h.keeps (Keeps.new (.refl H) x) λn a=>by
  rw [qi] at a;obtain ⟨t,m,r,g⟩:=H;have c:=h.wf n (by show m<=n;simp only at a;omega);have b:¬ n=m:=by simp only at a;omega
  simp only [Heap.new,Heap.get,Tree.zn,zF b];exact c
theorem Ext.put {H0 H:Heap} {nm a:Nat} (h:Ext H0 H nm) (x:O) (e:a<H.next) (b:a=nm∨H0.next<=a):Ext H0 (H.put a x) nm:=
 ⟨h.next,h.ro,h.qp,λm c d=>by rw [zd (by rcases b with b | b<;>omega)];exact h.old m c d,λn b=>by rw [qpz] at b;rw [zd (by omega)];exact h.wf n b⟩
def zre (l:List Played) (del:Played->Bool) (H0:Heap) (nm g:Nat) (e:TypeId) (ex:Bool) (b:V) (m:Nat) (fr:Fr) (H':Heap):Prop:=
 ∃ (j i:Nat) (a:List Played) (fl:Nat),m=l.length-j/\i<j/\j<=l.length/\a.length=l.length/\a.take i=(l.take j).filter (λx=>!del x)/\a.drop j=l.drop j/\Ext H0 H' nm/\H'.get nm=some (.row (cPs a) e g fl 0 ex)/\fl<=g/\
 fr.tmp 0=some (.slice nm g 0 l.length 2 none)/\fr.tmp 1=some b/\fr.tmp 5=some (.int .i64 i)/\fr.tmp 6=some (.int .i64 j)/\fr.n=42/\fr.defers=[]
theorem qrw (hs:(cfg sp).E.spec 100=none) (ad:(cfg sp).E.spec 75=none) {H0:Heap} {nm g fl:Nat} {e:TypeId} {ex:Bool} {l:List Played} {del:Played->Bool} {dv sv:V} (hl:l.length<=1000000000) (T:H0.ro<=nm/\H0.ro<=H0.next) (ae:∀ n,H0.next<=n->H0.get n=none) (D:zl3 (cfg sp).E H0 nm l del dv)
  (U:(sv=.nils/\l=[])∨(sv=.slice nm g 0 l.length 2 none/\H0.get nm=some (.row (cPs l) e g fl 0 ex)/\fl<=g/\nm<H0.next)) :
  qaa (cfg sp).E (.func 75) [sv,dv] H0 λv H'=>Ext H0 H' nm/\((v=.nils/\sv=.nils)∨∃ s cs,sv≠.nils/\v=.slice nm g 0 (l.filter λx=>!del x).length 2 none/\H'.get nm=some (.row (cPs (l.filter λx=>!del x)++cs) e g s 0 ex)/\s<=g):=by
 have X0:Ext H0 H0 nm:=⟨zN _,rfl,rfl,λ_ _ _=>rfl,ae⟩;refine qb3 ad zsb rfl ((?_:∀ f0:Fr,f0.tmp 0=some sv->f0.tmp 1=some dv->f0.n=42->f0.defers=[]->Wp (cfg sp).E 75 none (qa8 75) f0 H0 _) _ (zp rfl) (zp rfl) rfl rfl);intro f0 a0 a1 n0 d0;rw [zhg];refine za (zt zs9 (go1 rfl (by omega) (qy rfl (v:=.nils) rfl) λf1 u1=>qz (qk ?_)));have n1:=u1.n.trans n0;refine za (zt zta ?_);refine go1 rfl (by omega) (zf rfl (qe (u1.ne a0))) λf2 u2=>?_;have n2:=u2.n.trans n1;refine go1 rfl (by omega) (zf rfl (qe (u2.ne (u1.ne a1)))) λf3 u3=>?_;have n3:=u3.n.trans n2;refine qx3 rfl (by omega) (qe7 rfl rfl rfl (zg (qe (u3.ne u2.get)) (zg (qe u3.get) jn)) rfl) (q5r hs hl X0 D U) λv H1 hv f4 u4=>?_;have n4:=u4.n.trans n3;obtain ⟨kp,af,hv⟩:=hv;have X1:=X0.keeps kp af;refine go1 rfl (by omega) (qy rfl (qe u4.get)) λf5 u5=>qz (qk ?_);have n5:=u5.n.trans n4;have s0:f5.tmp 0=some sv:=u5.ne (u4.ne (u3.ne (u2.ne (u1.ne a0))));have s1:f5.tmp 1=some dv:=u5.ne (u4.ne (u3.ne (u2.ne (u1.ne a1))));have s5:=u5.get;have d5:f5.defers=[]:=by rw [u5.ds,u4.ds,u3.ds,u2.ds,u1.ds,d0]
 refine za (za (zt ztb ?_));refine go1 rfl (by omega) (zf rfl (qe s5)) λf6 y=>?_;have n6:=y.n.trans n5;rcases hv with ⟨rfl,a3⟩ | ⟨k,rfl,hk,ag,a4⟩
 .have he:jb .eql .i64 (-1) (-1)=some (.bool true):=by simp [jb]
  refine go1 rfl (by omega) (qbn rfl ⟨by simp,by simp⟩ (qe y.get) (j:=-1) rfl he) λf7 u=>qz (qk ?_);have n7:=u.n.trans n6;refine qdj (qe u.get) (za (zt ztc ?_));refine go1 rfl (by omega) (zf rfl (qe (u.ne (y.ne s0)))) λf8 A=>?_;have n8:=A.n.trans n7;refine go1 rfl (by omega) (qy rfl (qe A.get)) λf9 C=>qz (qk (qhw (qy8 ?_)));have o:(l.filter λx=>!del x)=l:=List.filter_eq_self.2 λx B=>by rw [a3 x B];rfl
  refine ⟨.inr rfl,H1,by rw [C.ds,A.ds,u.ds,y.ds,d5];rfl,[sv],qc4 C.get qeg,X1,?_⟩;rcases U with ⟨rfl,h⟩ | ⟨rfl,hr,hf,W⟩
  .exact .inl ⟨rfl,rfl⟩
  .refine .inr ⟨fl,[],by simp,by rw [o];rfl,?_,hf⟩;rw [o,zJ,kp.old nm W];exact hr
 .rcases U with ⟨_,rfl⟩ | ⟨rfl,hr,hf,W⟩
  .cases hk
  have he:jb .eql .i64 (k:Int) (-1)=some (.bool false):=by
   simp [jb]
  refine go1 rfl (by omega) (qbn rfl ⟨by simp,by simp⟩ (qe y.get) (j:=-1) rfl he) λf7 u=>qz (qk ?_);have n7:=u.n.trans n6;refine qb8 (qe u.get) (qej (qk ?_));refine za (za (zt ztd ?_));refine go1 rfl (by omega) (zf rfl (qe (u.ne (y.ne s5)))) λf8 A=>?_;have n8:=A.n.trans n7;refine go1 rfl (by omega) (qbn rfl ⟨by simp,by simp⟩ (qe A.get) (j:=1) rfl (qwv (by omega) (by omega))) λf9 C=>?_;have n9:=C.n.trans n8;refine go1 rfl (by omega) (qy rfl (qe C.get)) λfa ua=>qz (qk ?_);have na:=ua.n.trans n9;have Y:l.take k=(l.take (k+1)).filter λx=>!del x:=by
   rw [List.take_add_one,List.getElem?_eq_getElem hk,List.filter_append,List.filter_eq_self.2 λx B=>by rw [ag x B];rfl];simp [a4]
  refine qah (qij (zre l del H0 nm g e ex dv)
   ⟨k+1,k,l,fl,rfl,Nat.lt_succ_self _,hk,rfl,Y,rfl,X1,(kp.old nm W).trans hr,hf,ua.ne (C.ne (A.ne (u.ne (y.ne s0)))),ua.ne (C.ne (A.ne (u.ne (y.ne s1)))),ua.ne (C.ne (A.ne (u.ne (y.ne s5)))),ua.get,na,by rw [ua.ds,C.ds,A.ds,u.ds,y.ds,d5]⟩ ?_)
  rintro m fr H' ⟨j,i,r,fl,rfl,a5,au,w,F,a6,X,row,a7,t0,t1,t5,t6,n,ds⟩;have a8:jb .lss .i64 j l.length=some (.bool (decide ((j:Int)<l.length))):=by simp [jb]
  refine za (za (zt zte ?_));refine go1 rfl (by omega) (zf rfl (qe t6)) λg1 G=>?_;have m1:=G.n.trans n;refine go1 rfl (by omega) (zf rfl (qe (G.ne t0))) λg2 H=>?_;have m2:=H.n.trans m1;refine go1 rfl (by omega) (qi0 rfl rfl rfl rfl qh1 qmu (qe H.get)) λg3 I=>?_;have m3:=I.n.trans m2;refine go1 rfl (by omega) (qbn rfl ⟨by simp,by simp⟩ (qe (I.ne (H.ne G.get))) (qe I.get) a8) λg4 Q=>qz (qk ?_);have m4:=Q.n.trans m3;have c0:=Q.ne (I.ne (H.ne (G.ne t0)));have c1:=Q.ne (I.ne (H.ne (G.ne t1)));have c5:=Q.ne (I.ne (H.ne (G.ne t5)));have c6:=Q.ne (I.ne (H.ne (G.ne t6)));have cd:g4.defers=[]:=by rw [Q.ds,I.ds,H.ds,G.ds,ds]
  have J:=Q.get;clear G H I Q m1 m2 m3;by_cases B:j<l.length
  .rw [show decide ((j:Int)<l.length)=true by simpa using B] at J;refine qdj (qe J) (qej (qk ?_));refine za (qah (za (zt ztg ?_)));have a9:j<r.length:=by omega
   have ah:r[j]=l[j]:=by
    have h1:=congrArg (λz=>z[0]?) a6;simpa [B,a9] using h1
   refine go1 rfl (by omega) (zf rfl (qe c0)) λh1 a=>?_;have p1:=a.n.trans m4;refine go1 rfl (by omega) (zf rfl (qe (a.ne c6))) λh2 b=>?_;have p2:=b.n.trans p1;have K:kj (tyP 73).size (.slice nm g 0 l.length 2 none) (.int .i64 (j:Int))=some (.ptr nm g (j * 2) (l.length * 2)):=by
    rw [qox];simp [kj,B]
   refine go1 rfl (by omega) (qc0 rfl qh1 qmu qh2 (qe (b.ne a.get)) (qe b.get) K) λh3 c=>?_;have p3:=c.n.trans p2;refine go1 rfl (by omega) (jm rfl qh2 (qe c.get) (q3c row a7 w.symm a9)) λh4 f=>?_;have p4:=f.n.trans p3;rw [ah] at f;refine go1 rfl (by omega) (q5f rfl qh2) λh5 d=>?_;have p5:=d.n.trans p4;rw [zg4] at d ⊢;let Z:Heap:=z5 H' [.int .i64 0,.int .i64 0] 73;have ga:Z.get H'.next=some (.row (cPs [⟨0,0⟩]) 73 0 0 0 true):=zl
   have av:Z.next=H'.next+1:=qi
   have aa:Z.ro<=H'.next:=by
    rw [show Z.ro=H'.ro from qnh,X.ro];exact zR T.2 X.next
   have L:=zbc (n:=1) (i:=0) (x:=l[j]) ga aa rfl (by simp);refine zn8 rfl (qxo rfl qh2 (qe d.get) (qe (d.ne f.get)) L) (qz (qk ?_));let Hb:Heap:=Z.put H'.next (.row (cPs [l[j]]) 73 0 0 0 true)
   have gb:Hb.get H'.next=some (.row (cPs [l[j]]) 73 0 0 0 true):=zo
   have ai:nm<H'.next:=qkq X.wf row
   have R:Hb.get nm=some (.row (cPs r) e g fl 0 ex):=by
    rw [show Hb.get nm=Z.get nm from zd (by omega),show Z.get nm=H'.get nm from ke ai];exact row
   have Xb:Ext H0 Hb nm:=(X.new _).put _ (by rw [qi];omega) (.inr X.next);show Wp (cfg sp).E 75 none _ h5 Hb _;refine za (zt zth ?_);refine go1 rfl (by omega) (zf rfl (qe (d.ne (f.ne (c.ne (b.ne (a.ne c1))))))) λh6 p=>?_;have p6:=p.n.trans p5;have M:=q3c (n:=1) (j:=0) gb (zN 0) rfl (by simp);refine go1 rfl (by omega) (jm rfl qh2 (qe (p.ne d.get)) M) λh7 q=>?_;have p7:=q.n.trans p6;obtain ⟨fd,cap,rfl,hd⟩:=D;refine qx3 rfl (by omega) (zlf rfl (q.ne p.get) q.get) (hd Hb Xb l[j] (List.getElem_mem B)) λv H2 hv h8 N=>?_;obtain ⟨rfl,a2,aj⟩:=hv;have p8:=N.n.trans p7;have X2:=Xb.keeps a2 aj;have zcz:H2.get nm=some (.row (cPs r) e g fl 0 ex):=(a2.old nm (qkq Xb.wf R)).trans R;have ak:H2.get H'.next=some (.row (cPs [l[j]]) 73 0 0 0 true):=(a2.old _ (qkq Xb.wf gb)).trans gb
   refine go1 rfl (by omega) (q72 rfl (qe N.get)) λh9 O=>qz (qk ?_);have p9:=O.n.trans p8;have e0:h9.tmp 0=some (.slice nm g 0 l.length 2 none):=O.ne (N.ne (q.ne (p.ne (d.ne (f.ne (c.ne (b.ne (a.ne c0))))))));have e1:h9.tmp 1=some (.func (.func fd) [] cap):=O.ne (N.ne (q.ne (p.ne (d.ne (f.ne (c.ne (b.ne (a.ne c1))))))));have e5:h9.tmp 5=some (.int .i64 i):=O.ne (N.ne (q.ne (p.ne (d.ne (f.ne (c.ne (b.ne (a.ne c5))))))));have e6:h9.tmp 6=some (.int .i64 j):=O.ne (N.ne (q.ne (p.ne (d.ne (f.ne (c.ne (b.ne (a.ne c6))))))));have e7:h9.tmp 7=some (.ptr H'.next 0 0 2):=O.ne (N.ne (q.ne (p.ne d.get)));have ed:h9.defers=[]:=by rw [O.ds,N.ds,q.ds,p.ds,d.ds,f.ds,c.ds,b.ds,a.ds,cd]
   have P:=O.get;clear a b c f d p q N O p1 p2 p3 p4 p5 p6 p7 p8 L M K;have S:r.drop (j+1)=l.drop (j+1):=by
    have h1:=congrArg (List.drop 1) a6;simpa [List.drop_drop] using h1
   have o:(l.take (j+1)).filter (λx=>!del x)=r.take i++(if del l[j] then [] else [l[j]]):=by
    rw [List.take_add_one,List.getElem?_eq_getElem B,List.filter_append,<-F];cases t:del l[j]<;>simp [t]
   have fin:∀ {Qx:Ex->Fr->Heap->Prop} {i':Nat} {arr':List Played} {s:Nat} {h:Fr} {H3:Heap},i'<=j->arr'.length=l.length->arr'.take i'=(l.take (j+1)).filter (λx=>!del x)->arr'.drop (j+1)=l.drop (j+1)->Ext H0 H3 nm->H3.get nm=some (.row (cPs arr') e g s 0 ex)->s<=g->
     h.tmp 0=some (.slice nm g 0 l.length 2 none)->h.tmp 1=some (.func (.func fd) [] cap)->h.tmp 5=some (.int .i64 i')->h.tmp 6=some (.int .i64 j)->h.n=42->h.defers=[]->Wp (cfg sp).E 75 none (rg 75 6) h H3 (qte (λfr' H'=>∃ m',m'<l.length-j/\zre l del H0 nm g e ex (.func (.func fd) [] cap) m' fr' H') Qx):=by
    intro Qx i' arr' s h H3 q1 q2 q3 q4 q5 q6 q7 q8 q9 qa qb qc qd;refine zt ztf ?_;refine go1 rfl (by omega) (zf rfl (qe qb)) λy1 z1=>?_;have r1:=z1.n.trans qc;refine go1 rfl (by omega) (qbn rfl ⟨by simp,by simp⟩ (qe z1.get) (j:=1) rfl (qwv (by omega) (by omega))) λy2 z2=>?_;have r2:=z2.n.trans r1;refine go1 rfl (by omega) (qy rfl (qe z2.get)) λy3 z3=>qz (qk ?_);exact ⟨l.length-(j+1),by omega,j+1,i',arr',s,rfl,by omega,B,q2,q3,q4,q5,q6,q7,z3.ne (z2.ne (z1.ne q8)),z3.ne (z2.ne (z1.ne q9)),z3.ne (z2.ne (z1.ne qa)),z3.get,z3.n.trans r2,by rw [z3.ds,z2.ds,z1.ds,qd]⟩
   cases t:del l[j] with
   | true=>
    rw [t] at P o;refine qb8 (qe P) (qej (qa3 (qk ?_)));exact fin (Nat.le_of_lt a5) w (by rw [o];simp) S X2 zcz a7 e0 e1 e5 e6 p9 ed
   | false=>
    rw [t] at P o;refine qdj (qe P) (za (zt zti ?_));refine go1 rfl (by omega) (zf rfl (qe e0)) λh1 a=>?_;have p1:=a.n.trans p9;refine go1 rfl (by omega) (zf rfl (qe (a.ne e5))) λh2 b=>?_;have p2:=b.n.trans p1;have M:=q3c (n:=1) (j:=0) ak (zN 0) rfl (by simp);refine go1 rfl (by omega) (jm rfl qh2 (qe (b.ne (a.ne e7))) M) λh3 c=>?_;have p3:=c.n.trans p2;have K:kj (tyP 73).size (.slice nm g 0 l.length 2 none) (.int .i64 (i:Int))=some (.ptr nm g (i * 2) (l.length * 2)):=by
     rw [qox];have:i<l.length:=by omega
     simp [kj,this]
    refine go1 rfl (by omega) (qc0 rfl qh1 qmu qh2 (qe (c.ne (b.ne a.get))) (qe (c.ne b.get)) K) λh4 f=>?_;have p4:=f.n.trans p3;have L:=zbc (x:=l[j]) zcz (by rw [X2.ro];exact T.1) w.symm (i:=i) (by omega);refine zn8 rfl (qxo rfl qh2 (qe f.get) (qe (f.ne c.get)) L) (qz (qk ?_));refine zt zpf ?_;refine go1 rfl (by omega) (zf rfl (qe (f.ne (c.ne (b.ne (a.ne e5)))))) λh5 d=>?_;have p5:=d.n.trans p4;refine go1 rfl (by omega) (qbn rfl ⟨by simp,by simp⟩ (qe d.get) (j:=1) rfl (qwv (by omega) (by omega))) λh6 p=>?_;have p6:=p.n.trans p5;refine go1 rfl (by omega) (qy rfl (qe p.get)) λh7 q=>qz (qa3 (qk ?_));refine fin (i':=i+1) (arr':=r.set i l[j]) a5 (by rw [List.length_set];exact w) ?_ ?_ (X2.put _ (qkq X2.wf zcz) (.inl rfl)) zo (zN g) (q.ne (p.ne (d.ne (f.ne (c.ne (b.ne (a.ne e0))))))) (q.ne (p.ne (d.ne (f.ne (c.ne (b.ne (a.ne e1))))))) q.get (q.ne (p.ne (d.ne (f.ne (c.ne (b.ne (a.ne e6))))))) (q.n.trans p6) (by rw [q.ds,p.ds,d.ds,f.ds,c.ds,b.ds,a.ds,ed])
    .rw [o,List.take_add_one,List.take_set_of_le (zN i),List.getElem?_set_self (by omega)];simp
    .rw [List.drop_set_of_lt (by omega)];exact S
  .obtain rfl:j=l.length:=by omega
   rw [show decide ((l.length:Int)<l.length)=false by simp] at J;refine qb8 (qe J) (qtj (qgm (qgm (qfb (qk ?_)))));rw [List.take_length] at F;have al:i=(l.filter λx=>!del x).length:=by
    rw [<-F,List.length_take];omega
   refine za (zt zpg ?_);refine go1 rfl (by omega) (zf rfl (qe c0)) λh1 a=>?_;have p1:=a.n.trans m4;refine go1 rfl (by omega) (zf rfl (qe (a.ne c5))) λh2 b=>?_;have p2:=b.n.trans p1;have ab:i<=l.length:=by omega
   have an:qbe (tyP 73).size (.slice nm g 0 l.length 2 none) (some (.int .i64 (i:Int))) none none=some (.slice nm g (i * 2) (l.length-i) 2 none):=by
    rw [qox];simp [qbe,V.qb2,qdv,jx,ab]
   have ao:qbe (tyP 73).size (.slice nm g 0 l.length 2 none) none (some (.int .i64 (i:Int))) none=some (.slice nm g 0 i 2 none):=by
    rw [qox];simp [qbe,V.qb2,qdv,jx,ab]
   refine go1 rfl (by omega) (qt0 rfl qh1 qmu qh2 (qe (b.ne a.get)) (qup (qe b.get)) q1e an) λh3 c=>?_;have p3:=c.n.trans p2;obtain ⟨cs,aq⟩:=zhv (sp:=sp) row (by rw [X.ro];exact T.1) w.symm (i:=i) (by omega);have ar:zb (cfg sp).E (norm (none,.call ⟨.builtin .clear,#[.tmp 38],#[69]⟩)) h3 H'=some (.val (.tuple []),H'.put nm (.row (cPs (r.take i)++cs) e g g 0 ex)):=by
    have ha:qay h3 H' (#[Operand.tmp 38]:Array Operand).toList=some [.slice nm g (i * 2) (l.length-i) 2 none]:=zg (qe c.get) jn;simp only [zb,norm,ha,zB];exact aq
   refine zu6 rfl ar (qz (qk ?_));refine za (zt zph ?_);refine go1 rfl (by omega) (zf rfl (qe (c.ne (b.ne (a.ne c0))))) λh4 f=>?_;have p4:=f.n.trans p3;refine go1 rfl (by omega) (zf rfl (qe (f.ne (c.ne (b.ne (a.ne c5)))))) λh5 d=>?_;have p5:=d.n.trans p4;refine go1 rfl (by omega) (qt0 rfl qh1 qmu qh2 (qe (d.ne f.get)) q1e (qup (qe d.get)) ao) λh6 p=>?_;have p6:=p.n.trans p5;refine go1 rfl (by omega) (qy rfl (qe p.get)) λh7 q=>qz (qk (qhw ?_));refine ⟨.inr rfl,_,by rw [q.ds,p.ds,d.ds,f.ds,c.ds,b.ds,a.ds,cd];rfl,[.slice nm g 0 i 2 none],qc4 q.get qeg,X.put _ (qkq X.wf row) (.inl rfl),.inr ⟨g,cs,by simp,by rw [<-al];rfl,?_,zN g⟩⟩;rw [zo,F]
variable {sp:Nat->Option (List V->Heap->Option (CR×Heap))}
theorem zgu:(cfg sp).E.types 24=some (tyP 24):=by kernel_rfl
theorem zlv:(tyP 24).size=2:=by kernel_rfl
theorem zkj:(tyP 24).isAgg=true:=by kernel_rfl
theorem q9o {w:Wd} {cs:List V}:∀ {l:List Played},cs.length=l.length * 2->(∀ i (h:i<l.length) (j:Nat) (p:PV KT),(XK.cells 18 (l[i]'h))[j]? = some p->Rep XK szK w p (cs.getD (i * 2+j) zs))->cs=cPs l
 | [],h,_=>List.length_eq_zero_iff.1 (by simpa using h)
 | x::l,h,c=>by
  match cs,h with
  | a::b::cs,h=>
   have d:=c 0 (by simp) 0 (.int .i64 none x.Sign) rfl;have e:=c 0 (by simp) 1 (.int .i64 none x.Pass) rfl;cases d;cases e;have f:cs=cPs l:=q9o (w:=w) (by simp only [List.length_cons] at h;omega) λi hi j p g=>by
    have:=c (i+1) (by simp;omega) j p (by simpa using g);rw [show (i+1) * 2+j=(i * 2+j)+2 by omega] at this;exact this
   rw [qk0,f];rfl
  | [],h=>simp at h
  | [_],h=>simp at h;omega
theorem zjw (X:qt (cfg sp)) {nm:ZB} {l:List Sign} {us:List Played} {e:Int} {keep:Played->Bool} (hlen:us.length<=1000000000) (hU:q7g XK szK (cfg sp) 74 [.agg [.str nm,.list 4 l none]] 18 us e)
  (hC:∀ x ∈ us,qhp XK szK (cfg sp) 76 [.agg [.int .i64 none x.Sign,.int .i64 none x.Pass],.eptr [.str nm,.list 4 l none] 0] (.sb 0 false (!keep x) ((!keep x)=true) ((!keep x)=false))) :
  qhp XK szK (cfg sp) 54 [.agg [.str nm,.list 4 l none]] (.list 18 (us.filter keep) none):=by
 intro H M vs S ra;obtain ⟨va,ai,rfl,r1,rn⟩:=ra.zk;rw [rn.z6];obtain ⟨ws,rfl,z⟩:=r1.qcw;obtain ⟨C,ws,rfl,q1,z⟩:=z.zk;obtain ⟨D,ws,rfl,q2,z⟩:=z.zk;have hw:=z.z6;subst hw;have hh:isHole C=false/\isHole D=false:=by
  constructor
  .cases q1;rfl
  .cases q2<;>rfl
 refine qb3 (X.1 54 rfl) zr9 rfl ((?_:∀ Y:Fr,Y.tmp 0=some (.agg [C,D])->Y.n=13->Y.defers=[]->Wp (cfg sp).E 54 none (qa8 54) Y H _) _ (zp rfl) rfl rfl);intro Y a0 n0 d0;rw [zhe];refine za (zt zsw ?_);refine go1 rfl (by omega) (qiz rfl (qe a0)) λf1 Z=>?_;have n1:=Z.n.trans n0;refine go1 rfl (by omega) (qy rfl (v:=.nils) rfl) λf2 u2=>qz (qk ?_);have n2:=u2.n.trans n1;let H1:Heap:=z5 H [C,D] 24;have O:Keeps H H1:=(Keeps.refl H).new _;have a5:∀ n,H1.next<=n->H1.get n=none:=(Ext.new (nm:=H.next) ⟨zN _,rfl,rfl,λ_ _ _=>rfl,S.wf⟩ _).wf
 have ga:H1.get H.next=some (.row [C,D] 24 0 0 0 true):=zl
 have aj:H1.next=H.next+1:=qi
 have S1:Go.E3.Start XK szK (cfg sp) H1 M:=S.next zi ze O a5 (λ_ _=>.rfl) λn h=>zL (S.Mlt n h) O.next
 have a6:Plain (.agg [.str nm,.list 4 l none]:PV KT):=.agg (qa4 rfl);have a1:Plain (.list 4 l none:PV KT):=.list;have a7:ql XK szK (wd0 H1 M (cfg sp).codec) [.agg [.str nm,.list 4 l none]] [.agg [C,D]]:=ql.cons (S.rep zi ze O (λ_ _=>.rfl) a6 r1) .nil;have a8:jr H1 (tyP 24) (.ptr H.next 0 0 2)=some (.agg [C,D]):=by
  have h2:zq H1 2 (.ptr H.next 0 0 2)=some [C,D]:=by
   simp [zq,ga,qef,hh.1,hh.2];rfl
  simp only [jr,zlv,h2,zB,zkj,zO]
 refine za (zt zsx ?_);refine go1 rfl (by omega) (jm rfl zgu (qe (u2.ne Z.get)) a8) λf3 u3=>?_;have n3:=u3.n.trans n2;refine qx3 rfl (by omega) (qe7 rfl rfl rfl (zg (qe u3.get) jn) rfl) (hU H1 M _ S1 a7) λv J s f4 u4=>?_;have n4:=u4.n.trans n3;obtain ⟨k2,K,u,w',rfl,wg,_,hu⟩:=s;refine go1 rfl (by omega) (zf rfl (qe u4.get)) λf5 Q=>?_;have n5:=Q.n.trans n4;refine go1 rfl (by omega) (qfd rfl (qe Q.get) (v:=u) rfl) λf6 R=>?_;have n6:=R.n.trans n5;refine go1 rfl (by omega) (qfd rfl (qe (R.ne Q.get)) (v:=.int .i64 e) rfl) λf7 T=>?_;have n7:=T.n.trans n6;refine go1 rfl (by omega) (qy rfl (qe (T.ne R.get))) λf8 U=>?_;have n8:=U.n.trans n7;refine go1 rfl (by omega) (qy rfl (qe (U.ne T.get))) λf9 u9=>qz (qk ?_);have n9:=u9.n.trans n8;refine za (zt zsy ?_);refine go1 rfl (by omega) (zf rfl (qe (u9.ne U.get))) λfa ua=>?_;have na:=ua.n.trans n9;have t1:fa.tmp 1=some (.ptr H.next 0 0 2):=ua.ne (u9.ne (U.ne (T.ne (R.ne (Q.ne (u4.ne (u3.ne (u2.ne Z.get))))))));refine go1 rfl (by omega) (qnc rfl jn (zg (qe t1) jn)) λfb ub=>?_;have nb:=ub.n.trans na;have a:=O.trans k2;have F:∀ A,H1.next<=A->zl3 (cfg sp).E J A us (λx=>!keep x) (.func (.func 76) [] [.ptr H.next 0 0 2]):=by
  intro A B;refine ⟨76,[.ptr H.next 0 0 2],rfl,λq f x hx=>?_⟩;have k3:Keeps H q:=⟨zR a.next f.next,f.ro.trans a.ro,f.qp.trans a.qp,λm y=>(f.old m (zL y a.next) (by omega)).trans (a.old m y)⟩;have a9:q.get H.next=some (.row [C,D] 24 0 0 0 true):=by
   rw [f.old H.next (by have:=k2.next;omega) (by omega),k2.old H.next (by omega)];exact ga
  have S3:Go.E3.Start XK szK (cfg sp) q M:=S.next zi ze k3 f.wf (λ_ _=>.rfl) λn h=>zL (S.Mlt n h) k3.next
  have hM:¬ M H.next:=λh=>by have:=S.Mlt _ h;omega
  have re:Rep XK szK (wd0 q M (cfg sp).codec) (.eptr [.str nm,.list 4 l none] 0) (.ptr H.next 0 0 2):=by
   refine Rep.eptr (d:=0) (lim:=2) (off:=0) (gn:=0) a9 (Nat.zero_le _) hM (zN 2) (zN 2) λj p r=>?_
   match j,r with
   | 0,r=>cases r;cases q1;exact .str
   | 1,r=>cases r;exact S.rep zi ze k3 (λ_ _=>.rfl) a1 q2
  refine (hC x hx q M _ S3 (ql.cons (.qqq (ql.cons (.int λm y=>by cases y) (ql.cons (.int λm y=>by cases y) .nil))) (ql.cons re .nil))).mono λv H4 hA=>?_;obtain ⟨w4,hA⟩:=hA;have hr:=hA.rep;cases hr;exact ⟨rfl,hA.keeps,hA.wf⟩
 have L:J.ro<=J.next:=by rw [a.ro];exact zR S.ro.1 a.next
 have fin:∀ {v:V} {q:Heap} {A:Nat},H1.next<=A->Ext J q A->(∀ w:Wd,w.g=q.get->(∀ n,w.M n->M n)->Rep XK szK w (.list 18 (us.filter keep) none) v)->∃ w',Answer XK szK (cfg sp) H M (.list 18 (us.filter keep) none) 0 v q w':=by
  intro v q A B f hr;let w3:Wd:={g:=q.get,M:=M,c:=λ_=>0,nu:=λ_=>false,n:=0,owns:=λ_=>some 0,eta:=λ_=>none,ce:=(cfg sp).codec,cl:=λ_=>False,nx:=q.next,b:=H.next,lp:=λ_=>none,fl:=0};exact ⟨w3,⟨zR a.next f.next,f.ro.trans a.ro,f.qp.trans a.qp,λm y=>(f.old m (zL y a.next) (by omega)).trans (a.old m y)⟩,f.wf,rfl,λ_ _=>.rfl,
   λn h=>zL (S.Mlt n h) (zR a.next f.next),rfl,rfl,λ_=>rfl,λi nm h=>(by cases h),λi j nm h=>(by cases h),hr w3 rfl λ_ h=>h⟩
 have G:=qe7 (E:=(cfg sp).E) (fr:=fb) (H:=J) (o:=norm (some 12,.call ⟨.value (.func 75),#[.tmp 10,.tmp 11],#[69,120]⟩)) (t:=.func 75) rfl rfl rfl (zg (qe (ub.ne ua.get)) (zg (qe ub.get) jn)) rfl;rcases hu with ⟨rfl,aa⟩ | ⟨A,g,cs,ee,fl,ex,rfl,B,I,ab,ad,ae⟩
 .subst aa;refine qx3 rfl (by omega) G (qrw (nm:=J.next) (g:=0) (fl:=0) (e:=0) (ex:=false) (X.1 100 rfl) (X.1 75 rfl) hlen ⟨L,L⟩ K (F _ k2.next) (.inl ⟨rfl,rfl⟩)) λv q s fc N=>?_;have nc:=N.n.trans nb;refine go1 rfl (by omega) (qy rfl (qe N.get)) λfd W=>qz (qk (qhw ?_));obtain ⟨f,s⟩:=s;have s:v=.nils:=by
   rcases s with ⟨h,_⟩ | ⟨_,_,h,_⟩
   .exact h
   .exact absurd rfl h
  subst s;exact ⟨.inr rfl,q,by rw [W.ds,N.ds,ub.ds,ua.ds,u9.ds,U.ds,T.ds,R.ds,Q.ds,u4.ds,u3.ds,u2.ds,Z.ds,d0];rfl,[.nils],qc4 W.get qeg,fin k2.next f λw _ _=>.nlist trivial⟩
 .obtain rfl:=q9o ad ae;have af:J.ro<=A:=by rw [a.ro];have:=S.ro.1;have:=O.next;omega
  refine qx3 rfl (by omega) G (qrw (X.1 100 rfl) (X.1 75 rfl) hlen ⟨af,L⟩ K (F _ B) (.inr ⟨rfl,I,ab,qkq K I⟩)) λv q s fc N=>?_;have nc:=N.n.trans nb;refine go1 rfl (by omega) (qy rfl (qe N.get)) λfd W=>qz (qk (qhw ?_));obtain ⟨f,s⟩:=s;rcases s with ⟨_,h⟩ | ⟨ak,cs,_,rfl,a2,ag⟩
  .cases h
  have ah:(us.filter λx=>!!keep x)=us.filter keep:=by simp
  rw [ah] at a2 W;refine ⟨.inr rfl,q,by rw [W.ds,N.ds,ub.ds,ua.ds,u9.ds,U.ds,T.ds,R.ds,Q.ds,u4.ds,u3.ds,u2.ds,Z.ds,d0];rfl,[_],qc4 W.get qeg,fin B f λw wg wM=>?_⟩;have al:=qjo (us.filter keep);have a3:szK 18=2:=rfl;refine .list (by rw [wg];exact a2) ag (λh=>by have:=S.Mlt _ (wM _ h);have:=O.next;omega) rfl (by rw [List.length_append,a3];omega) ⟨by decide,.inl rfl⟩ (λk h=>by cases h) (λi hi j p r=>?_) trivial;have hi:i<List.length (α:=Played) (us.filter keep):=hi;have r:[P.int .i64 none ((us.filter keep)[i]'hi).Sign,P.int .i64 none ((us.filter keep)[i]'hi).Pass][j]? = some p:=r;have hj:=(List.getElem?_eq_some_iff.1 r).1;have a4:((cPs (us.filter keep)++cs).drop (i * 2)).take 2=cP ((us.filter keep)[i]'hi):=by
   rw [List.drop_append_of_le_length (by omega),List.take_append_of_le_length (by rw [List.length_drop];omega)];exact qwe hi
  have s:(cPs (us.filter keep)++cs).getD (0+i * szK 18+j) zs=(cP ((us.filter keep)[i]'hi)).getD j zs:=by
   rw [<-a4,a3,Nat.zero_add,List.getD_eq_getElem?_getD,List.getD_eq_getElem?_getD,List.getElem?_take_of_lt (by simpa using hj),List.getElem?_drop]
  rw [s]
  match j,hj,r with
  | 0,_,r=>cases r;exact .int λm y=>by cases y
  | 1,_,r=>cases r;exact .int λm y=>by cases y
end Go.Proofs.YtpofmogdhigakaaGreatDoor
