import Derived.Test.YtpofmogdhigakaaGreatDoorDel
import Derived.Test.YtpofmogdhigakaaGreatDoorM7
import Derived.Test.YtpofmogdhigakaaGreatDoorDall
import Derived.Test.YtpofmogdhigakaaGreatDoorFin
namespace Go.Proofs.YtpofmogdhigakaaGreatDoor
open Go Go.E2 Go.E3
set_option maxRecDepth 100000
variable {sp:Nat->Option (List V->Heap->Option (CR×Heap))}
theorem zsa:(cfg sp).E.funcs 74=some ⟨some (qa8 74),0,40,[.tmp 2,.tmp 3]⟩:=by kernel_rfl
theorem zhf:qa8 74=.seq (rg 74 0) (.seq (.seq (rg 74 1) (.seq (rg 74 2) (.cond (.tmp 18) (.seq (rg 74 3) .ret) .skip))) (.seq (rg 74 4) (.seq (rg 74 5) (.seq (.seq (rg 74 6) (.block 0 (.rangeFunc (.tmp 30) #[31,32] (.seq (rg 74 7) (rg 74 8)) (.block 1 (rg 74 9))))) (.seq (rg 74 10) .ret))))):=by kernel_rfl
theorem zsz:jo (rg 74 0)=some [(some 1,.box 24 (.tmp 0)),(some 2,.assign (.const (.slice none 0 0))),(some 3,.assign (.const (.int .i64 0)))]:=by kernel_rfl
theorem zs0:jo (rg 74 1)=some [(some 13,.load 24 (.tmp 1)),(some 14,.call ⟨.value (.func 38),#[(.tmp 13)],#[24]⟩),(some 12,.move (.tmp 14)),(some 15,.extract (.tmp 12) 0),(some 16,.extract (.tmp 12) 1),(some 4,.assign (.tmp 15)),(some 5,.assign (.tmp 16))]:=by kernel_rfl
theorem zs1:jo (rg 74 2)=some [(some 17,.move (.tmp 4)),(some 18,.binOp .neq 30 (.tmp 17) (.const (.int .i64 0)) 30)]:=by kernel_rfl
theorem zs2:jo (rg 74 3)=some [(some 19,.move (.tmp 4)),(some 2,.assign (.const (.slice none 0 0))),(some 3,.assign (.tmp 19))]:=by kernel_rfl
theorem zs3:jo (rg 74 4)=some [(some 21,.fieldAddr 24 (.tmp 1) 1),(some 22,.load 22 (.tmp 21)),(some 23,.call ⟨.value (.func 62),#[(.tmp 22)],#[22]⟩),(some 20,.move (.tmp 23)),(some 24,.extract (.tmp 20) 0),(some 25,.extract (.tmp 20) 1),(some 26,.extract (.tmp 20) 2),(some 6,.assign (.tmp 24)),(some 7,.assign (.tmp 25)),(some 8,.assign (.tmp 26))]:=by kernel_rfl
theorem zs4:jo (rg 74 5)=some [(some 9,.alloc 69)]:=by kernel_rfl
theorem zs5:jo (rg 74 6)=some [(some 27,.fieldAddr 24 (.tmp 1) 1),(some 28,.load 22 (.tmp 27)),(some 29,.move (.tmp 6)),(some 30,.call ⟨.value (.func 99),#[(.tmp 28),(.const (.int .i64 0)),(.tmp 29)],#[22,3,109]⟩)]:=by kernel_rfl
theorem zs6:jo (rg 74 7)=some [(some 10,.assign (.tmp 31))]:=by kernel_rfl
theorem zs7:jo (rg 74 8)=some [(some 11,.assign (.tmp 32))]:=by kernel_rfl
theorem zs8:jo (rg 74 9)=some [(some 33,.load 69 (.tmp 9)),(some 34,.move (.tmp 10)),(some 35,.move (.tmp 11)),(some 36,.build 73 #[(0,(.tmp 34)),(1,(.tmp 35))]),(some 37,.buildSlice 69 1 #[(0,(.tmp 36))]),(some 38,.call ⟨.builtin .append,#[(.tmp 33),(.tmp 37)],#[69,69]⟩),(none,.store 69 (.tmp 9) (.tmp 38))]:=by kernel_rfl
theorem zpe:jo (rg 74 10)=some [(some 39,.load 69 (.tmp 9)),(some 2,.assign (.tmp 39)),(some 3,.assign (.const (.int .i64 0)))]:=by kernel_rfl
theorem zsc:(cfg sp).E.funcs 99=some ⟨some (qa8 99),0,8,[.tmp 6]⟩:=by kernel_rfl
theorem zhh:qa8 99=.seq (rg 99 0) (.seq (rg 99 1) .ret):=by kernel_rfl
theorem ztj:jo (rg 99 0)=some [(some 3,.box 22 (.tmp 0)),(some 4,.box 3 (.tmp 1)),(some 5,.box 109 (.tmp 2)),(some 6,.assign (.const .nilFunc))]:=by kernel_rfl
theorem ztk:jo (rg 99 1)=some [(some 7,.makeFunc (.func 116) #[] #[(.tmp 3),(.tmp 5),(.tmp 4)]),(some 6,.assign (.tmp 7))]:=by kernel_rfl
theorem zee:(cfg sp).E.funcs 116=some ⟨some (qa8 116),0,84,[]⟩:=by kernel_rfl
theorem zro:qa8 116=.seq (rg 116 0) (.seq (rg 116 1) (.seq (.seq (rg 116 2) (.cond (.tmp 18) (rg 116 3) .skip)) (.seq (.seq (rg 116 4) (.block 0 (.rangeFunc (.tmp 28) #[29,30] (.seq (rg 116 5) (rg 116 6)) (.block 1 (.seq (rg 116 7) (.cond (.tmp 35) .ret .skip)))))) (.seq (.seq (rg 116 8) (.cond (.tmp 38) .ret .skip)) (.seq (rg 116 9) (.seq (.seq (rg 116 10) (.block 2 (.loop (.seq (rg 116 11) (.seq (.cond (.tmp 47) .skip (.exit 2)) (.seq (.block 3 (.seq (rg 116 12) (.seq (rg 116 13) (.block 4 (.rangeFunc (.tmp 59) #[60,61] (.seq (rg 116 14) (rg 116 15)) (.block 5 (.seq (rg 116 16) (.cond (.tmp 66) .ret .skip)))))))) (rg 116 17))))))) (.seq (rg 116 18) (.block 6 (.rangeFunc (.tmp 76) #[77,78] (.seq (rg 116 19) (rg 116 20)) (.block 7 (.seq (rg 116 21) (.cond (.tmp 83) .ret .skip)))))))))))):=by kernel_rfl
theorem zoy:jo (rg 116 0)=some [(some 4,.box 174 (.tmp 0))]:=by kernel_rfl
theorem zoz:jo (rg 116 1)=some [(some 14,.load 22 (.tmp 1)),(some 15,.call ⟨.builtin .len,#[(.tmp 14)],#[22]⟩),(some 5,.assign (.tmp 15))]:=by kernel_rfl
theorem zo0:jo (rg 116 2)=some [(some 16,.load 109 (.tmp 2)),(some 17,.call ⟨.builtin .len,#[(.tmp 16)],#[109]⟩),(some 18,.binOp .gtr 3 (.tmp 17) (.const (.int .i64 0)) 3)]:=by kernel_rfl
theorem zo1:jo (rg 116 3)=some [(some 19,.load 109 (.tmp 2)),(some 20,.indexAddr 109 (.tmp 19) (.const (.int .i64 0))),(some 21,.load 135 (.tmp 20)),(some 22,.nilCheck (.tmp 21)),(some 23,.fieldAddr 125 (.tmp 22) 0),(some 24,.load 3 (.tmp 23)),(some 5,.assign (.tmp 24))]:=by kernel_rfl
theorem zo2:jo (rg 116 4)=some [(some 25,.load 22 (.tmp 1)),(some 26,.load 3 (.tmp 3)),(some 27,.move (.tmp 5)),(some 28,.call ⟨.value (.func 117),#[(.tmp 25),(.tmp 26),(.tmp 27),(.const (.int .i64 0))],#[22,3,3,3]⟩)]:=by kernel_rfl
theorem zo3:jo (rg 116 5)=some [(some 6,.assign (.tmp 29))]:=by kernel_rfl
theorem zo4:jo (rg 116 6)=some [(some 7,.assign (.tmp 30))]:=by kernel_rfl
theorem zo5:jo (rg 116 7)=some [(some 31,.load 174 (.tmp 4)),(some 32,.move (.tmp 6)),(some 33,.move (.tmp 7)),(some 34,.call ⟨.value (.tmp 31),#[(.tmp 32),(.tmp 33)],#[3,3]⟩),(some 35,.unOp .not 4 (.tmp 34))]:=by kernel_rfl
theorem zes:jo (rg 116 8)=some [(some 36,.load 109 (.tmp 2)),(some 37,.call ⟨.builtin .len,#[(.tmp 36)],#[109]⟩),(some 38,.binOp .eql 3 (.tmp 37) (.const (.int .i64 0)) 3)]:=by kernel_rfl
theorem zo6:jo (rg 116 9)=some [(some 39,.load 109 (.tmp 2)),(some 40,.indexAddr 109 (.tmp 39) (.const (.int .i64 0))),(some 41,.load 135 (.tmp 40)),(some 8,.assign (.tmp 41))]:=by kernel_rfl
theorem zib:jo (rg 116 10)=some [(some 42,.move (.tmp 8)),(some 43,.nilCheck (.tmp 42)),(some 44,.fieldAddr 125 (.tmp 43) 2),(some 45,.load 3 (.tmp 44)),(some 46,.move (.const (.int .i64 0)))]:=by kernel_rfl
theorem zic:jo (rg 116 11)=some [(some 47,.binOp .lss 3 (.tmp 46) (.tmp 45) 3)]:=by kernel_rfl
theorem zid:jo (rg 116 12)=some [(some 48,.move (.tmp 46)),(some 9,.assign (.tmp 48))]:=by kernel_rfl
theorem zie:q8g (rg 116 13)=some (true,[(some 49,.load 22 (.tmp 1),none),(some 50,.move (.tmp 8),none),(some 51,.nilCheck (.tmp 50),none),(some 52,.fieldAddr 125 (.tmp 51) 0,none),(some 53,.load 3 (.tmp 52),none),(some 54,.move (.tmp 8),none),(some 55,.nilCheck (.tmp 54),none),(some 56,.fieldAddr 125 (.tmp 55) 1,none),(some 57,.load 3 (.tmp 56),none),(some 58,.move (.tmp 9),none),(some 59,.call ⟨.value (.func 117),#[(.tmp 49),(.tmp 53),(.tmp 57),(.tmp 58)],#[22,3,3,3]⟩,none)]):=by kernel_rfl
theorem zhc:((List.range 10).all λj=>((zdn (rg 116 13)).getD 10 0).testBit j)=true:=by kernel_rfl
theorem zir:qjc (cfg sp).E (zfr (rg 116 13)) (zdn (rg 116 13)) 10=true:=by kernel_rfl
theorem zif:jo (rg 116 14)=some [(some 10,.assign (.tmp 60))]:=by kernel_rfl
theorem zig:jo (rg 116 15)=some [(some 11,.assign (.tmp 61))]:=by kernel_rfl
theorem zih:jo (rg 116 16)=some [(some 62,.load 174 (.tmp 4)),(some 63,.move (.tmp 10)),(some 64,.move (.tmp 11)),(some 65,.call ⟨.value (.tmp 62),#[(.tmp 63),(.tmp 64)],#[3,3]⟩),(some 66,.unOp .not 4 (.tmp 65))]:=by kernel_rfl
theorem zii:jo (rg 116 17)=some [(some 67,.binOp .add 3 (.tmp 46) (.const (.int .i64 1)) 3),(some 46,.move (.tmp 67))]:=by kernel_rfl
theorem zij:q8g (rg 116 18)=some (true,[(some 68,.load 22 (.tmp 1),none),(some 69,.move (.tmp 8),none),(some 70,.nilCheck (.tmp 69),none),(some 71,.fieldAddr 125 (.tmp 70) 1,none),(some 72,.load 3 (.tmp 71),none),(some 73,.binOp .add 3 (.tmp 72) (.const (.int .i64 1)) 3,none),(some 74,.load 109 (.tmp 2),none),(some 75,.slice 109 (.tmp 74) (some (.const (.int .i64 1))) none none,none),(some 76,.call ⟨.value (.func 99),#[(.tmp 68),(.tmp 73),(.tmp 75)],#[22,3,109]⟩,none)]):=by kernel_rfl
theorem zhd:((List.range 8).all λj=>((zdn (rg 116 18)).getD 8 0).testBit j)=true:=by kernel_rfl
theorem zis:qjc (cfg sp).E (zfr (rg 116 18)) (zdn (rg 116 18)) 8=true:=by kernel_rfl
theorem zik:jo (rg 116 19)=some [(some 12,.assign (.tmp 77))]:=by kernel_rfl
theorem zil:jo (rg 116 20)=some [(some 13,.assign (.tmp 78))]:=by kernel_rfl
theorem zim:jo (rg 116 21)=some [(some 79,.load 174 (.tmp 4)),(some 80,.move (.tmp 12)),(some 81,.move (.tmp 13)),(some 82,.call ⟨.value (.tmp 79),#[(.tmp 80),(.tmp 81)],#[3,3]⟩),(some 83,.unOp .not 4 (.tmp 82))]:=by kernel_rfl
theorem znt:(cfg sp).E.funcs 117=some ⟨some (qa8 117),0,10,[.tmp 8]⟩:=by kernel_rfl
theorem zdo:qa8 117=.seq (rg 117 0) (.seq (rg 117 1) .ret):=by kernel_rfl
theorem zo7:jo (rg 117 0)=some [(some 4,.box 22 (.tmp 0)),(some 5,.box 3 (.tmp 1)),(some 6,.box 3 (.tmp 2)),(some 7,.box 3 (.tmp 3)),(some 8,.assign (.const .nilFunc))]:=by kernel_rfl
theorem zo8:jo (rg 117 1)=some [(some 9,.makeFunc (.func 134) #[] #[(.tmp 5),(.tmp 6),(.tmp 4),(.tmp 7)]),(some 8,.assign (.tmp 9))]:=by kernel_rfl
theorem znu:(cfg sp).E.funcs 134=some ⟨some (qa8 134),0,32,[]⟩:=by kernel_rfl
theorem zdp:qa8 134=.seq (rg 134 0) (.block 0 (.loop (.seq (.seq (rg 134 1) (.cond (.tmp 11) .skip (.exit 0))) (.seq (.block 1 (.seq (rg 134 3) (.seq (rg 134 4) (.cond (.tmp 31) .ret .skip)))) (rg 134 2))))):=by kernel_rfl
theorem zo9:jo (rg 134 0)=some [(some 8,.load 3 (.tmp 1)),(some 6,.assign (.tmp 8))]:=by kernel_rfl
theorem zpa:jo (rg 134 1)=some [(some 9,.move (.tmp 6)),(some 10,.load 3 (.tmp 2)),(some 11,.binOp .lss 3 (.tmp 9) (.tmp 10) 3)]:=by kernel_rfl
theorem zpc:jo (rg 134 3)=some [(some 14,.load 22 (.tmp 3)),(some 15,.move (.tmp 6)),(some 16,.indexAddr 22 (.tmp 14) (.tmp 15)),(some 17,.fieldAddr 49 (.tmp 16) 0),(some 18,.load 3 (.tmp 17)),(some 7,.assign (.tmp 18))]:=by kernel_rfl
theorem zpd:q8g (rg 134 4)=some (false,[(some 19,.move (.tmp 7),none),(some 20,.binOp .neq 3 (.tmp 19) (.const (.int .i64 9)) 3,none),(some 21,.move (.tmp 20),none),(some 22,.move (.tmp 7),some (2,true)),(some 23,.binOp .neq 3 (.tmp 22) (.const (.int .i64 10)) 3,some (2,true)),(some 24,.pick (.tmp 21) (.tmp 23) (.const (.bool false)),none),(some 25,.move (.tmp 24),none),(some 26,.move (.tmp 0),some (6,true)),(some 27,.move (.tmp 6),some (6,true)),(some 28,.load 3 (.tmp 4),some (6,true)),(some 29,.call ⟨.value (.tmp 26),#[(.tmp 27),(.tmp 28)],#[3,3]⟩,some (6,true)),(some 30,.unOp .not 4 (.tmp 29),some (6,true)),(some 31,.pick (.tmp 25) (.tmp 30) (.const (.bool false)),none)]):=by kernel_rfl
theorem zpb:jo (rg 134 2)=some [(some 12,.move (.tmp 6)),(some 13,.binOp .add 3 (.tmp 12) (.const (.int .i64 1)) 3),(some 6,.assign (.tmp 13))]:=by kernel_rfl
theorem qoy:(cfg sp).E.types 22=some (tyP 22):=by kernel_rfl
theorem zgv:(tyP 22).under=.slice 49:=by kernel_rfl
theorem qvx:(tyP 22).size=1:=by kernel_rfl
theorem qwx:(tyP 22).isAgg=false:=by kernel_rfl
theorem qhv:(cfg sp).E.types 109=some (tyP 109):=by kernel_rfl
theorem qux:(tyP 109).under=.slice 135:=by kernel_rfl
theorem quv:(tyP 109).size=1:=by kernel_rfl
theorem qtt:(tyP 109).isAgg=false:=by kernel_rfl
theorem qwd:(cfg sp).E.types 3=some (tyP 3):=by kernel_rfl
theorem qz2:(tyP 3).size=1:=by kernel_rfl
theorem q4n:(tyP 3).isAgg=false:=by kernel_rfl
theorem qze:(cfg sp).E.types 135=some (tyP 135):=by kernel_rfl
theorem q88:(tyP 135).size=1:=by kernel_rfl
theorem zl6:(tyP 135).isAgg=false:=by kernel_rfl
theorem zqs:(cfg sp).E.types 174=some (tyP 174):=by kernel_rfl
theorem zqo:(tyP 174).size=1:=by kernel_rfl
theorem zl7:(tyP 174).isAgg=false:=by kernel_rfl
variable {sp:Nat->Option (List V->Heap->Option (CR×Heap))}
def soft:Option O->Bool
 | some (.row _ _ _ _ _ false)=>true
 | _=>false
structure StepA (H H':Heap):Prop where
 next:H.next<=H'.next
 ro:H'.ro=H.ro
 qp:H'.qp=H.qp
 wf:∀ n,H'.next<=n->H'.get n=none
 old:∀ n,n<H.next->H'.get n=H.get n
theorem StepA.trans {H H1 a:Heap} (h:StepA H H1) (k:StepA H1 a):StepA H a:=
 ⟨zR h.next k.next,k.ro.trans h.ro,k.qp.trans h.qp,k.wf,λn b=>(k.old n (zL b h.next)).trans (h.old n b)⟩
structure StepB (b:Nat) (H H':Heap):Prop where
 next:H.next<=H'.next
 ro:H'.ro=H.ro
 qp:H'.qp=H.qp
 wf:∀ n,H'.next<=n->H'.get n=none
 old:∀ n,b<=n->n<H.next->soft (H.get n)=false->H'.get n=H.get n
theorem StepA.up {b:Nat} {H H':Heap} (h:StepA H H'):StepB b H H':=⟨h.next,h.ro,h.qp,h.wf,λn _ a _=>h.old n a⟩
theorem StepB.refl {b:Nat} {H:Heap} (wf:∀ n,H.next<=n->H.get n=none):StepB b H H:=⟨zN _,rfl,rfl,wf,λ_ _ _ _=>rfl⟩
theorem StepB.trans {b:Nat} {H H1 e:Heap} (h:StepB b H H1) (k:StepB b H1 e):StepB b H e:=
 ⟨zR h.next k.next,k.ro.trans h.ro,k.qp.trans h.qp,k.wf,λn a c d=>(k.old n a (zL c h.next) (by rw [h.old n a c d];exact d)).trans (h.old n a c d)⟩
structure Yields (E:Env) (l b:Nat) (I:List Played->Heap->Prop):Prop where
 loc:∀ {out H H'},(∀ n,n<b∨soft (H.get n)=true->H'.get n=H.get n)->H'.ro=H.ro->H'.qp=H.qp->b<=H.next->b<=H'.next->I out H->I out H'
 run:∀ {out H} (a p:Int),I out H->b<=H.next->(∀ n,H.next<=n->H.get n=none)->out.length<=100000->qaa E (.round l) [.int .i64 a,.int .i64 p] H λv H'=>v=.bool true/\I (out++[⟨a,p⟩]) H'/\StepB b H H'
def z9 (H:Heap) (n:Nat) (v:V):Prop:=∃ e,H.get n=some (.row [v] e 0 0 0 true)
theorem qg9 {H:Heap} {v:V} {e:Nat}:z9 (z5 H [v] e) H.next v:=⟨e,zl⟩
theorem qf3 {H:Heap} {n:Nat} {o:O} {v:V} (h:z9 H n v) (b:n<H.next):z9 (H.new o) n v:=by
 obtain ⟨e,a⟩:=h;exact ⟨e,by rw [ke (by omega)];exact a⟩
theorem qa0 {H:Heap} {n:Nat} {v:V} {ti:TI} (h:z9 H n v) (a:isHole v=false) (b:ti.size=1) (c:ti.isAgg=false):jr H ti (.ptr n 0 0 1)=some v:=by
 obtain ⟨e,d⟩:=h;have f:zq H 1 (.ptr n 0 0 1)=some [v]:=by
  simp [zq,d,qef,a];rfl
 simp only [jr,b,f,zB,c,zQ]
theorem qbf {H:Heap} {o:O} (wf:∀ n,H.next<=n->H.get n=none):StepA H (H.new o):=by
 refine ⟨by rw [qi];omega,qnh,qpy,λn a=>?_,λn a=>ke (by omega)⟩;rw [qi] at a;obtain ⟨t,m,r,g⟩:=H;have c:=wf n (by show m<=n;simp only at a;omega);have b:¬ n=m:=by simp only at a;omega
 simp only [Heap.new,Heap.get,Tree.zn,zF b];exact c
theorem qqm (x:(cfg sp).E.spec 117=none) {H:Heap} {f:V} {a e p:Int} (wf:∀ n,H.next<=n->H.get n=none) (y:f.cells=[f]):qaa (cfg sp).E (.func 117) [f,.int .i64 a,.int .i64 e,.int .i64 p] H λv H'=>
  StepA H H'/\∃ n0,H.next<=n0/\n0+3<H'.next/\v=.func (.func 134) [] [.ptr (n0+1) 0 0 1,.ptr (n0+2) 0 0 1,.ptr n0 0 0 1,.ptr (n0+3) 0 0 1]/\z9 H' n0 f/\z9 H' (n0+1) (.int .i64 a)/\z9 H' (n0+2) (.int .i64 e)/\z9 H' (n0+3) (.int .i64 p):=by
 refine qb3 x znt rfl ((?_:∀ d:Fr,d.tmp 0=some f->d.tmp 1=some (.int .i64 a)->d.tmp 2=some (.int .i64 e)->d.tmp 3=some (.int .i64 p)->d.n=10->d.defers=[]->Wp (cfg sp).E 117 none (qa8 117) d H _) _ (zp rfl) (zp rfl) (zp rfl) (zp rfl) rfl rfl);intro d z A B C n0 D;rw [zdo];refine za (zt zo7 ?_);refine go1 rfl (by omega) (qiz rfl (qe z)) λO g=>?_;have F:=g.n.trans n0;rw [y] at g ⊢;refine go1 rfl (by omega) (qiz rfl (qe (g.ne A))) λP i=>?_;have G:=i.n.trans F;refine go1 rfl (by omega) (qiz rfl (qe (i.ne (g.ne B)))) λQ j=>?_;have I:=j.n.trans G;refine go1 rfl (by omega) (qiz rfl (qe (j.ne (i.ne (g.ne C))))) λR k=>?_;have J:=k.n.trans I;refine go1 rfl (by omega) (qy rfl (v:=.nilf) rfl) λS l=>qz (qk ?_);have K:=l.n.trans J;refine za (zt zo8 ?_);refine go1 rfl (by omega) (qnc rfl jn (zg (qe (l.ne (k.ne (j.ne i.get)))) (zg (qe (l.ne (k.ne j.get))) (zg (qe (l.ne (k.ne (j.ne (i.ne g.get))))) (zg (qe (l.ne k.get)) jn))))) λT m=>?_;have U:=m.n.trans K;refine go1 rfl (by omega) (qy rfl (qe m.get)) λW s=>qz (qk (qhw ?_));refine ⟨.inr rfl,_,by rw [s.ds,m.ds,l.ds,k.ds,j.ds,i.ds,g.ds,D];rfl,[_],qc4 s.get qeg,?_⟩;let H1:=z5 H [f] 22;let b:=z5 H1 [.int .i64 a] 3;let c:=z5 b [.int .i64 e] 3;let h:=z5 c [.int .i64 p] 3;have t:StepA H H1:=qbf wf;have u:StepA H1 b:=qbf t.wf;have w:StepA b c:=qbf u.wf;have L:StepA c h:=qbf w.wf;have o:H1.next=H.next+1:=qi
 have q:b.next=H.next+2:=qi.trans (by rw [o])
 have r:c.next=H.next+3:=qi.trans (by rw [q])
 have X:h.next=H.next+4:=qi.trans (by rw [r])
 have M:z9 h c.next (.int .i64 p):=qg9
 have N:z9 h b.next (.int .i64 e):=qf3 (H:=c) (qg9 (H:=b)) (by omega)
 have c3:z9 h H1.next (.int .i64 a):=qf3 (H:=c) (qf3 (H:=b) (qg9 (H:=H1)) (by omega)) (by omega)
 have c4:z9 h H.next f:=qf3 (H:=c) (qf3 (H:=b) (qf3 (H:=H1) (qg9 (H:=H)) (by omega)) (by omega)) (by omega)
 refine ⟨t.trans (u.trans (w.trans L)),H.next,zN _,by show H.next+3<h.next;omega,?_,?_,?_,?_,?_⟩
 .show V.func (.func 134) [] [.ptr H1.next 0 0 1,.ptr b.next 0 0 1,.ptr H.next 0 0 1,.ptr c.next 0 0 1]=_;rw [o,q,r]
 .exact c4
 .rw [<-o];exact c3
 .rw [<-q];exact N
 .rw [<-r];exact M
variable {sp:Nat->Option (List V->Heap->Option (CR×Heap))}
theorem zlx:(cfg sp).E.types 49=some (tyP 49):=by kernel_rfl
theorem zse:(qc1 (tyP 49) 0).map (λf=>(f.offset,f.type))=some (0,3):=by kernel_rfl
def q7j (H:Heap) (a:V) (l:List Sign):Prop:=∀ i:Int,0<=i->i<ln l->∃ nm g off lim,kj (tyP 49).size a (.int .i64 i)=some (.ptr nm g off lim)/\jr H (tyP 3) (.ptr nm g off lim)=some (.int .i64 (ix l i).Kind)
def Alike (m:Nat) (fr fr':Fr):Prop:=(∀ t,t<m->fr'.tmp t=fr.tmp t)/\fr'.n=fr.n/\fr'.defers=fr.defers
theorem Alike.refl {m:Nat} {fr:Fr}:Alike m fr fr:=⟨λ_ _=>rfl,rfl,rfl⟩
theorem Alike.upd {m d:Nat} {v:V} {fr a b:Fr} (h:Alike m fr a) (u:Upd a d v b) (e:m<=d):Alike m fr b:=
 ⟨λt c=>(u.other t (by rw [<-Bool.not_eq_true,Nat.beq_eq];omega)).trans (h.1 t c),u.n.trans h.2.1,u.ds.trans h.2.2⟩
section
variable {y b n0:Nat} {I:List Played->Heap->Prop} {l:List Sign} {vl:V} {a e p:Int} {H:Heap} {out:List Played}
theorem zp4 (Y:Yields (cfg sp).E y b I) {fr:Fr} {i:Int} {Q:Ex->Fr->Heap->Prop} (hI:I out H) (hb:b<=H.next) (wf:∀ n,H.next<=n->H.get n=none) (b3:z9 H (n0+3) (.int .i64 p)) (ho:out.length<=100000)
  (t0:fr.tmp 0=some (.func (.yield y) [] [])) (t4:fr.tmp 4=some (.ptr (n0+3) 0 0 1)) (t6:fr.tmp 6=some (.int .i64 i)) (t7:fr.tmp 7=some (.int .i64 (ix l i).Kind)) (a:fr.n=32)
  (k:∀ g M o2,Alike 19 fr g->g.tmp 31=some (.bool false)->I o2 M->StepB b H M->o2=(if qhf (ix l i) then out else out++[⟨i,p⟩])->Q .normal g M):Wp (cfg sp).E 134 none (rg 134 4) fr H Q:=by
 refine zka zpd λops r=>?_;have Z:(ops[2]?).bind (·.dst)=some 21:=(zli r).trans rfl;have o:(ops[6]?).bind (·.dst)=some 25:=(zli r).trans rfl;have a0:jb .neq .i64 (ix l i).Kind 9=some (.bool (decide ((ix l i).Kind≠9))):=by by_cases h:(ix l i).Kind=9<;>simp [jb,h]
 have N:jb .neq .i64 (ix l i).Kind 10=some (.bool (decide ((ix l i).Kind≠10))):=by by_cases h:(ix l i).Kind=10<;>simp [jb,h]
 refine gg1 r rfl (by omega) (zf rfl (qe t7)) λf1 l1 h1 u1=>?_;have A1:=Alike.refl.upd (m:=19) u1 (by omega);have n1:=A1.2.1.trans a;refine gg1 h1 rfl (by omega) (qbn rfl ⟨by simp,by simp⟩ (qe u1.get) rfl a0) λf2 l2 h2 u2=>?_;have A2:=A1.upd u2 (by omega);have n2:=A2.2.1.trans a;refine gg1 h2 rfl (by omega) (zf rfl (qe u2.get)) λf3 l3 h3 u=>?_;have A3:=A2.upd u (by omega);have n3:=A3.2.1.trans a;by_cases k9:(ix l i).Kind=9
 .
  have hd:decide ((ix l i).Kind≠9)=false:=by simp [k9]
  rw [hd] at u;have f:qhf (ix l i)=true:=by simp [qhf,k9]
  refine qv4 h3 Z u.get rfl (by omega) λf4 l4 h4 B=>?_;have O:=A3.upd B (by omega);have n4:=O.2.1.trans a;refine qv4 h4 Z (B.ne u.get) rfl (by omega) λf5 l5 h5 L=>?_;have P:=O.upd L (by omega);have n5:=P.2.1.trans a;refine gg1 h5 rfl (by omega) (qtz rfl (qe (L.ne (B.ne u.get))) (v:=.bool false) rfl) λf6 l6 h6 R=>?_;have S:=P.upd R (by omega);have n6:=S.2.1.trans a;refine gg1 h6 rfl (by omega) (zf rfl (qe R.get)) λf7 l7 h7 c=>?_;have J:=S.upd c (by omega);have n7:=J.2.1.trans a;refine qv4 h7 o c.get rfl (by omega) λf8 l8 T d=>?_;have w:=J.upd d (by omega);have n8:=w.2.1.trans a;refine qv4 T o (d.ne c.get) rfl (by omega) λf9 l9 U e=>?_;have x:=w.upd e (by omega);have n9:=x.2.1.trans a;refine qv4 U o (e.ne (d.ne c.get)) rfl (by omega) λfa la V j=>?_;have C:=x.upd j (by omega);have na:=C.2.1.trans a;refine qv4 V o (j.ne (e.ne (d.ne c.get))) rfl (by omega) λfb lb s q=>?_;have D:=C.upd q (by omega);have nb:=D.2.1.trans a;refine qv4 s o (q.ne (j.ne (e.ne (d.ne c.get)))) rfl (by omega) λfc lc W z=>?_;have F:=D.upd z (by omega);have nc:=F.2.1.trans a;refine gg1 W rfl (by omega) (qtz rfl (qe (z.ne (q.ne (j.ne (e.ne (d.ne c.get)))))) (v:=.bool false) rfl) λfd ld t G=>?_;have X:=F.upd G (by omega);obtain rfl:=q20 t;exact qz (k fd H out X G.get hI (.refl wf) (by rw [zT f]))
 .have hd:decide ((ix l i).Kind≠9)=true:=by simp [k9]
  rw [hd] at u;refine zcb h3 Z u.get rfl (by omega) (zf rfl (qe ((A3.1 7 (by omega)).trans t7))) λf4 l4 h4 B=>?_;have O:=A3.upd B (by omega);have n4:=O.2.1.trans a;refine zcb h4 Z (B.ne u.get) rfl (by omega) (qbn rfl ⟨by simp,by simp⟩ (qe B.get) rfl N) λf5 l5 h5 L=>?_;have P:=O.upd L (by omega);have n5:=P.2.1.trans a;refine gg1 h5 rfl (by omega) (q0j rfl (qe (L.ne (B.ne u.get))) (qe L.get)) λf6 l6 h6 R=>?_;have S:=P.upd R (by omega);have n6:=S.2.1.trans a;refine gg1 h6 rfl (by omega) (zf rfl (qe R.get)) λf7 l7 h7 c=>?_;have J:=S.upd c (by omega);have n7:=J.2.1.trans a;by_cases A:(ix l i).Kind=10
  .
   have K:decide ((ix l i).Kind≠10)=false:=by simp [A]
   rw [K] at c;have f:qhf (ix l i)=true:=by simp [qhf,A]
   refine qv4 h7 o c.get rfl (by omega) λf8 l8 T d=>?_;have w:=J.upd d (by omega);have n8:=w.2.1.trans a;refine qv4 T o (d.ne c.get) rfl (by omega) λf9 l9 U e=>?_;have x:=w.upd e (by omega);have n9:=x.2.1.trans a;refine qv4 U o (e.ne (d.ne c.get)) rfl (by omega) λfa la V j=>?_;have C:=x.upd j (by omega);have na:=C.2.1.trans a;refine qv4 V o (j.ne (e.ne (d.ne c.get))) rfl (by omega) λfb lb s q=>?_;have D:=C.upd q (by omega);have nb:=D.2.1.trans a;refine qv4 s o (q.ne (j.ne (e.ne (d.ne c.get)))) rfl (by omega) λfc lc W z=>?_;have F:=D.upd z (by omega);have nc:=F.2.1.trans a;refine gg1 W rfl (by omega) (qtz rfl (qe (z.ne (q.ne (j.ne (e.ne (d.ne c.get)))))) (v:=.bool false) rfl) λfd ld t G=>?_;have X:=F.upd G (by omega);obtain rfl:=q20 t;exact qz (k fd H out X G.get hI (.refl wf) (by rw [zT f]))
  .
   have K:decide ((ix l i).Kind≠10)=true:=by simp [A]
   rw [K] at c;have f:qhf (ix l i)=false:=by simp [qhf,k9,A]
   refine zcb h7 o c.get rfl (by omega) (zf rfl (qe ((J.1 0 (by omega)).trans t0))) λf8 l8 T d=>?_;have w:=J.upd d (by omega);have n8:=w.2.1.trans a;refine zcb T o (d.ne c.get) rfl (by omega) (zf rfl (qe ((w.1 6 (by omega)).trans t6))) λf9 l9 U e=>?_;have x:=w.upd e (by omega);have n9:=x.2.1.trans a;refine zcb U o (e.ne (d.ne c.get)) rfl (by omega) (jm rfl qwd (qe ((x.1 4 (by omega)).trans t4)) (qa0 b3 rfl qz2 q4n)) λfa la V j=>?_;have C:=x.upd j (by omega);have na:=C.2.1.trans a;refine zu5 V o (j.ne (e.ne (d.ne c.get))) rfl (by omega) (qe7 rfl rfl (qe (j.ne (e.ne d.get))) (zg (qe (j.ne e.get)) (zg (qe j.get) jn)) rfl) (Y.run i p hI hb wf ho) λv M hR fb lb s q=>?_;obtain ⟨rfl,a1,st⟩:=hR;have D:=C.upd q (by omega);have nb:=D.2.1.trans a;refine zcb s o (q.ne (j.ne (e.ne (d.ne c.get)))) rfl (by omega) (q72 rfl (qe q.get)) λfc lc W z=>?_;have F:=D.upd z (by omega);have nc:=F.2.1.trans a;refine gg1 W rfl (by omega) (q0j rfl (qe (z.ne (q.ne (j.ne (e.ne (d.ne c.get)))))) (qe z.get)) λfd ld t G=>?_;have X:=F.upd G (by omega);obtain rfl:=q20 t;exact qz (k fd M _ X G.get a1 st (by rw [zF (by rw [f];simp)]))
theorem zjt {a e p:Int} (h:qhf (ix l a)=false) (b:a<e):qeq l a e p=⟨a,p⟩::qeq l (a+1) e p:=by rw [qeq,dif_pos b,zF (by rw [h];simp)]
theorem qit {H1:Heap} {n:Nat} {v:V} (h:z9 H n v) (st:StepB b H H1) (c:b<=n) (d:n<H.next):z9 H1 n v:=by
 obtain ⟨t,a⟩:=h;exact ⟨t,(st.old n c d (by rw [a];rfl)).trans a⟩
theorem qtc (hs:(cfg sp).E.spec 134=none) (Y:Yields (cfg sp).E y b I) (hl:ln l<=1000) (ai:0<=a) (Q:a<=e) (W:e<=ln l) (hK:∀ out H,I out H->q7j H vl l) (X:isHole vl=false) (hI:I out H) (hb:b<=H.next) (wf:∀ n,H.next<=n->H.get n=none)
  (hB:∀ o K,I o K->z9 K n0 vl/\z9 K (n0+1) (.int .i64 a)/\z9 K (n0+2) (.int .i64 e)/\z9 K (n0+3) (.int .i64 p)) (ho:out.length<=90000) :
  qaa (cfg sp).E (.func 134) [.func (.yield y) [] [],.ptr (n0+1) 0 0 1,.ptr (n0+2) 0 0 1,.ptr n0 0 0 1,.ptr (n0+3) 0 0 1] H λ_ H'=>I (out++qeq l a e p) H'/\StepB b H H':=by
 refine qb3 hs znu rfl ((?_:∀ k:Fr,k.tmp 0=some (.func (.yield y) [] [])->k.tmp 1=some (.ptr (n0+1) 0 0 1)->k.tmp 2=some (.ptr (n0+2) 0 0 1)->k.tmp 3=some (.ptr n0 0 0 1)->k.tmp 4=some (.ptr (n0+3) 0 0 1)->k.n=32->k.defers=[]->Wp (cfg sp).E 134 none (qa8 134) k H _) _ (zp rfl) (zp rfl) (zp rfl) (zp rfl) (zp rfl) rfl rfl);intro k a0 a1 a2 a3 a4 nn d0;have b1:=(hB out H hI).2.1;rw [zdp];refine za (zt zo9 ?_);refine go1 rfl (by omega) (jm rfl qwd (qe a1) (qa0 b1 rfl qz2 q4n)) λf1 F=>?_;have m1:=F.n.trans nn;refine go1 rfl (by omega) (qy rfl (qe F.get)) λf2 G=>qz (qk ?_);have m2:=G.n.trans m1;refine qah (qij (λm fr H'=>∃ (i:Int) (o1:List Played),m=(e-i).toNat/\a<=i/\i<=e/\I o1 H'/\StepB b H H'/\o1++qeq l i e p=out++qeq l a e p/\fr.tmp 0=some (.func (.yield y) [] [])/\fr.tmp 2=some (.ptr (n0+2) 0 0 1)/\fr.tmp 3=some (.ptr n0 0 0 1)/\fr.tmp 4=some (.ptr (n0+3) 0 0 1)/\fr.tmp 6=some (.int .i64 i)/\fr.n=32/\fr.defers=[])
  ⟨a,out,rfl,zK _,Q,hI,.refl wf,rfl,G.ne (F.ne a0),G.ne (F.ne a2),G.ne (F.ne a3),G.ne (F.ne a4),G.get,m2,by rw [G.ds,F.ds,d0]⟩ ?_)
 rintro m fr H' ⟨i,o1,rfl,hi,aj,q,st,r,t0,t2,t3,t4,t6,n,ds⟩;obtain ⟨c0,_,c2,c3⟩:=hB o1 H' q;have ah:o1.length<=91000:=by
  have h1:=congrArg List.length r;rw [List.length_append,List.length_append] at h1;have h2:=qta (l:=l) (p:=p) Q;simp only [ln] at h2 hl W;omega
 have Z:jb .lss .i64 i e=some (.bool (decide (i<e))):=by simp [jb]
 refine za (za (zt zpa ?_));refine go1 rfl (by omega) (zf rfl (qe t6)) λg1 s=>?_;have q1:=s.n.trans n;refine go1 rfl (by omega) (jm rfl qwd (qe (s.ne t2)) (qa0 c2 rfl qz2 q4n)) λg2 u=>?_;have q2:=u.n.trans q1;refine go1 rfl (by omega) (qbn rfl ⟨by simp,by simp⟩ (qe (u.ne s.get)) (qe u.get) Z) λP c=>qz (qk ?_);have q3:=c.n.trans q2;have a5:P.tmp 0=some (.func (.yield y) [] []):=c.ne (u.ne (s.ne t0));have a6:P.tmp 2=some (.ptr (n0+2) 0 0 1):=c.ne (u.ne (s.ne t2));have R:P.tmp 3=some (.ptr n0 0 0 1):=c.ne (u.ne (s.ne t3));have a7:P.tmp 4=some (.ptr (n0+3) 0 0 1):=c.ne (u.ne (s.ne t4));have S:P.tmp 6=some (.int .i64 i):=c.ne (u.ne (s.ne t6));have T:P.defers=[]:=by rw [c.ds,u.ds,s.ds,ds]
 by_cases V:i<e
 .have d:decide (i<e)=true:=by simpa using V
  rw [d] at c;refine qdj (qe c.get) (qej (qk ?_));obtain ⟨nm,g,off,lim,a8,a9⟩:=hK o1 H' q i (by omega) (by omega);obtain ⟨f,hf,aa⟩:=zM.1 zse;obtain ⟨ab,ad⟩:=Prod.mk.inj aa;refine za (qah (za (zt zpc ?_)));refine go1 rfl (by omega) (jm rfl qoy (qe R) (qa0 c0 X qvx qwx)) λg4 v=>?_;have q4:=v.n.trans q3;refine go1 rfl (by omega) (zf rfl (qe (v.ne S))) λg5 w=>?_;have q5:=w.n.trans q4;refine go1 rfl (by omega) (qc0 rfl qoy zgv zlx (qe (w.ne v.get)) (qe w.get) a8) λg6 A=>?_;have q6:=A.n.trans q5;refine go1 rfl (by omega) (qlr rfl zlx hf (by rw [ad];exact qwd) (by rw [qz2];rfl) (qe A.get)) λg7 x=>?_;have q7:=x.n.trans q6;rw [ab,Nat.add_zero] at x;refine go1 rfl (by omega) (jm rfl qwd (qe x.get) a9) λg8 B=>?_;have q8:=B.n.trans q7;refine go1 rfl (by omega) (qy rfl (qe B.get)) λJ C=>qz (qk ?_);have q9:=C.n.trans q8;have s0:J.tmp 0=some (.func (.yield y) [] []):=C.ne (B.ne (x.ne (A.ne (w.ne (v.ne a5)))));have s2:J.tmp 2=some (.ptr (n0+2) 0 0 1):=C.ne (B.ne (x.ne (A.ne (w.ne (v.ne a6)))));have s3:J.tmp 3=some (.ptr n0 0 0 1):=C.ne (B.ne (x.ne (A.ne (w.ne (v.ne R)))));have s4:J.tmp 4=some (.ptr (n0+3) 0 0 1):=C.ne (B.ne (x.ne (A.ne (w.ne (v.ne a7)))));have s6:J.tmp 6=some (.int .i64 i):=C.ne (B.ne (x.ne (A.ne (w.ne (v.ne S)))));have sd:J.defers=[]:=by rw [C.ds,B.ds,x.ds,A.ds,w.ds,v.ds,T]
  refine za (zp4 Y q (zR hb st.next) st.wf c3 (by omega) s0 s4 s6 C.get q9 λh H2 o2 L ae af st2 ag=>qk ?_);have z:∀ t,t<19->h.tmp t=J.tmp t:=L.1;have U:=L.2.1.trans q9;refine qb8 (qe ae) (qej ?_);refine qa3 (qk (zt zpb ?_));refine go1 rfl (by omega) (zf rfl (qe ((z 6 (by omega)).trans s6))) λga M=>?_;have qa:=M.n.trans U;refine go1 rfl (by omega) (qbn rfl ⟨by simp,by simp⟩ (qe M.get) (j:=1) rfl (qwv (by omega) (by omega))) λgb N=>?_;have qb:=N.n.trans qa;refine go1 rfl (by omega) (qy rfl (qe N.get)) λgc O=>qz ?_;refine ⟨(e-(i+1)).toNat,by omega,i+1,o2,rfl,by omega,by omega,af,st.trans st2,?_,O.ne (N.ne (M.ne ((z 0 (by omega)).trans s0))),O.ne (N.ne (M.ne ((z 2 (by omega)).trans s2))),O.ne (N.ne (M.ne ((z 3 (by omega)).trans s3))),O.ne (N.ne (M.ne ((z 4 (by omega)).trans s4))),O.get,O.n.trans qb,by rw [O.ds,N.ds,M.ds,L.2.2,sd]⟩;rw [<-r,ag];cases D:qhf (ix l i) with
  | true=>rw [zT rfl,zbd D V]
  | false=>
   rw [zF (by simp),zjt D V];simp
 .have d:decide (i<e)=false:=by simpa using V
  rw [d] at c;refine qb8 (qe c.get) (qtj ?_);refine qgm (qgm (qfb ?_));refine ⟨.inl rfl,H',by rw [T];rfl,[],qeg,?_,st⟩;rw [qwq (by omega),zJ] at r;rw [<-r];exact q
end
variable {sp:Nat->Option (List V->Heap->Option (CR×Heap))}
theorem qdq {fr fr':Fr} {d t:Nat} {v:V} {x:Option V} (u:Upd fr d v fr') (h:fr.tmp t=x) (a:t≠d):fr'.tmp t=x:=(u.other t (by rw [<-Bool.not_eq_true,Nat.beq_eq];exact a)).trans h
def zdc (I:List Played->Heap->Prop) (b:Nat) (H1:Heap):List Played->Heap->Prop:=λout H=>I out H/\(∀ n,b<=n->n<H1.next->soft (H1.get n)=false->H.get n=H1.get n)/\H.ro=H1.ro/\H.qp=H1.qp
theorem forward {y b L ln M box A B P Q d1 N O R f k:Nat} {I:List Played->Heap->Prop} {H1:Heap} {lt:Tree V} {m o c3:Code} {ts:Array TypeId} (Y:Yields (cfg sp).E y b I) (a7:b<=H1.next) (a8:H1.ro<=b) (hL:b<=L) (X:L<H1.next)
  (S:H1.get L=some (.loop .ready none lt ln [P,Q] (.seq m o) (.block k (.seq c3 (.cond (.tmp f) .ret .skip))) M)) (Z:b<=box) (a0:box<H1.next) (q:z9 H1 box (.func (.yield y) [] [])) (h4:lt.get 4=some (.ptr box 0 0 1))
  (k1:jo m=some [(some A,.assign (.tmp P))]) (k2:jo o=some [(some B,.assign (.tmp Q))])
  (k3:jo c3=some [(some d1,.load 174 (.tmp 4)),(some N,.move (.tmp A)),(some O,.move (.tmp B)),(some R,.call ⟨.value (.tmp d1),#[(.tmp N),(.tmp O)],ts⟩),(some f,.unOp .not 4 (.tmp R))])
  (ho:4<A/\A<B/\B<P/\P<Q/\Q<d1/\d1<N/\N<O/\O<R/\R<f/\f<ln):Yields (cfg sp).E L H1.next (zdc I b H1):=by
 obtain ⟨o1,o2,o3,o4,o5,o6,o7,o8,o9,a9⟩:=ho;refine ⟨λ{out H H'} h hr r c aa ⟨i1,i2,i3,i4⟩=>⟨Y.loc (λn c=>h n (c.imp (λh=>by omega) id)) hr r (by omega) (by omega) i1,λn s j l=>(h n (.inl j)).trans (i2 n s j l),hr.trans i3,r.trans i4⟩,?_⟩;intro out H a p ⟨hI,hK,hR,hG⟩ hb wf u;have g:=(hK L hL X (by rw [S];rfl)).trans S;let t:=(lt.set P (.int .i64 a)).set Q (.int .i64 p);have hp:qb1 ln [P,Q] [.int .i64 a,.int .i64 p] lt=some t:=by
  have e1:Nat.blt P ln=true:=by rw [Nat.blt_eq];omega
  have e2:Nat.blt Q ln=true:=by rw [Nat.blt_eq];omega
  simp only [qb1,e1,e2,zO];rfl
 have tP:t.get P=some (.int .i64 a):=by simp only [t,Tree.zn,zF (show ¬ P=Q by omega),if_true]
 have tQ:t.get Q=some (.int .i64 p):=by simp only [t,Tree.zn,if_true]
 have t4:t.get 4=some (.ptr box 0 0 1):=by simp only [t,Tree.zn,zF (show ¬ 4=Q by omega),zF (show ¬ 4=P by omega),h4]
 refine qm3 g hp ?_;refine za ((qpn k1 ?_));refine go1 rfl (show A<ln by omega) (qy rfl (qe (show Fr.tmp ⟨t,ln,[]⟩ P=_ from tP))) λf1 w=>qz (qk ?_);have n1:f1.n=ln:=w.n;refine qpn k2 ?_;refine go1 rfl (show B<f1.n by omega) (qy rfl (qe (qdq w (show Fr.tmp ⟨t,ln,[]⟩ Q=_ from tQ) (by omega)))) λx z=>qz ⟨rfl,?_⟩;have n2:x.n=ln:=z.n.trans n1;have r4:x.tmp 4=some (.ptr box 0 0 1):=qdq z (qdq w (show Fr.tmp ⟨t,ln,[]⟩ 4=_ from t4) (by omega)) (by omega);have rA:x.tmp A=some (.int .i64 a):=qdq z w.get (by omega);have rB:x.tmp B=some (.int .i64 p):=z.get;have ab:x.defers=[]:=z.ds.trans w.ds;let Hb:=H.put L (.loop .busy none lt ln [P,Q] (.seq m o) (.block k (.seq c3 (.cond (.tmp f) .ret .skip))) M);have C:qll H L=some Hb:=by
  simp only [qll,g];exact kq (by rw [hR];omega)
 refine ⟨Hb,C,?_⟩;have nL:∀ n,n<b∨soft (H.get n)=true->n≠L:=λn c=>by
  rintro rfl;rcases c with c | c
  .omega
  .rw [g] at c;cases c
 have a1:I out Hb:=Y.loc (λn c=>zd (nL n c)) rfl rfl (by omega) (by show b<=H.next;omega) hI;have a2:∀ n,Hb.next<=n->Hb.get n=none:=λn c=>by
  have c:H.next<=n:=c
  rw [show Hb.get n=H.get n from zd (by omega)];exact wf n c
 have a3:z9 Hb box (.func (.yield y) [] []):=by
  obtain ⟨ty,hty⟩:=q;refine ⟨ty,?_⟩;have a4:box≠L:=by
   rintro rfl;rw [S] at hty;cases hty
  rw [show Hb.get box=H.get box from zd a4];exact (hK box Z a0 (by rw [hty];rfl)).trans hty
 refine qah (za (qpn k3 ?_));refine go1 rfl (by omega) (jm rfl zqs (qe r4) (qa0 a3 rfl zqo zl7)) λf3 T=>?_;have n3:f3.n=ln:=T.n.trans n2;refine go1 rfl (by omega) (zf rfl (qe (qdq T rA (by omega)))) λf4 U=>?_;have n4:f4.n=ln:=U.n.trans n3;refine go1 rfl (by omega) (zf rfl (qe (qdq U (qdq T rB (by omega)) (by omega)))) λf5 W=>?_;have n5:f5.n=ln:=W.n.trans n4;refine qx3 rfl (by omega) (qe7 rfl rfl (qe (qdq W (qdq U T.get (by omega)) (by omega))) (zg (qe (qdq W U.get (by omega))) (zg (qe W.get) jn)) rfl) (Y.run a p a1 (by show b<=H.next;omega) a2 u) λv d hv f6 u6=>?_;obtain ⟨rfl,a5,st⟩:=hv;have n6:f6.n=ln:=u6.n.trans n5;refine go1 rfl (by omega) (q72 rfl (qe u6.get)) λf7 u7=>qz (qk ?_);refine qb8 (qe u7.get) (qej (qa3 ?_));have a6:H.next<=d.next:=st.next
 have D:d.get L=some (.loop .busy none lt ln [P,Q] (.seq m o) (.block k (.seq c3 (.cond (.tmp f) .ret .skip))) M):=(st.old L hL (by show L<H.next;omega) (by rw [show Hb.get L=_ from zo];rfl)).trans zo;let F:=d.put L (.loop .ready none lt ln [P,Q] (.seq m o) (.block k (.seq c3 (.cond (.tmp f) .ret .skip))) M);have G:d.ro=H1.ro:=st.ro.trans hR;have J:qgi L (.normal,f7,d)=some (.ret (.bool true),F):=by
  simp only [qgi,qeb,D];show (d.upd L _).map _=_;rw [kq (by rw [G];omega)];rfl
 refine ⟨_,F,J,rfl,⟨Y.loc (λn c=>zd (by rintro rfl;rcases c with c | c<;>first | omega | (rw [D] at c;cases c))) rfl rfl (by omega) (by show b<=d.next;omega) a5,λn s j l=>?_,G,st.qp.trans hG⟩,⟨a6,st.ro,st.qp,λn c=>?_,λn s j l=>?_⟩⟩
 .by_cases i:n=L
  .subst i;rw [S];exact zo
  .have e:Hb.get n=H.get n:=zd i;have K:=hK n s j l;rw [show F.get n=d.get n from zd i,st.old n s (by show n<H.next;omega) (by rw [e,K];exact l),e];exact K
 .have c:d.next<=n:=c
  rw [show F.get n=d.get n from zd (by omega)];exact st.wf n c
 .have e:Hb.get n=H.get n:=zd (by omega);rw [show F.get n=d.get n from zd (by omega),st.old n (by omega) j (by rw [e];exact l)];exact e
variable {sp:Nat->Option (List V->Heap->Option (CR×Heap))}
def Marks (c:Nat) (H:Heap) (ds:List Dfr):Prop:=ds.Nodup/\∀ x ∈ ds,∃ m,x=.mark m/\c<=m/\m<H.next/\H.get m=some .dfr
theorem Marks.step {b c:Nat} {H H':Heap} {ds:List Dfr} (h:Marks c H ds) (st:StepB b H H') (i:b<=c):Marks c H' ds:=
 ⟨h.1,λx e=>by
  obtain ⟨m,f,g,a,d⟩:=h.2 x e;exact ⟨m,f,g,zL a st.next,(st.old m (by omega) a (by rw [d];rfl)).trans d⟩⟩
theorem qyh {c:Nat}:∀ {ds:List Dfr} {H:Heap},Marks c H ds->H.ro<=c->(∀ n,H.next<=n->H.get n=none)->∃ H',jh ds H=some H'/\H'.next=H.next/\H'.ro=H.ro/\H'.qp=H.qp/\(∀ n,n<c∨soft (H.get n)=true->H'.get n=H.get n)/\∀ n,H'.next<=n->H'.get n=none
 | [],H,_,_,f=>⟨H,rfl,rfl,rfl,rfl,λ_ _=>rfl,f⟩
 | x::ds,H,h,l,f=>by
  obtain ⟨m,rfl,z,A,g⟩:=h.2 x zC;have e:=List.nodup_cons.1 h.1;let H1:=H.put m .gone;have a:∀ n,n≠m->H1.get n=H.get n:=λn e=>zd e;obtain ⟨H',o,p,q,r,s,t⟩:=qyh (ds:=ds) (H:=H1) ⟨e.2,λy i=>by
   obtain ⟨j,k,u,v,w⟩:=h.2 y (zG _ i);exact ⟨j,k,u,v,(a j (by rintro rfl;subst k;exact e.1 i)).trans w⟩⟩ l (λn b=>by
    have b:H.next<=n:=b
    rw [a n (by omega)];exact f n b)
  refine ⟨H',?_,p,q,r,λn b=>?_,t⟩
  .simp only [jh,g,kq (show H.ro<=m by omega),zB];exact o
  .have d:n≠m:=by
    rintro rfl;rcases b with h | h
    .omega
    .rw [g] at h;cases h
   exact (s n (by rw [a n d];exact b)).trans (a n d)
theorem za9 {H:Heap} (wf:∀ n,H.next<=n->H.get n=none) {n:Nat} (h:soft (H.get n)=true):n<H.next:=by
 by_cases a:n<H.next
 .exact a
 .rw [wf n (by omega)] at h;cases h
theorem qy3 {fn y b box A B P Q X g d1 D G J q k c:Nat} {I:List Played->Heap->Prop} {H:Heap} {fr:Fr} {r s c3:Code} {ts:Array TypeId} {p:List V} {out S:List Played} {R:Ex->Fr->Heap->Prop}
  (Y:Yields (cfg sp).E y b I) (hI:I out H) (hb:b<=H.next) (M:H.ro<=b) (wf:∀ n,H.next<=n->H.get n=none) (a3:b<=c) (N:c<=H.next) (O:Marks c H fr.defers)
  (T:b<=box) (U:box<H.next) (u:z9 H box (.func (.yield y) [] [])) (h4:fr.tmp 4=some (.ptr box 0 0 1)) (hX:fr.tmp X=some (.func (.func g) [] p)) (W:qgc (cfg sp).E g=true)
  (k1:jo r=some [(some A,.assign (.tmp P))]) (k2:jo s=some [(some B,.assign (.tmp Q))])
  (k3:jo c3=some [(some d1,.load 174 (.tmp 4)),(some D,.move (.tmp A)),(some G,.move (.tmp B)),(some J,.call ⟨.value (.tmp d1),#[(.tmp D),(.tmp G)],ts⟩),(some q,.unOp .not 4 (.tmp J))])
  (ho:4<A/\A<B/\B<P/\P<Q/\Q<d1/\d1<D/\D<G/\G<J/\J<q/\q<fr.n)
  (v:∀ {L Z:Nat} {w:List Played->Heap->Prop} {z:Heap},Yields (cfg sp).E L Z w->w out z->Z=z.next->StepB b H z->(∀ o K,w o K->I o K)->(∀ o K n,w o K->b<=n->n<H.next->soft (H.get n)=false->K.get n=H.get n)->qaa (cfg sp).E (.func g) ([]++[.func (.yield L) [] []]++p) z λ_ f=>w (out++S) f/\StepB Z z f)
  (kk:∀ fr' i,(∀ t,fr'.tmp t=fr.tmp t)->fr'.n=fr.n->Marks c i fr'.defers->I (out++S) i->StepB b H i->R .normal fr' i) :
  Wp (cfg sp).E fn none (.rangeFunc (.tmp X) #[P,Q] (.seq r s) (.block k (.seq c3 (.cond (.tmp q) .ret .skip)))) fr H R:=by
 let j:=H.new .dfr;let Hb:=j.new (.loop .ready none fr.tmps fr.n [P,Q] (.seq r s) (.block k (.seq c3 (.cond (.tmp q) .ret .skip))) H.next);have sa:StepA H j:=qbf wf;have sb:StepA j Hb:=qbf sa.wf;have ea:j.next=H.next+1:=qi
 have eb:Hb.next=H.next+2:=qi.trans (by rw [ea])
 have st:=sa.trans sb;have gL:Hb.get j.next=some (.loop .ready none fr.tmps fr.n [P,Q] (.seq r s) (.block k (.seq c3 (.cond (.tmp q) .ret .skip))) H.next):=zl
 have gD:Hb.get H.next=some .dfr:=(ke (by omega)).trans zl
 have a:∀ n,n<H.next->Hb.get n=H.get n:=λn e=>(ke (by omega)).trans (ke e)
 have a0:I out Hb:=Y.loc (λn e=>a n (by rcases e with h | h<;>first | omega | exact za9 wf h)) st.ro st.qp hb (by omega) hI;have F:=forward (k:=k) Y (H1:=Hb) (by omega) (by rw [st.ro];exact M) (show b<=j.next by omega) (show j.next<Hb.next by omega) gL T (by omega) (by obtain ⟨t,ht⟩:=u;exact ⟨t,(a box U).trans ht⟩) h4 k1 k2 k3 ho;refine qzf (mk:=[Dfr.mark H.next]) (H1:=j) (d:=H.next) (qe hX) W rfl ?_;refine (v F ⟨a0,λ_ _ _ _=>rfl,rfl,rfl⟩ rfl st.up (λ_ _ h=>h.1) (λo K n h h0 l hs=>(h.2.1 n h0 (by omega) (by rw [a n l];exact hs)).trans (a n l))).mono λ_ f hA=>?_;obtain ⟨⟨i1,i2,i3,i4⟩,s3⟩:=hA;have g3:=(i2 j.next (by omega) (by omega) (by rw [gL];rfl)).trans gL;let i:=f.put j.next (.loop .exhausted none fr.tmps fr.n [P,Q] (.seq r s) (.block k (.seq c3 (.cond (.tmp q) .ret .skip))) H.next)
 refine ⟨.normal,i,?_,?_⟩
 .show qab f j.next=_
  simp only [qab,g3,qbo];rw [kq (by rw [i3,st.ro];omega)];rfl
 have s4:StepB b H i:=by
  have a1:=s3.next
  refine ⟨by show H.next<=f.next;omega,i3.trans st.ro,i4.trans st.qp,λn e=>?_,λn h0 l hs=>?_⟩
  .have e:f.next<=n:=e
   rw [show i.get n=f.get n from zd (by omega)];exact s3.wf n e
  .rw [show i.get n=f.get n from zd (by omega),i2 n h0 (by omega) (by rw [a n l];exact hs)];exact a n l
 have a1:=s3.next
 have a2:i.get H.next=some .dfr:=by
  rw [show i.get H.next=f.get H.next from zd (by omega),i2 H.next (by omega) (by omega) (by rw [gD];rfl)];exact gD
 refine kk _ i (λ_=>rfl) rfl ⟨?_,λx C=>?_⟩ (Y.loc (λn e=>zd (by rintro rfl;rcases e with e | e<;>first | omega | (rw [g3] at e;cases e))) rfl rfl (by omega) (by show b<=f.next;omega) i1) s4
 .refine List.nodup_cons.2 ⟨λC=>?_,O.1⟩;obtain ⟨m,l,_,h3,_⟩:=O.2 _ C;cases l;omega
 .rcases zD.1 C with rfl | C
  .exact ⟨H.next,rfl,N,by show H.next<f.next;omega,a2⟩
  .obtain ⟨m,l,h2,h3,h5⟩:=O.2 x C;exact ⟨m,l,h2,zL h3 s4.next,(s4.old m (by omega) h3 (by rw [h5];rfl)).trans h5⟩
variable {sp:Nat->Option (List V->Heap->Option (CR×Heap))}
theorem q1u (r:(cfg sp).E.spec 99=none) {H:Heap} {c d:V} {a:Int} (wf:∀ n,H.next<=n->H.get n=none) (s:c.cells=[c]) (t:d.cells=[d]):qaa (cfg sp).E (.func 99) [c,.int .i64 a,d] H λv H'=>
  StepA H H'/\∃ n0,H.next<=n0/\n0+2<H'.next/\v=.func (.func 116) [] [.ptr n0 0 0 1,.ptr (n0+2) 0 0 1,.ptr (n0+1) 0 0 1]/\z9 H' n0 c/\z9 H' (n0+1) (.int .i64 a)/\z9 H' (n0+2) d:=by
 refine qb3 r zsc rfl ((?_:∀ e:Fr,e.tmp 0=some c->e.tmp 1=some (.int .i64 a)->e.tmp 2=some d->e.n=8->e.defers=[]->Wp (cfg sp).E 99 none (qa8 99) e H _) _ (zp rfl) (zp rfl) (zp rfl) rfl rfl);intro e u w x n0 y;rw [zhh];refine za (zt ztj ?_);refine go1 rfl (by omega) (qiz rfl (qe u)) λI f=>?_;have z:=f.n.trans n0;rw [s] at f ⊢;refine go1 rfl (by omega) (qiz rfl (qe (f.ne w))) λJ i=>?_;have A:=i.n.trans z;refine go1 rfl (by omega) (qiz rfl (qe (i.ne (f.ne x)))) λK g=>?_;have B:=g.n.trans A;rw [t] at g ⊢;refine go1 rfl (by omega) (qy rfl (v:=.nilf) rfl) λL j=>qz (qk ?_);have C:=j.n.trans B;refine za (zt ztk ?_);refine go1 rfl (by omega) (qnc rfl jn (zg (qe (j.ne (g.ne (i.ne f.get)))) (zg (qe (j.ne g.get)) (zg (qe (j.ne (g.ne i.get))) jn)))) λM k=>?_;have N:=k.n.trans C;refine go1 rfl (by omega) (qy rfl (qe k.get)) λO o=>qz (qk (qhw ?_));refine ⟨.inr rfl,_,by rw [o.ds,k.ds,j.ds,g.ds,i.ds,f.ds,y];rfl,[_],qc4 o.get qeg,?_⟩;let H1:=z5 H [c] 22;let b:=z5 H1 [.int .i64 a] 3;let h:=z5 b [d] 109;have p:StepA H H1:=qbf wf;have q:StepA H1 b:=qbf p.wf;have D:StepA b h:=qbf q.wf;have l:H1.next=H.next+1:=qi
 have m:b.next=H.next+2:=qi.trans (by rw [l])
 have P:h.next=H.next+3:=qi.trans (by rw [m])
 have F:z9 h b.next d:=qg9
 have G:z9 h H1.next (.int .i64 a):=qf3 (H:=b) (qg9 (H:=H1)) (by omega)
 have c3:z9 h H.next c:=qf3 (H:=b) (qf3 (H:=H1) (qg9 (H:=H)) (by omega)) (by omega)
 refine ⟨p.trans (q.trans D),H.next,zN _,by show H.next+2<h.next;omega,?_,?_,?_,?_⟩
 .show V.func (.func 116) [] [.ptr H.next 0 0 1,.ptr b.next 0 0 1,.ptr H1.next 0 0 1]=_;rw [l,m]
 .exact c3
 .rw [<-l];exact G
 .rw [<-m];exact F
def qwt (H:Heap):V->List Repeat->Prop
 | sv,[]=>sv=.nils∨∃ nm g off z cap,sv=.slice nm g off 0 z cap
 | sv,r::rs=>∃ nm g off cap q b d lim a,sv=.slice nm g off (rs.length+1) 1 cap/\nm<H.next/\q<H.next/\jr H (tyP 135) (.ptr nm g off (off+(rs.length+1)))=some (.ptr q b d lim)/\
  jr H (tyP 3) (.ptr q b d lim)=some (.int .i64 r.From)/\jr H (tyP 3) (.ptr q b (d+1) lim)=some (.int .i64 r.To)/\jr H (tyP 3) (.ptr q b (d+2) lim)=some (.int .i64 r.N)/\
  qbe (tyP 135).size sv (some (.int .i64 1)) none none=some a/\qwt H a rs
theorem qji {H:Heap} {a:V} {rs:List Repeat} (h:qwt H a rs):a.cells=[a]/\isHole a=false:=by
 cases rs with
 | nil=>rcases h with rfl | ⟨_,_,_,_,_,rfl⟩<;>exact ⟨rfl,rfl⟩
 | cons r rs=>
  obtain ⟨_,_,_,_,_,_,_,_,_,rfl,_⟩:=h;exact ⟨rfl,rfl⟩
variable {sp:Nat->Option (List V->Heap->Option (CR×Heap))}
theorem zqr:(cfg sp).E.types 125=some (tyP 125):=by kernel_rfl
theorem q96:(qc1 (tyP 125) 0).map (λf=>(f.offset,f.type))=some (0,3):=by kernel_rfl
theorem q97:(qc1 (tyP 125) 1).map (λf=>(f.offset,f.type))=some (1,3):=by kernel_rfl
theorem zh5:(qc1 (tyP 125) 2).map (λf=>(f.offset,f.type))=some (2,3):=by kernel_rfl
section
variable {o:Oper} {fr:Fr} {H H':Heap} {t:Nat}
theorem qyu {c:V} {rs:List Repeat} (h:qwt H c rs) (a:o.op=.call ⟨.builtin .len,#[.tmp t],#[109]⟩) (b:fr.tmp t=some c):zb (cfg sp).E o fr H'=some (.val (.int .i64 rs.length),H'):=by
 cases rs with
 | nil=>
  rcases h with rfl | ⟨_,_,_,_,_,rfl⟩
  .exact qo5 a rfl rfl rfl qhv qux (qe b)
  .exact qi0 a rfl rfl rfl qhv qux (qe b)
 | cons r rs=>
  obtain ⟨_,_,_,_,_,_,_,_,_,rfl,_⟩:=h;exact qi0 a rfl rfl rfl qhv qux (qe b)
def q7k (a:V) (l:List Sign):Prop:=(a=.nils/\l=[])∨∃ nm g off z cap,a=.slice nm g off l.length z cap
theorem zql {a:V} {l:List Sign} (h:q7k a l) (b:o.op=.call ⟨.builtin .len,#[.tmp t],#[22]⟩) (c:fr.tmp t=some a):zb (cfg sp).E o fr H'=some (.val (.int .i64 l.length),H'):=by
 rcases h with ⟨rfl,rfl⟩ | ⟨_,_,_,_,_,rfl⟩
 .exact qo5 b rfl rfl rfl qoy zgv (qe c)
 .exact qi0 b rfl rfl rfl qoy zgv (qe c)
theorem qe1 {a:V} {l:List Sign} (h:q7k a l):a.cells=[a]/\isHole a=false:=by
 rcases h with ⟨rfl,rfl⟩ | ⟨_,_,_,_,_,rfl⟩<;>exact ⟨rfl,rfl⟩
theorem qr3 {x:Operand} {k j q e d lim:Nat} (g:(qc1 (tyP 125) k).map (λf=>(f.offset,f.type))=some (j,3)) (h:o.op=.fieldAddr 125 x k) (i:opd fr H x=some (.ptr q e d lim)):zb (cfg sp).E o fr H=some (.val (.ptr q e (d+j) lim),H):=by
 obtain ⟨f,l,a⟩:=zM.1 g;obtain ⟨b,c⟩:=Prod.mk.inj a;have:=qlr (E:=(cfg sp).E) h zqr l (by rw [c];exact qwd) (by rw [qz2];rfl) i;rw [b] at this;exact this
theorem qrr {E:Env} {x:Operand} {q a j lim:Nat} (b:o.op=.nilCheck x) (c:opd fr H x=some (.ptr q a j lim)):zb E o fr H=some (.val (.ptr q a j lim),H):=by
 simp only [zb,b,c]
theorem zji {pl q s d lim:Nat} {c:V} {r:Repeat} {p:Int} {Q:Ex->Fr->Heap->Prop} (U:(cfg sp).E.spec 117=none) (wf:∀ n,H.next<=n->H.get n=none) (W:c.cells=[c]) (X:isHole c=false) (t:pl<H.next) (Y:z9 H pl c) (J:q<H.next)
  (Z:jr H (tyP 3) (.ptr q s d lim)=some (.int .i64 r.From)) (l1:jr H (tyP 3) (.ptr q s (d+1) lim)=some (.int .i64 r.To)) (t1:fr.tmp 1=some (.ptr pl 0 0 1)) (K:fr.tmp 8=some (.ptr q s d lim)) (t9:fr.tmp 9=some (.int .i64 p)) (a:fr.n=84)
  (k:∀ g b n0,Alike 49 fr g->g.tmp 59=some (.func (.func 134) [] [.ptr (n0+1) 0 0 1,.ptr (n0+2) 0 0 1,.ptr n0 0 0 1,.ptr (n0+3) 0 0 1])->StepA H b->H.next<=n0->n0+3<b.next->z9 b n0 c->z9 b (n0+1) (.int .i64 r.From)->z9 b (n0+2) (.int .i64 r.To)->z9 b (n0+3) (.int .i64 p)->Q .normal g b) :
  Wp (cfg sp).E 116 none (rg 116 13) fr H Q:=by
 refine zbr zie λh0=>?_;refine zb9 h0 q0a (zN H.next) qoy t1 t (by omega) (qa0 Y X qvx qwx) λD1 f1 a0 h1 c1 L=>?_;have w:=Alike.refl.upd (m:=49) L (by omega);have n1:=w.2.1.trans a;refine gd1 h1 c1 (zN _) (by kernel_rfl) (by omega) (λfr' H' h=>zf rfl (qe ((h 8 (by simp [Op.operands])).trans ((w.1 8 (by omega)).trans K)))) λD2 f2 a1 h2 c2 x=>?_;have M:=w.upd x (by omega);have n2:=M.2.1.trans a;refine gd1 h2 c2 (zN _) (by kernel_rfl) (by omega) (λfr' H' h=>qrr rfl (qe ((h 50 (by simp [Op.operands])).trans x.get))) λD3 f3 a2 h3 c3 y=>?_;have N:=M.upd y (by omega);have n3:=N.2.1.trans a;refine gd1 h3 c3 (zN _) (by kernel_rfl) (by omega) (λfr' H' h=>qr3 q96 rfl (qe ((h 51 (by simp [Op.operands])).trans y.get))) λD4 f4 a3 h4 c4 z=>?_;have O:=N.upd z (by omega);have n4:=O.2.1.trans a;refine zb9 h4 c4 (zN _) qwd z.get J (by omega) Z λD5 f5 a4 h5 c5 A=>?_;have B:=O.upd A (by omega);have n5:=B.2.1.trans a;refine gd1 h5 c5 (zN _) (by kernel_rfl) (by omega) (λfr' H' h=>zf rfl (qe ((h 8 (by simp [Op.operands])).trans ((B.1 8 (by omega)).trans K)))) λD6 f6 a5 h6 c6 f=>?_;have P:=B.upd f (by omega);have n6:=P.2.1.trans a;refine gd1 h6 c6 (zN _) (by kernel_rfl) (by omega) (λfr' H' h=>qrr rfl (qe ((h 54 (by simp [Op.operands])).trans f.get))) λD7 f7 a6 h7 c7 i=>?_;have R:=P.upd i (by omega);have n7:=R.2.1.trans a
 refine gd1 h7 c7 (zN _) (by kernel_rfl) (by omega) (λfr' H' h=>qr3 q97 rfl (qe ((h 55 (by simp [Op.operands])).trans i.get))) λD8 f8 a7 h8 c8 j=>?_;have S:=R.upd j (by omega);have n8:=S.2.1.trans a;refine zb9 h8 c8 (zN _) qwd j.get J (by omega) l1 λD9 f9 a8 h9 c9 l=>?_;have C:=S.upd l (by omega);have n9:=C.2.1.trans a;refine gd1 h9 c9 (zN _) (by kernel_rfl) (by omega) (λfr' H' h=>zf rfl (qe ((h 9 (by simp [Op.operands])).trans ((C.1 9 (by omega)).trans t9)))) λDa D a9 ha ca e=>?_;have T:=C.upd e (by omega);have na:=T.2.1.trans a;have F:D.tmp 49=some c:=e.ne (l.ne (j.ne (i.ne (f.ne (A.ne (z.ne (y.ne (x.ne L.get))))))));have G:D.tmp 53=some (.int .i64 r.From):=e.ne (l.ne (j.ne (i.ne (f.ne A.get))));have I:D.tmp 57=some (.int .i64 r.To):=e.ne l.get
 refine zsf ha ca zhc zir (λo fr h=>by simp only [qfe,h];rfl) (by omega) (λfr' H' h=>qe7 rfl rfl rfl (zg (qe ((h 49 (by first | exact List.Mem.head _ | exact .tail _ (.head _) | exact .tail _ (.tail _ (.head _)) | exact .tail _ (.tail _ (.tail _ (.head _))) | exact .tail _ (.tail _ (.tail _ (.tail _ (.head _)))))).trans F)) (zg (qe ((h 53 (by first | exact List.Mem.head _ | exact .tail _ (.head _) | exact .tail _ (.tail _ (.head _)) | exact .tail _ (.tail _ (.tail _ (.head _))) | exact .tail _ (.tail _ (.tail _ (.tail _ (.head _)))))).trans G)) (zg (qe ((h 57 (by first | exact List.Mem.head _ | exact .tail _ (.head _) | exact .tail _ (.tail _ (.head _)) | exact .tail _ (.tail _ (.tail _ (.head _))) | exact .tail _ (.tail _ (.tail _ (.tail _ (.head _)))))).trans I)) (zg (qe ((h 58 (by first | exact List.Mem.head _ | exact .tail _ (.head _) | exact .tail _ (.tail _ (.head _)) | exact .tail _ (.tail _ (.tail _ (.head _))) | exact .tail _ (.tail _ (.tail _ (.tail _ (.head _)))))).trans e.get)) jn)))) rfl) ((qqm U wf W).mono λv b hA=>?_);obtain ⟨st,n0,m0,m1,rfl,q0,q1,q2,q3⟩:=hA;exact ⟨st.next,st.ro,st.qp,λfr' u=>k fr' b n0 (T.upd u (by omega)) u.get st m0 m1 q0 q1 q2 q3⟩
theorem zjj {pl l q J d lim nm gn off len:Nat} {cap:Option Nat} {e p a:V} {r:Repeat} {Q:Ex->Fr->Heap->Prop} (T:(cfg sp).E.spec 99=none) (wf:∀ n,H.next<=n->H.get n=none) (U:e.cells=[e]) (W:isHole e=false) (s:pl<H.next) (X:z9 H pl e) (t:l<H.next) (br:z9 H l p)
  (he:p=.slice nm gn off len 1 cap) (w:qbe (tyP 135).size p (some (.int .i64 1)) none none=some a) (x:a.cells=[a]) (Y:q<H.next) (Z:jr H (tyP 3) (.ptr q J (d+1) lim)=some (.int .i64 r.To)) (hT:0<=r.To/\r.To<=1000)
  (t1:fr.tmp 1=some (.ptr pl 0 0 1)) (t2:fr.tmp 2=some (.ptr l 0 0 1)) (t8:fr.tmp 8=some (.ptr q J d lim)) (b:fr.n=84)
  (k:∀ g c n0,Alike 68 fr g->g.tmp 76=some (.func (.func 116) [] [.ptr n0 0 0 1,.ptr (n0+2) 0 0 1,.ptr (n0+1) 0 0 1])->StepA H c->H.next<=n0->n0+2<c.next->z9 c n0 e->z9 c (n0+1) (.int .i64 (r.To+1))->z9 c (n0+2) a->Q .normal g c) :
  Wp (cfg sp).E 116 none (rg 116 18) fr H Q:=by
 subst he;refine zbr zij λh0=>?_;refine zb9 h0 q0a (zN H.next) qoy t1 s (by omega) (qa0 X W qvx qwx) λD1 f1 a0 h1 c1 K=>?_;have y:=Alike.refl.upd (m:=68) K (by omega);have n1:=y.2.1.trans b;refine gd1 h1 c1 (zN _) (by kernel_rfl) (by omega) (λfr' H' h=>zf rfl (qe ((h 8 (by simp [Op.operands])).trans ((y.1 8 (by omega)).trans t8)))) λD2 f2 a1 h2 c2 z=>?_;have L:=y.upd z (by omega);have n2:=L.2.1.trans b;refine gd1 h2 c2 (zN _) (by kernel_rfl) (by omega) (λfr' H' h=>qrr rfl (qe ((h 69 (by simp [Op.operands])).trans z.get))) λD3 f3 a2 h3 c3 A=>?_;have M:=L.upd A (by omega);have n3:=M.2.1.trans b;refine gd1 h3 c3 (zN _) (by kernel_rfl) (by omega) (λfr' H' h=>qr3 q97 rfl (qe ((h 70 (by simp [Op.operands])).trans A.get))) λD4 f4 a3 h4 c4 B=>?_;have N:=M.upd B (by omega);have n4:=N.2.1.trans b;refine zb9 h4 c4 (zN _) qwd B.get Y (by omega) Z λD5 f5 a4 h5 c5 C=>?_;have O:=N.upd C (by omega);have n5:=O.2.1.trans b;refine gd1 h5 c5 (zN _) (by kernel_rfl) (by omega) (λfr' H' h=>qbn rfl ⟨by simp,by simp⟩ (qe ((h 72 (by simp [Op.operands])).trans C.get)) (j:=1) rfl (qwv (by omega) (by omega))) λD6 f6 a5 h6 c6 D=>?_;have F:=O.upd D (by omega);have n6:=F.2.1.trans b;refine zb9 h6 c6 (zN _) qhv ((F.1 2 (by omega)).trans t2) t (by omega) (qa0 br rfl quv qtt) λD7 f7 a6 h7 c7 f=>?_;have P:=F.upd f (by omega);have n7:=P.2.1.trans b
 refine gd1 h7 c7 (zN _) (by kernel_rfl) (by omega) (λfr' H' h=>qt0 rfl qhv qux qze (qe ((h 74 (by simp [Op.operands])).trans f.get)) (vlo:=some (.int .i64 1)) rfl rfl w) λD8 R a7 h8 c8 i=>?_;have S:=P.upd i (by omega);have n8:=S.2.1.trans b;have G:R.tmp 68=some e:=i.ne (f.ne (D.ne (C.ne (B.ne (A.ne (z.ne K.get))))));have I:R.tmp 73=some (.int .i64 (r.To+1)):=i.ne (f.ne D.get);refine zsf h8 c8 zhd zis (λo fr h=>by simp only [qfe,h];rfl) (by omega) (λfr' H' h=>qe7 rfl rfl rfl (zg (qe ((h 68 (by first | exact List.Mem.head _ | exact .tail _ (.head _) | exact .tail _ (.tail _ (.head _)) | exact .tail _ (.tail _ (.tail _ (.head _))) | exact .tail _ (.tail _ (.tail _ (.tail _ (.head _)))))).trans G)) (zg (qe ((h 73 (by first | exact List.Mem.head _ | exact .tail _ (.head _) | exact .tail _ (.tail _ (.head _)) | exact .tail _ (.tail _ (.tail _ (.head _))) | exact .tail _ (.tail _ (.tail _ (.tail _ (.head _)))))).trans I)) (zg (qe ((h 75 (by first | exact List.Mem.head _ | exact .tail _ (.head _) | exact .tail _ (.tail _ (.head _)) | exact .tail _ (.tail _ (.tail _ (.head _))) | exact .tail _ (.tail _ (.tail _ (.tail _ (.head _)))))).trans i.get)) jn))) rfl) ((q1u T wf U x).mono λv c hA=>?_);obtain ⟨st,n0,m0,m1,rfl,q0,q1,q2⟩:=hA;exact ⟨st.next,st.ro,st.qp,λfr' u=>k fr' c n0 (S.upd u (by omega)) u.get st m0 m1 q0 q1 q2⟩
end
variable {sp:Nat->Option (List V->Heap->Option (CR×Heap))}
def zu2 (l:List Sign):List Repeat->Int
 | []=>l.length
 | r::_=>r.From
theorem zaz {pl j:Nat} {e u sv:V} {l:List Sign} {a:List Repeat} {fr:Fr} {H:Heap} {c:Code} {Q:Ex->Fr->Heap->Prop} (wf:∀ n,H.next<=n->H.get n=none) (hy:e.cells=[e]) (S:q7k u l) (v:pl<H.next) (bl:z9 H pl u) (w:j<H.next) (br:z9 H j sv) (x:qwt (z5 H [e] 174) sv a)
  (t0:fr.tmp 0=some e) (t1:fr.tmp 1=some (.ptr pl 0 0 1)) (T:fr.tmp 2=some (.ptr j 0 0 1)) (b:fr.n=84)
  (k:∀ g,Alike 4 fr g->g.tmp 4=some (.ptr H.next 0 0 1)->g.tmp 5=some (.int .i64 (zu2 l a))->Wp (cfg sp).E 116 none c g (z5 H [e] 174) Q) :
  Wp (cfg sp).E 116 none (.seq (rg 116 0) (.seq (rg 116 1) (.seq (.seq (rg 116 2) (.cond (.tmp 18) (rg 116 3) .skip)) c))) fr H Q:=by
 let H1:=z5 H [e] 174;have y:z9 H1 pl u:=qf3 bl v;have f:z9 H1 j sv:=qf3 br w;refine za (zt zoy ?_);refine go1 rfl (by omega) (qiz rfl (qe t0)) λf1 o=>qz (qk ?_);rw [hy] at o ⊢;have U:=Alike.refl.upd (m:=4) o (by omega);have n1:=U.2.1.trans b;refine za (zt zoz ?_);refine go1 rfl (by omega) (jm rfl qoy (qe (o.ne t1)) (qa0 y (qe1 S).2 qvx qwx)) λf2 z=>?_;have W:=U.upd z (by omega);have n2:=W.2.1.trans b;refine go1 rfl (by omega) (zql S rfl z.get) λf3 A=>?_;have X:=W.upd A (by omega);have n3:=X.2.1.trans b;refine go1 rfl (by omega) (qy rfl (qe A.get)) λf4 B=>qz (qk ?_);have C:=X.upd B (by omega);have n4:=C.2.1.trans b;have w4:f4.tmp 4=some (.ptr H.next 0 0 1):=B.ne (A.ne (z.ne o.get));refine za (za (zt zo0 ?_));refine go1 rfl (by omega) (jm rfl qhv (qe ((C.1 2 (by omega)).trans T)) (qa0 f (qji x).2 quv qtt)) λf5 p=>?_;have Y:=C.upd p (by omega);have n5:=Y.2.1.trans b;refine go1 rfl (by omega) (qyu x rfl p.get) λf6 s=>?_;have Z:=Y.upd s (by omega);have n6:=Z.2.1.trans b;have D:jb .gtr .i64 a.length 0=some (.bool (decide ((0:Int)<a.length))):=by simp [jb]
 refine go1 rfl (by omega) (qbn rfl ⟨by simp,by simp⟩ (qe s.get) rfl D) λF h=>qz (qk ?_);have t:=Z.upd h (by omega);have n7:=t.2.1.trans b;have i:F.tmp 4=some (.ptr H.next 0 0 1):=h.ne (s.ne (p.ne w4));have G:F.tmp 5=some (.int .i64 l.length):=h.ne (s.ne (p.ne B.get));cases a with
 | nil=>exact qb8 (qe h.get) (qej (qk (k F t i G)))
 | cons r rs=>
  obtain ⟨nm,g,off,cap,q,pg,d,lim,a0,rfl,a1,hq,I,l0,l1,l2,a2,a3⟩:=x;refine qdj (qe (h.get.trans (by simp))) (zt zo1 ?_);have J:kj (tyP 135).size (.slice nm g off (rs.length+1) 1 cap) (.int .i64 0)=some (.ptr nm g off (off+(rs.length+1))):=by
   rw [q88];simp [kj]
  refine go1 rfl (by omega) (jm rfl qhv (qe ((t.1 2 (by omega)).trans T)) (qa0 f rfl quv qtt)) λf8 K=>?_;have A8:=t.upd K (by omega);have n8:=A8.2.1.trans b;refine go1 rfl (by omega) (qc0 rfl qhv qux qze (qe K.get) rfl J) λf9 L=>?_;have A9:=A8.upd L (by omega);have n9:=A9.2.1.trans b;refine go1 rfl (by omega) (jm rfl qze (qe L.get) I) λfa M=>?_;have Aa:=A9.upd M (by omega);have na:=Aa.2.1.trans b;refine go1 rfl (by omega) (qrr rfl (qe M.get)) λfb N=>?_;have Ab:=Aa.upd N (by omega);have nb:=Ab.2.1.trans b;refine go1 rfl (by omega) (qr3 q96 rfl (qe N.get)) λfc O=>?_;have Ac:=Ab.upd O (by omega);have nc:=Ac.2.1.trans b;refine go1 rfl (by omega) (jm rfl qwd (qe O.get) l0) λfd P=>?_;have Ad:=Ac.upd P (by omega);have nd:=Ad.2.1.trans b;refine go1 rfl (by omega) (qy rfl (qe P.get)) λfe R=>qz (qk ?_);have Ae:=Ad.upd R (by omega);exact k fe Ae (R.ne (P.ne (O.ne (N.ne (M.ne (L.ne (K.ne i))))))) R.get
theorem zp5 {d nm g off lim:Nat} {e f:V} {rest:Nat} {cap:Option Nat} {fr:Fr} {H:Heap} {Q:Ex->Fr->Heap->Prop} (he:e=.slice nm g off (rest+1) 1 cap) (br:z9 H d e) (a:jr H (tyP 135) (.ptr nm g off (off+(rest+1)))=some f) (s:fr.tmp 2=some (.ptr d 0 0 1)) (b:fr.n=84)
  (k:∀ h,Alike 8 fr h->h.tmp 8=some f->Q .normal h H):Wp (cfg sp).E 116 none (rg 116 9) fr H Q:=by
 subst he;have c:kj (tyP 135).size (.slice nm g off (rest+1) 1 cap) (.int .i64 0)=some (.ptr nm g off (off+(rest+1))):=by
  rw [q88];simp [kj]
 refine zt zo6 ?_;refine go1 rfl (by omega) (jm rfl qhv (qe s) (qa0 br rfl quv qtt)) λu i=>?_;have j:=Alike.refl.upd (m:=8) i (by omega);have v:=j.2.1.trans b;refine go1 rfl (by omega) (qc0 rfl qhv qux qze (qe i.get) rfl c) λw l=>?_;have o:=j.upd l (by omega);have x:=o.2.1.trans b;refine go1 rfl (by omega) (jm rfl qze (qe l.get) a) λy p=>?_;have q:=o.upd p (by omega);have z:=q.2.1.trans b;refine go1 rfl (by omega) (qy rfl (qe p.get)) λt r=>qz ?_;exact k t (q.upd r (by omega)) r.get
theorem zjh {q c d lim:Nat} {n:Int} {fr:Fr} {H:Heap} {Q:Ex->Fr->Heap->Prop} (r:jr H (tyP 3) (.ptr q c (d+2) lim)=some (.int .i64 n)) (s:fr.tmp 8=some (.ptr q c d lim)) (a:fr.n=84)
  (k:∀ h,Alike 42 fr h->h.tmp 45=some (.int .i64 n)->h.tmp 46=some (.int .i64 0)->Q .normal h H):Wp (cfg sp).E 116 none (rg 116 10) fr H Q:=by
 refine zt zib ?_;refine go1 rfl (by omega) (zf rfl (qe s)) λu e=>?_;have f:=Alike.refl.upd (m:=42) e (by omega);have w:=f.2.1.trans a;refine go1 rfl (by omega) (qrr rfl (qe e.get)) λx g=>?_;have i:=f.upd g (by omega);have y:=i.2.1.trans a;refine go1 rfl (by omega) (qr3 zh5 rfl (qe g.get)) λz j=>?_;have l:=i.upd j (by omega);have A:=l.2.1.trans a;refine go1 rfl (by omega) (jm rfl qwd (qe j.get) r) λB o=>?_;have p:=l.upd o (by omega);have C:=p.2.1.trans a;refine go1 rfl (by omega) (zf rfl (v:=.int .i64 0) rfl) λt b=>qz ?_;exact k t (p.upd b (by omega)) (b.ne o.get) b.get
variable {sp:Nat->Option (List V->Heap->Option (CR×Heap))}
theorem Yields.step {E:Env} {y b:Nat} {I:List Played->Heap->Prop} {H H':Heap} {out:List Played} (Y:Yields E y b I) (wf:∀ n,H.next<=n->H.get n=none) (h:StepA H H') (a:b<=H.next) (c:I out H):I out H':=
 Y.loc (λn d=>h.old n (by rcases d with h | h<;>first | omega | exact za9 wf h)) h.ro h.qp a (zR a h.next) c
theorem Alike.trans {m:Nat} {f g h:Fr} (x:Alike m f g) (y:Alike m g h):Alike m f h:=⟨λt a=>(y.1 t a).trans (x.1 t a),y.2.1.trans x.2.1,y.2.2.trans x.2.2⟩
def qqp (P:Heap->Prop):V->List Repeat->Prop
 | sv,[]=>sv=.nils∨∃ nm g off z cap,sv=.slice nm g off 0 z cap
 | sv,r::rs=>∃ nm g off cap q b d lim a,sv=.slice nm g off (rs.length+1) 1 cap/\(∀ H,P H->nm<H.next/\q<H.next/\jr H (tyP 135) (.ptr nm g off (off+(rs.length+1)))=some (.ptr q b d lim)/\
  jr H (tyP 3) (.ptr q b d lim)=some (.int .i64 r.From)/\jr H (tyP 3) (.ptr q b (d+1) lim)=some (.int .i64 r.To)/\jr H (tyP 3) (.ptr q b (d+2) lim)=some (.int .i64 r.N))/\
  qbe (tyP 135).size sv (some (.int .i64 1)) none none=some a/\qqp P a rs
theorem qmf {P:Heap->Prop} {H:Heap} (b:P H):∀ {c:V} {rs:List Repeat},qqp P c rs->qwt H c rs
 | _,[],h=>h
 | _,r::rs,h=>by
  obtain ⟨nm,g,off,cap,q,e,d,lim,a,f,i,j,k⟩:=h;obtain ⟨l,m,n,o,p,s⟩:=i H b;exact ⟨nm,g,off,cap,q,e,d,lim,a,f,l,m,n,o,p,s,j,qmf b k⟩
theorem q33 {P b:Heap->Prop} (c:∀ H,b H->P H):∀ {e:V} {rs:List Repeat},qqp P e rs->qqp b e rs
 | _,[],h=>h
 | _,r::rs,h=>by
  obtain ⟨nm,g,off,cap,q,f,d,lim,a,i,j,k,l⟩:=h;exact ⟨nm,g,off,cap,q,f,d,lim,a,i,λH h=>j H (c H h),k,q33 c l⟩
structure Stat (I:List Played->Heap->Prop) (pl pr pf:Nat) (vl sv:V) (a:Int) (l:List Sign) (reps:List Repeat) (N:Nat):Prop where
 hpl:pl<N
 hpr:pr<N
 hpf:pf<N
 bx:∀ o K,I o K->z9 K pl vl/\z9 K pr sv/\z9 K pf (.int .i64 a)/\q7j K vl l
 rp:qqp (λK=>(∃ o,I o K)/\N<=K.next) sv reps
structure Fram (fr:Fr) (pl pr pf box:Nat):Prop where
 t1:fr.tmp 1=some (.ptr pl 0 0 1)
 t2:fr.tmp 2=some (.ptr pr 0 0 1)
 t3:fr.tmp 3=some (.ptr pf 0 0 1)
 t4:fr.tmp 4=some (.ptr box 0 0 1)
 n:fr.n=84
theorem Fram.of {f g:Fr} {pl a b box:Nat} (F:Fram f pl a b box) (A:∀ t,t<5->g.tmp t=f.tmp t) (c:g.n=f.n):Fram g pl a b box:=
 ⟨(A 1 (by omega)).trans F.t1,(A 2 (by omega)).trans F.t2,(A 3 (by omega)).trans F.t3,(A 4 (by omega)).trans F.t4,c.trans F.n⟩
section
variable {y b c pl pr pf box N:Nat} {I:List Played->Heap->Prop} {H:Heap} {vl sv:V} {a e:Int} {l:List Sign} {reps:List Repeat} {out:List Played} {fr:Fr} {R:Ex->Fr->Heap->Prop}
theorem q0m (u:(cfg sp).E.spec 117=none) (w:(cfg sp).E.spec 134=none) (Y:Yields (cfg sp).E y b I) (V:I out H) (hb:b<=H.next) (x:H.ro<=b) (wf:∀ n,H.next<=n->H.get n=none) (S:Stat I pl pr pf vl sv a l reps N) (d:q7k vl l) (hl:ln l<=1000) (h0:0<=a) (z:a<=e) (A:e<=ln l)
  (f:b<=c) (a0:c<=H.next) (hM:Marks c H fr.defers) (i:b<=box) (B:box<H.next) (j:z9 H box (.func (.yield y) [] [])) (F:Fram fr pl pr pf box) (t5:fr.tmp 5=some (.int .i64 e)) (ho:out.length<=90000)
  (kk:∀ g H',Fram g pl pr pf box->Marks c H' g.defers->I (out++qeq l a e 0) H'->StepB b H H'->R .normal g H') :
  Wp (cfg sp).E 116 none (.seq (rg 116 4) (.block 0 (.rangeFunc (.tmp 28) #[29,30] (.seq (rg 116 5) (rg 116 6)) (.block 1 (.seq (rg 116 7) (.cond (.tmp 35) .ret .skip)))))) fr H R:=by
 obtain ⟨bl,br,bf,hk⟩:=S.bx out H V;have C:=F.n;refine za (zt zo2 ?_);refine go1 rfl (by omega) (jm rfl qoy (qe F.t1) (qa0 bl (qe1 d).2 qvx qwx)) λf1 k=>?_;have W:=Alike.refl.upd (m:=5) k (by omega);have n1:=W.2.1.trans C;refine go1 rfl (by omega) (jm rfl qwd (qe (k.ne F.t3)) (qa0 bf rfl qz2 q4n)) λf2 p=>?_;have X:=W.upd p (by omega);have n2:=X.2.1.trans C;refine go1 rfl (by omega) (zf rfl (qe (p.ne (k.ne t5)))) λf3 q=>?_;have Z:=X.upd q (by omega);have n3:=Z.2.1.trans C;refine qx3 rfl (by omega) (qe7 rfl rfl rfl (zg (qe (q.ne (p.ne k.get))) (zg (qe (q.ne p.get)) (zg (qe q.get) (zg (v:=.int .i64 0) rfl jn)))) rfl) (qqm u wf (qe1 d).1) λv H2 hv f4 u4=>qz (qk ?_);obtain ⟨st,n0,m0,m1,rfl,q0,q1,q2,q3⟩:=hv;have D:=Z.upd u4 (by omega);have G:=F.of D.1 D.2.1;have ds:f4.defers=fr.defers:=D.2.2;refine qah (qy3 (c:=c) (S:=qeq l a e 0) Y (Y.step wf st hb V) (by omega) (by rw [st.ro];exact x) st.wf f (by omega) (by rw [ds];exact hM.step (b:=b) st.up f) i (by omega) (qit (b:=b) j st.up i B) G.t4 u4.get (by kernel_rfl) zo3 zo4 zo5 (by have:=G.n;omega) ?_ ?_)
 .intro L b' I' H3 Y' J a1 M O P;refine qtc w Y' hl h0 z A (λo K h=>(S.bx o K (O o K h)).2.2.2) (qe1 d).2 J (by omega) M.wf (λo K h=>?_) ho;have r:∀ n v,n0<=n->n<=n0+3->z9 H2 n v->z9 K n v:=λn v x0 x1 ⟨t,s⟩=>⟨t,(P o K n h (by omega) (by omega) (by rw [s];rfl)).trans s⟩;exact ⟨r _ _ (by omega) (by omega) q0,r _ _ (by omega) (by omega) q1,r _ _ (by omega) (by omega) q2,r _ _ (by omega) (by omega) q3⟩
 .intro g H4 s hn Q T U;exact qa3 (kk g H4 (G.of (λt _=>s t) hn) Q T (st.up.trans U))
theorem q8u (Z:(cfg sp).E.spec 117=none) (a0:(cfg sp).E.spec 134=none) {r:Repeat} {q x d lim:Nat} (Y:Yields (cfg sp).E y b I) (hI:I out H) (hb:b<=H.next) (a1:H.ro<=b) (wf:∀ n,H.next<=n->H.get n=none) (S:Stat I pl pr pf vl sv a l reps N) (hN:N<=H.next)
  (hr:∀ K,(∃ o,I o K)/\N<=K.next->q<K.next/\jr K (tyP 3) (.ptr q x d lim)=some (.int .i64 r.From)/\jr K (tyP 3) (.ptr q x (d+1) lim)=some (.int .i64 r.To)/\jr K (tyP 3) (.ptr q x (d+2) lim)=some (.int .i64 r.N))
  (z:q7k vl l) (hl:ln l<=1000) (h0:0<=r.From) (a2:r.From<=r.To) (a3:r.To<=ln l) (a4:0<=r.N/\r.N<=4)
  (P:b<=c) (aj:c<=H.next) (hM:Marks c H fr.defers) (B:b<=box) (a5:box<H.next) (Q:z9 H box (.func (.yield y) [] [])) (F:Fram fr pl pr pf box) (t8:fr.tmp 8=some (.ptr q x d lim)) (ho:(out++psG l r.From r.To 0 r.N).length<=90000)
  (kk:∀ g H',Fram g pl pr pf box->g.tmp 8=some (.ptr q x d lim)->Marks c H' g.defers->I (out++psG l r.From r.To 0 r.N) H'->StepB b H H'->R .normal g H') :
  Wp (cfg sp).E 116 none (.seq (rg 116 10) (.block 2 (.loop (.seq (rg 116 11) (.seq (.cond (.tmp 47) .skip (.exit 2)) (.seq (.block 3 (.seq (rg 116 12) (.seq (rg 116 13) (.block 4 (.rangeFunc (.tmp 59) #[60,61] (.seq (rg 116 14) (rg 116 15)) (.block 5 (.seq (rg 116 16) (.cond (.tmp 66) .ret .skip)))))))) (rg 116 17))))))) fr H R:=by
 refine za (zjh (hr H ⟨⟨_,hI⟩,hN⟩).2.2.2 t8 F.n λh A a6 a7=>qk ?_);refine qah (qij (λm fr H'=>∃ (p:Int) (o1:List Played),m=(r.N-p).toNat/\0<=p/\p<=r.N/\I o1 H'/\StepB b H H'/\o1++psG l r.From r.To p r.N=out++psG l r.From r.To 0 r.N/\Marks c H' fr.defers/\Fram fr pl pr pf box/\fr.tmp 8=some (.ptr q x d lim)/\fr.tmp 45=some (.int .i64 r.N)/\fr.tmp 46=some (.int .i64 p))
  ⟨0,out,rfl,zK _,a4.1,hI,.refl wf,rfl,by rw [A.2.2];exact hM,F.of (λt i=>A.1 t (by omega)) A.2.1,(A.1 8 (by omega)).trans t8,a6,a7⟩ ?_)
 rintro m f0 H1 ⟨p,o1,rfl,p0,p1,u,e,w,T,F1,e8,U,C⟩;have s1:=e.next
 have nn:=F1.n;have a8:jb .lss .i64 p r.N=some (.bool (decide (p<r.N))):=by simp [jb]
 refine za (zt zic ?_);refine go1 rfl (by omega) (qbn rfl ⟨by simp,by simp⟩ (qe C) (qe U) a8) λf1 f=>qz (qk ?_);have A1:=Alike.refl.upd (m:=47) f (by omega);have n1:=A1.2.1.trans nn;by_cases hx:p<r.N
 .have s:decide (p<r.N)=true:=by simpa using hx
  rw [s] at f;refine za (qdj (qe f.get) (qej (qk ?_)));refine za (qah (za (zt zid ?_)));refine go1 rfl (by omega) (zf rfl (qe (f.ne C))) λf2 D=>?_;have n2:=D.n.trans n1;refine go1 rfl (by omega) (qy rfl (qe D.get)) λf3 G=>qz (qk ?_);have n3:=G.n.trans n2;have F3:Fram f3 pl pr pf box:=F1.of (λt i=>(qdq G (qdq D (qdq f rfl (by omega)) (by omega)) (by omega))) (n3.trans nn.symm);have d3:f3.defers=f0.defers:=G.ds.trans (D.ds.trans f.ds);have w8:f3.tmp 8=some (.ptr q x d lim):=G.ne (D.ne (f.ne e8));obtain ⟨x1,x2,x3,x4⟩:=hr H1 ⟨⟨_,u⟩,by omega⟩;obtain ⟨bl,br,bf,hk⟩:=S.bx o1 H1 u;have hpl:=S.hpl;refine za (zji Z e.wf (qe1 z).1 (qe1 z).2 (by omega) bl x1 x2 x3 F3.t1 w8 G.get n3 λg H2 n0 J a9 st m0 m1 q0 q1 q2 q3=>qk ?_);have V:=F3.of (λt i=>J.1 t (by omega)) J.2.1;have dg:g.defers=f0.defers:=J.2.2.trans d3;have W:o1.length<=90000:=by
   have h1:=congrArg List.length w;rw [List.length_append] at h1;omega
  refine qah (qy3 (c:=c) (S:=qeq l r.From r.To p) Y (Y.step e.wf st (by omega) u) (by omega) (by rw [st.ro,e.ro];exact a1) st.wf P (by omega) (by rw [dg];exact T.step (b:=b) st.up P) B (by omega) (qit (b:=b) (qit Q e B a5) st.up B (by omega)) V.t4 a9 (by kernel_rfl) zif zig zih (by have:=V.n;omega) ?_ ?_)
  .intro L b' I' H3 Y' aa ak ab ad ae;refine qtc a0 Y' hl h0 a2 a3 (λo K h=>(S.bx o K (ad o K h)).2.2.2) (qe1 z).2 aa (by omega) ab.wf (λo K h=>?_) W;have X:∀ n v,n0<=n->n<=n0+3->z9 H2 n v->z9 K n v:=λn v x0 x1 ⟨t,i⟩=>⟨t,(ae o K n h (by omega) (by omega) (by rw [i];rfl)).trans i⟩;exact ⟨X _ _ (by omega) (by omega) q0,X _ _ (by omega) (by omega) q1,X _ _ (by omega) (by omega) q2,X _ _ (by omega) (by omega) q3⟩
  .intro k H4 i hn M4 af ag;refine qa3 (qa3 (qk (zt zii ?_)));have hk:k.n=84:=hn.trans V.n;have ah:k.tmp 46=some (.int .i64 p):=(i 46).trans ((J.1 46 (by omega)).trans (G.ne (D.ne (f.ne C))));have ai:k.tmp 45=some (.int .i64 r.N):=(i 45).trans ((J.1 45 (by omega)).trans (G.ne (D.ne (f.ne U))));have k8:k.tmp 8=some (.ptr q x d lim):=(i 8).trans ((J.1 8 (by omega)).trans w8);refine go1 rfl (by omega) (qbn rfl ⟨by simp,by simp⟩ (qe ah) (j:=1) rfl (qwv (by omega) (by omega))) λg1 M=>?_;have m1:=M.n.trans hk;refine go1 rfl (by omega) (zf rfl (qe M.get)) λg2 O=>qz ?_;have m2:=O.n.trans m1;refine ⟨(r.N-(p+1)).toNat,by omega,p+1,o1++qeq l r.From r.To p,rfl,by omega,by omega,af,e.trans (st.up.trans ag),?_,?_,?_,O.ne (M.ne k8),O.ne (M.ne ai),O.get⟩
   .rw [<-w,za1 hx,List.append_assoc]
   .rw [O.ds,M.ds];exact M4
   .exact V.of (λt al=>(qdq O (qdq M rfl (by omega)) (by omega)).trans (i t)) (m2.trans V.n.symm)
 .have s:decide (p<r.N)=false:=by simpa using hx
  rw [s] at f;refine za (qb8 (qe f.get) (qtj (qgm (qgm (qfb ?_)))));rw [zf4 (by omega),zJ] at w;exact kk f1 H1 (F1.of (λt i=>A1.1 t (by omega)) A1.2.1) (f.ne e8) (by rw [f.ds];exact T) (w ▸ u) e
end
theorem q5x {E:Env} {y b c:Nat} {I:List Played->Heap->Prop} {H H':Heap} {o:List Played} {fr:Fr} {e:Ex} (Y:Yields E y b I) (i:I o H') (v:b<=H.next) (j:H.ro<=b) (k:b<=c) (w:c=H.next) (st:StepB b H H') (l:Marks c H' fr.defers) (he:e=.normal∨e=.ret) :
  (e=.normal∨e=.ret)/\∃ a,jh fr.defers H'=some a/\∃ vs,zv E fr a []=some vs/\I o a/\StepB b H a:=by
 have x:=st.next
 obtain ⟨m,p,z,d,f,g,q⟩:=qyh l (by rw [st.ro];omega) st.wf;refine ⟨he,m,p,[],qeg,Y.loc (λn r=>g n (r.imp (λh=>by omega) id)) d f (by omega) (by omega) i,by omega,d.trans st.ro,f.trans st.qp,q,λn s t u=>(g n (.inl (by omega))).trans (st.old n s t u)⟩
theorem zgp (M:∀ n,n=99∨n=116∨n=117∨n=134->(cfg sp).E.spec n=none) {l:List Sign} {vl:V} (s:q7k vl l) (hl:ln l<=1000):∀ (f:List Repeat) {y b O P Q:Nat} {I:List Played->Heap->Prop} {out:List Played} {H:Heap} {a:Int} {sv:V},Yields (cfg sp).E y b I->I out H->b<=H.next->H.ro<=b->(∀ n,H.next<=n->H.get n=none)->Stat I O P Q vl sv a l f H.next->0<=a->qfo l a f->(∀ r ∈ f,0<=r.N/\r.N<=4)->(out++qaz l f a).length<=90000->
  qaa (cfg sp).E (.func 116) [.func (.yield y) [] [],.ptr O 0 0 1,.ptr P 0 0 1,.ptr Q 0 0 1] H λ_ H'=>I (out++qaz l f a) H'/\StepB b H H':=by
 intro f
 induction f with
 | nil=>
  intro y b O P Q I out H a sv Y hI j u X S h0 z hN G;refine qb3 (M 116 (.inr (.inl rfl))) zee rfl ((?_:∀ m:Fr,m.tmp 0=some (.func (.yield y) [] [])->m.tmp 1=some (.ptr O 0 0 1)->m.tmp 2=some (.ptr P 0 0 1)->m.tmp 3=some (.ptr Q 0 0 1)->m.n=84->m.defers=[]->Wp (cfg sp).E 116 none (qa8 116) m H _) _ (zp rfl) (zp rfl) (zp rfl) (zp rfl) rfl rfl);intro m a0 a1 a2 a3 nn d0;obtain ⟨bl,br,bf,hk⟩:=S.bx out H hI;have D:StepA H (z5 H [.func (.yield y) [] []] 174):=qbf X;have sn:=D.next
  have J:=Y.step X D j hI;refine zaz X rfl s S.hpl bl S.hpr br (qmf (H:=z5 H [.func (.yield y) [] []] 174) ⟨⟨_,J⟩,sn⟩ S.rp) a0 a1 a2 nn λg A g4 g5=>?_;have e1:(z5 H [.func (.yield y) [] []] 174).next=H.next+1:=qi
  have F:Fram g O P Q H.next:=⟨(A.1 1 (by omega)).trans a1,(A.1 2 (by omega)).trans a2,(A.1 3 (by omega)).trans a3,g4,A.2.1.trans nn⟩
  have B:out.length<=90000:=by rw [List.length_append] at G;omega
  refine za (q0m (c:=H.next) (M 117 (.inr (.inr (.inl rfl)))) (M 134 (.inr (.inr (.inr rfl)))) Y J (by omega) (by rw [D.ro];exact u) D.wf S s hl h0 (e:=ln l) z.1 (zK _) j (by omega) (by rw [A.2.2,d0];exact ⟨List.nodup_nil,λ_ h=>by cases h⟩) j (by omega) qg9 F g5 B λh H' Fh Mh p i=>qk ?_);obtain ⟨ab,R,ad,ae⟩:=S.bx _ H' p;have sh:=i.next
  have hR:=qmf (H:=H') ⟨⟨_,p⟩,by omega⟩ S.rp;have nh:=Fh.n;refine za (za (zt zes ?_));refine go1 rfl (by omega) (jm rfl qhv (qe Fh.t2) (qa0 R (qji hR).2 quv qtt)) λf1 U=>?_;have n1:=U.n.trans nh;refine go1 rfl (by omega) (qyu hR rfl U.get) λf2 W=>?_;have n2:=W.n.trans n1;refine go1 rfl (by omega) (qbn rfl ⟨by simp,by simp⟩ (qe W.get) rfl (show jb .eql .i64 0 0=some (.bool true) from rfl)) λf3 Z=>qz (qk ?_);refine qdj (qe Z.get) (qhw (qy8 ?_));exact q5x Y p j u j rfl (D.up.trans i) (by rw [Z.ds,W.ds,U.ds];exact Mh) (.inr rfl)
 | cons r rs ih=>
  intro y b O P Q I out H a sv Y hI j u X S h0 z hN G;refine qb3 (M 116 (.inr (.inl rfl))) zee rfl ((?_:∀ m:Fr,m.tmp 0=some (.func (.yield y) [] [])->m.tmp 1=some (.ptr O 0 0 1)->m.tmp 2=some (.ptr P 0 0 1)->m.tmp 3=some (.ptr Q 0 0 1)->m.n=84->m.defers=[]->Wp (cfg sp).E 116 none (qa8 116) m H _) _ (zp rfl) (zp rfl) (zp rfl) (zp rfl) rfl rfl);intro m a0 a1 a2 a3 nn d0;obtain ⟨bl,br,bf,hk⟩:=S.bx out H hI;have D:StepA H (z5 H [.func (.yield y) [] []] 174):=qbf X;have sn:=D.next
  have J:=Y.step X D j hI;obtain ⟨c1,c2,c3,-,-,-,-,-,c4⟩:=z;refine zaz X rfl s S.hpl bl S.hpr br (qmf (H:=z5 H [.func (.yield y) [] []] 174) ⟨⟨_,J⟩,sn⟩ S.rp) a0 a1 a2 nn λg A g4 g5=>?_;have e1:(z5 H [.func (.yield y) [] []] 174).next=H.next+1:=qi
  have F:Fram g O P Q H.next:=⟨(A.1 1 (by omega)).trans a1,(A.1 2 (by omega)).trans a2,(A.1 3 (by omega)).trans a3,g4,A.2.1.trans nn⟩
  have hp:=S.hpl;have ao:=S.hpr;have B:=G;rw [qaz,List.length_append,List.length_append,List.length_append] at B;refine za (q0m (c:=H.next) (M 117 (.inr (.inr (.inl rfl)))) (M 134 (.inr (.inr (.inr rfl)))) Y J (by omega) (by rw [D.ro];exact u) D.wf S s hl h0 (e:=r.From) c1 (by omega) j (by omega) (by rw [A.2.2,d0];exact ⟨List.nodup_nil,λ_ h=>by cases h⟩) j (by omega) qg9 F g5 (by omega) λh H' Fh Mh p i=>qk ?_);obtain ⟨ab,R,ad,ae⟩:=S.bx _ H' p;have sh:=i.next
  have hR:=qmf (H:=H') ⟨⟨_,p⟩,by omega⟩ S.rp;have nh:=Fh.n;refine za (za (zt zes ?_));refine go1 rfl (by omega) (jm rfl qhv (qe Fh.t2) (qa0 R (qji hR).2 quv qtt)) λf1 U=>?_;have n1:=U.n.trans nh;refine go1 rfl (by omega) (qyu hR rfl U.get) λf2 W=>?_;have n2:=W.n.trans n1;refine go1 rfl (by omega) (qbn rfl ⟨by simp,by simp⟩ (qe W.get) rfl (show jb .eql .i64 (r::rs).length 0=some (.bool false) from by simp [jb];omega)) λf3 Z=>qz (qk ?_);have n3:=Z.n.trans n2;have F3:Fram f3 O P Q H.next:=Fh.of (λt ht=>(qdq Z (qdq W (qdq U rfl (by omega)) (by omega)) (by omega))) (n3.trans nh.symm)
  have d3:f3.defers=h.defers:=Z.ds.trans (W.ds.trans U.ds);refine qb8 (qe Z.get) (qej (qk ?_));obtain ⟨nm,gn,off,cap,q,pg,d,lim,aq,he,hr,a5,a6⟩:=S.rp;obtain ⟨x0,x1,x2,x3,x4,x5⟩:=hr H' ⟨⟨_,p⟩,by omega⟩;refine za (zp5 (lim:=0) he R x2 F3.t2 n3 λk Ak k8=>qk ?_);have Fk:=F3.of (λt ht=>Ak.1 t (by omega)) Ak.2.1;have a7:z9 (z5 H [.func (.yield y) [] []] 174) H.next (.func (.yield y) [] []):=qg9
  have af:=hN r zC;refine za (q8u (c:=H.next) (r:=r) (M 117 (.inr (.inr (.inl rfl)))) (M 134 (.inr (.inr (.inr rfl)))) Y p (by omega) (by rw [i.ro,D.ro];exact u) i.wf S (by omega) (λK hK=>(hr K hK).2.imp id And.right) s hl (by omega) (by omega) (by omega) af j (by omega) (by rw [Ak.2.2,d3];exact Mh) j (by omega) (qit a7 i j (by omega)) Fk k8 (by rw [List.length_append,List.length_append];omega) λw H2 Fw w8 Mw T C=>qk ?_);have sw:=C.next
  obtain ⟨ag,ah,ar,au⟩:=S.bx _ H2 T;obtain ⟨y0,y1,y2,y3,y4,y5⟩:=hr H2 ⟨⟨_,T⟩,by omega⟩;have ai:=(qji (qmf (H:=H2) ⟨⟨_,T⟩,by omega⟩ a6)).1;refine za (zjj (r:=r) (M 99 (.inl rfl)) C.wf (qe1 s).1 (qe1 s).2 (by omega) ag (by omega) ah he a5 ai y1 y4 (by omega) Fw.t1 Fw.t2 w8 Fw.n λv H3 n0 Av aj st m0 m1 q0 q1 q2=>qk ?_);have av:=st.next
  have Fv:=Fw.of (λt ht=>Av.1 t (by omega)) Av.2.1;refine qah (qy3 (c:=H.next) (S:=qaz l rs (r.To+1)) Y (Y.step C.wf st (by omega) T) (by omega) (by rw [st.ro,C.ro,i.ro,D.ro];exact u) st.wf j (by omega) (by rw [Av.2.2];exact Mw.step (b:=b) st.up j) j (by omega) (qit (b:=b) (qit (qit a7 i j (by omega)) C j (by omega)) st.up j (by omega)) Fv.t4 aj (by kernel_rfl) zik zil zim (by have:=Fv.n;omega) ?_ ?_)
  .intro L b' I' H4 Y' ak aw a4 a8 al;have s4:=a4.next
   have hg:∀ o K n v,I' o K->n0<=n->n<=n0+2->z9 H3 n v->z9 K n v:=λo K n v h z0 z1 ⟨t,ht⟩=>⟨t,(al o K n h (by omega) (by omega) (by rw [ht];rfl)).trans ht⟩;refine ih Y' ak (by omega) (by rw [a4.ro,st.ro,C.ro,i.ro,D.ro];omega) a4.wf ⟨by omega,by omega,by omega,λo K h=>⟨hg o K _ _ h (by omega) (by omega) q0,hg o K _ _ h (by omega) (by omega) q2,hg o K _ _ h (by omega) (by omega) q1,(S.bx o K (a8 o K h)).2.2.2⟩,q33 (λK ⟨⟨o,h⟩,h'⟩=>⟨⟨o,a8 o K h⟩,by omega⟩) a6⟩ (by omega) c4 (λx hx=>hN x (zG _ hx)) ?_;simp only [List.length_append];omega
  .intro k2 H5 ht hn M5 a9 an;refine qa3 ?_;have aa:=D.up.trans (i.trans (C.trans (st.up.trans an)));rw [List.append_assoc,List.append_assoc,<-List.append_assoc (qeq l a r.From 0)] at a9;exact q5x Y a9 j u j rfl aa M5 (.inl rfl)
variable {sp:Nat->Option (List V->Heap->Option (CR×Heap))}
theorem zgq:(tyP 69).size=1:=by kernel_rfl
theorem zkk:(tyP 69).isAgg=false:=by kernel_rfl
theorem zuw:(tyP 69).zero.cells=[.nils]:=by kernel_rfl
theorem zrq:(tyP 73).bytes=16:=by kernel_rfl
noncomputable def fsP:Array Field:=match (tyP 73).under with
 | .struct a=>a
 | _=>#[]
theorem zus:(tyP 73).under=.struct fsP:=by kernel_rfl
theorem zri:fsP.toList.all (λf=>((cfg sp).E.types f.type).isSome)=true:=by kernel_rfl
theorem zr5 (a p:Int):qds (λj=>(fsP[j]?).bind λf=>((cfg sp).E.types f.type).map λfi=>(f.offset,fi.size)) (tyP 73).zero.cells [(0,.int .i64 a),(1,.int .i64 p)]=some (cP ⟨a,p⟩):=by kernel_rfl
theorem zr4 (a p:Int):qds (λi=>some (i * (tyP 73).size,(tyP 73).size)) (List.replicate 1 (tyP 73).zero.cells).flatten [(0,.agg (cP ⟨a,p⟩))]=some (cP ⟨a,p⟩):=by rw [qox,zg4];rfl
section
variable {H:Heap} {a:Nat} {x:Played}
theorem zlw (h:H.get a=some (.row (cP x) 73 0 0 0 true)):km H 2 (.slice a 0 0 1 2 (some 1))=some (1,cP x):=by
 simp [km,V.qb2,qcj,zq,h,qef,cP,isHole];rfl
theorem zdg (h:H.get a=some (.row (cP x) 73 0 0 0 true)):kv H 73 2 16 .nils (.slice a 0 0 1 2 (some 1))=some (.slice H.next 0 0 1 2 none,H.new (.row (cPs [x]) 73 0 0 0 false)):=by
 have b:Nat.ble (1 * 16) room=true:=by rw [Nat.ble_eq];simp only [room];omega
 simp only [kv,V.qb2,jt,zlw h,zB,b];rfl
theorem zdh {nm g:Nat} {l:List Played} (h:H.get a=some (.row (cP x) 73 0 0 0 true)) (b:H.get nm=some (.row (cPs l) 73 g 0 0 false)) (t:l.length<=1000000000) (c:H.ro<=nm) :
  kv H 73 2 16 (.slice nm g 0 l.length 2 none) (.slice a 0 0 1 2 (some 1))=some (.slice nm (g+1) 0 (l.length+1) 2 none,H.put nm (.row (cPs (l++[x])) 73 (g+1) 0 0 false)):=by
 have d:Nat.ble ((l.length+1) * 16) room=true:=by rw [Nat.ble_eq];simp only [room];omega
 have e:Nat.ble (l.length+1) room=true:=by rw [Nat.ble_eq];simp only [room];omega
 have f:Nat.beq (0+l.length * 2) (cPs l).length=true:=by rw [Nat.beq_eq,qjo];omega
 have i:Nat.ble 0 (cPs l).length=true:=by rw [Nat.ble_eq];omega
 have j:Nat.ble 0 g=true:=by rw [Nat.ble_eq];omega
 have k:Nat.beq g g=true:=Nat.beq_refl _;have m:(cP x).all V.jg=true:=rfl;have n:H.upd nm (.row (cPs l++cP x) 73 (g+1) 0 0 false)=some (H.put nm (.row (cPs l++cP x) 73 (g+1) 0 0 false)):=kq c;have o:cPs (l++[x])=cPs l++cP x:=by rw [q9n];congr 1
 have p:Nat.beq 2 2=true:=rfl;have q:Nat.beq 1 0=false:=rfl;have r:Nat.beq 2 0=false:=rfl;have s:Nat.beq 73 73=true:=rfl;simp only [kv,V.qb2,jt,zlw h,zB,b,p,q,r,s,d,e,f,i,j,k,m,Bool.not_true,Bool.not_false,Bool.and_self,zO,zQ,n,o,zH]
theorem zbz {n:Nat} {v w:V} {ti:TI} (h:z9 H n v) (hw:w.cells=[w]) (a:w.jg=true) (b:ti.size=1) (c:H.ro<=n):∃ e,qfm H ti (.ptr n 0 0 1) w=some (H.put n (.row [w] e 0 0 0 true)):=by
 obtain ⟨e,d⟩:=h;refine ⟨e,?_⟩;have f:H.upd n (.row [w] e 0 0 0 true)=some (H.put n (.row [w] e 0 0 0 true)):=kq c;simp [qfm,jk,d,hw,b,a,setCells,f];rfl
end
def I74 (Hb:Heap) (q:Nat) (out:List Played) (K:Heap):Prop:=
 (∀ n,n<Hb.next->n≠q->K.get n=Hb.get n)/\K.ro=Hb.ro/\K.qp=Hb.qp/\∃ u,z9 K q u/\((u=.nils/\out=[])∨∃ nm g,u=.slice nm g 0 out.length 2 none/\Hb.next<=nm/\K.get nm=some (.row (cPs out) 73 g 0 0 false))
theorem zgg {L U q:Nat} {lt:Tree V} {Hb:Heap} (hL:L<Hb.next) (hq:q<Hb.next) (d:q≠L) (Z:Hb.ro<=q) (k:Hb.ro<=L) (h9:lt.get 9=some (.ptr q 0 0 1))
  (hg:Hb.get L=some (.loop .ready none lt 40 [31,32] (.seq (rg 74 7) (rg 74 8)) (.block 1 (rg 74 9)) U)):Yields (cfg sp).E L Hb.next (I74 Hb q):=by
 refine ⟨λ{out H H'} h hr o c ae ⟨i1,i2,i3,u,i4,i5⟩=>⟨λn l m=>(h n (.inl l)).trans (i1 n l m),hr.trans i2,o.trans i3,u,?_,?_⟩,?_⟩
 .obtain ⟨e,A⟩:=i4;exact ⟨e,(h q (.inl hq)).trans A⟩
 .rcases i5 with h5 | ⟨nm,g,h5,h6,h7⟩
  .exact .inl h5
  .exact .inr ⟨nm,g,h5,h6,(h nm (.inr (by rw [h7];rfl))).trans h7⟩
 intro out K a p ⟨hK,hR,hG,u,⟨e0,hu⟩,hO⟩ hb wf ad;have D:=(hK L hL (Ne.symm d)).trans hg;let t:=(lt.set 31 (.int .i64 a)).set 32 (.int .i64 p);have hp:qb1 40 [31,32] [.int .i64 a,.int .i64 p] lt=some t:=rfl;have a0:Fr.tmp ⟨t,40,[]⟩ 31=some (.int .i64 a):=by simp [Fr.tmp,t,Tree.zn]
 have a1:Fr.tmp ⟨t,40,[]⟩ 32=some (.int .i64 p):=by simp [Fr.tmp,t,Tree.zn]
 have t9:Fr.tmp ⟨t,40,[]⟩ 9=some (.ptr q 0 0 1):=by simp [Fr.tmp,t,Tree.zn,h9]
 refine qm3 D hp ?_;refine za ((qpn zs6 ?_));refine go1 rfl (show 10<40 by omega) (qy rfl (qe a0)) λf1 F=>qz (qk ?_);have n1:f1.n=40:=F.n;refine qpn zs7 ?_;refine go1 rfl (by omega) (qy rfl (qe (F.ne a1))) λf2 G=>qz ⟨rfl,?_⟩;have n2:f2.n=40:=G.n.trans n1;let j:=K.put L (.loop .busy none lt 40 [31,32] (.seq (rg 74 7) (rg 74 8)) (.block 1 (rg 74 9)) U);have I:qll K L=some j:=by
  simp only [qll,D];exact kq (by rw [hR];exact k)
 refine ⟨j,I,?_⟩;have J:∀ n,n≠L->j.get n=K.get n:=λn h=>zd h;have a2:∀ n,j.next<=n->j.get n=none:=λn c=>by
  have c:K.next<=n:=c
  rw [J n (by omega)];exact wf n c
 have bx:z9 j q u:=⟨e0,(J q d).trans hu⟩;have hh:isHole u=false:=by rcases hO with ⟨rfl,_⟩ | ⟨_,_,rfl,_⟩<;>rfl
 refine qah (qpn zs8 ?_);refine go1 rfl (by omega) (jm rfl qh1 (qe (G.ne (F.ne t9))) (qa0 bx hh zgq zkk)) λf3 M=>?_;have n3:=M.n.trans n2;refine go1 rfl (by omega) (zf rfl (qe (M.ne (G.ne F.get)))) λf4 N=>?_;have n4:=N.n.trans n3;refine go1 rfl (by omega) (zf rfl (qe (N.ne (M.ne G.get)))) λf5 O=>?_;have n5:=O.n.trans n4;refine go1 rfl (by omega) (qnb rfl qh2 zus (zg (qe (O.ne N.get)) (zg (qe O.get) jn)) zri (zr5 a p)) λf6 W=>?_;have n6:=W.n.trans n5;refine go1 rfl (by omega) (qpw (cs:=cP ⟨a,p⟩) rfl qh1 qmu qh2 (zg (qe W.get) jn) (by rw [qox];rfl) (zr4 a p)) λf7 X=>?_;have n7:=X.n.trans n6;let H1:Heap:=z5 j (cP ⟨a,p⟩) 73;have e1:H1.next=K.next+1:=qi
 have ga:H1.get K.next=some (.row (cP ⟨a,p⟩) 73 0 0 0 true):=zl
 have g1:∀ n,n<K.next->H1.get n=j.get n:=λn h=>ke h
 have r:StepA j H1:=qbf a2;have a3:f7.tmp 33=some u:=X.ne (W.ne (O.ne (N.ne M.get)));have w9:f7.tmp 9=some (.ptr q 0 0 1):=X.ne (W.ne (O.ne (N.ne (M.ne (G.ne (F.ne t9))))));have hA:∃ nm' B b,kv H1 73 2 16 u (.slice K.next 0 0 1 2 (some 1))=some (.slice nm' B 0 (out.length+1) 2 none,b)/\Hb.next<=nm'/\b.get nm'=some (.row (cPs (out++[⟨a,p⟩])) 73 B 0 0 false)/\H1.next<=b.next/\b.ro=H1.ro/\b.qp=H1.qp/\
   (∀ n,b.next<=n->b.get n=none)/\(∀ n,n<K.next->n≠nm'->b.get n=j.get n)/\(nm'<K.next->soft (K.get nm')=true):=by
  rcases hO with ⟨rfl,rfl⟩ | ⟨nm,g,rfl,a4,f⟩
  .have P:StepA H1 (H1.new (.row (cPs [⟨a,p⟩]) 73 0 0 0 false)):=qbf r.wf;exact ⟨H1.next,0,_,zdg ga,by omega,zl,P.next,P.ro,P.qp,P.wf,λn l m=>(P.old n (by omega)).trans (g1 n l),λh=>by omega⟩
  .have a5:nm<K.next:=qkq wf f
   have s:nm≠L:=by omega
   have v:H1.get nm=some (.row (cPs out) 73 g 0 0 false):=(g1 nm a5).trans ((J nm s).trans f);refine ⟨nm,g+1,_,zdh ga v (by omega) (by rw [r.ro];show K.ro<=nm;rw [hR];omega),a4,zo,zN _,rfl,rfl,λn c=>?_,λn l m=>(zd m).trans (g1 n l),λ_=>by rw [f];rfl⟩;have c:H1.next<=n:=c
   rw [zd (by omega)];exact r.wf n c
 obtain ⟨nm',B,b,Q,a6,x,af,R,S,a7,i,y⟩:=hA;refine go1 rfl (by omega) (q0i rfl rfl rfl rfl qh1 qmu qh1 qmu qh2 (qe a3) (qe X.get) (by rw [qox,zrq];exact Q)) λf8 u8=>?_;have a8:z9 b q u:=⟨e0,(i q (by omega) (by omega)).trans ((J q d).trans hu)⟩;have z:b.ro=Hb.ro:=R.trans (r.ro.trans hR);have o:b.qp=Hb.qp:=S.trans (r.qp.trans hG);obtain ⟨e2,a9⟩:=zbz (ti:=tyP 69) (w:=.slice nm' B 0 (out.length+1) 2 none) a8 rfl rfl zgq (by rw [z];exact Z);refine zn8 rfl (qxo rfl qh1 (qe (u8.ne w9)) (qe u8.get) a9) (qz (qa3 ?_));let C:=b.put q (.row [.slice nm' B 0 (out.length+1) 2 none] e2 0 0 0 true);have Y:∀ n,n≠q->C.get n=b.get n:=λn h=>zd h;have aa:C.get L=some (.loop .busy none lt 40 [31,32] (.seq (rg 74 7) (rg 74 8)) (.block 1 (rg 74 9)) U):=(Y L (Ne.symm d)).trans ((i L (by omega) (by omega)).trans zo);let He:=C.put L (.loop .ready none lt 40 [31,32] (.seq (rg 74 7) (rg 74 8)) (.block 1 (rg 74 9)) U);have A:∀ n,n≠L->He.get n=C.get n:=λn h=>zd h;have T:qgi L (.normal,f8,C)=some (.ret (.bool true),He):=by
  simp only [qgi,qeb,aa];rw [kq (show C.ro<=L by show b.ro<=L;rw [z];exact k)];rfl
 refine ⟨_,He,T,rfl,⟨λn l m=>?_,z,o,_,⟨e2,(A q d).trans zo⟩,.inr ⟨nm',B,by rw [List.length_append];rfl,a6,?_⟩⟩,⟨by show K.next<=b.next;omega,R.trans r.ro,S.trans r.qp,λn c=>?_,λn l m hs=>?_⟩⟩
 .by_cases s:n=L
  .subst s;exact zo.trans hg.symm
  .grind
 .rw [A nm' (by omega),Y nm' (by omega)];exact x
 .have c:b.next<=n:=c
  rw [A n (by omega),Y n (by omega)];exact a7 n c
 .have ab:n≠nm':=by
   rintro rfl;rw [y m] at hs;cases hs
  rw [A n (by omega),Y n (by omega),i n m ab,J n (by omega)]
variable {sp:Nat->Option (List V->Heap->Option (CR×Heap))}
theorem qfu {K:Heap} {nm gn j lim gen floor b:Nat} {cs:List V} {e:TypeId} {ex:Bool} {ti:TI} {v:V} (d:K.get nm=some (.row cs e gen floor b ex)) (f:floor<=gn) (q:j<lim) (g:lim<=cs.length) (a:cs.getD j zs=v) (h:isHole v=false) (i:ti.size=1) (k:ti.isAgg=false):jr K ti (.ptr nm gn j lim)=some v:=by
 have c:j<cs.length:=by omega
 have l:(cs.drop j).take 1=[v]:=by
  rw [List.getD_eq_getElem?_getD,List.getElem?_eq_getElem c] at a;have a:cs[j]=v:=a;rw [List.drop_eq_getElem_cons c,a];rfl
 have m:Nat.ble floor gn=true:=by rw [Nat.ble_eq];exact f
 have n:Nat.ble (j+1) lim=true:=by rw [Nat.ble_eq];omega
 have o:Nat.ble lim cs.length=true:=by rw [Nat.ble_eq];exact g
 have p:zq K 1 (.ptr nm gn j lim)=some [v]:=by
  simp only [zq,d,m,n,o,Bool.and_self,zO,l];simp [qef,h]
 simp only [jr,i,p,zB,k,zQ]
theorem qpc {w:Wd} {n:Int} {v:V} (h:Rep XK szK w (.int .i64 none n) v):v=.int .i64 n:=by
 cases h;rfl
theorem zin {H:Heap} {w:Wd} {c:V} {l:List Sign} (hw:w.g=H.get) (wf:∀ n,H.next<=n->H.get n=none) (r:Rep XK szK w (.list 4 l none) c):q7k c l/\∀ K,(∀ n,n<H.next->K.get n=H.get n)->q7j K c l:=by
 rcases jv r with ⟨rfl,rfl⟩ | ⟨nm,gn,off,z,cap,cs,e,u,d,v,ex,rfl,f,x,F,y,q,s,A,G⟩
 .exact ⟨.inl ⟨rfl,rfl⟩,λK _ i B b=>by have b:i<(0:Int):=b;omega⟩
 .refine ⟨.inr ⟨nm,gn,off,z,cap,rfl⟩,λK C i B b=>?_⟩;obtain ⟨j,rfl⟩:∃ j:Nat,i=j:=⟨i.toNat,by omega⟩;have a:j<l.length:=by simpa only [ln,Int.ofNat_lt] using b
  have k:z=szK 4:=by
   rcases q.2 with h | ⟨_,h,_⟩
   .exact h
   .subst h;cases a
  subst k;rw [hw] at f;have m:=(C nm (qkq wf f)).trans f;have D:(tyP 49).size=szK 4:=by kernel_rfl
  have I:(j+1) * szK 4<=l.length * szK 4:=zU _ a;have E:(j+1) * szK 4=j * szK 4+szK 4:=Nat.succ_mul _ _;have o:=qpc (A j a 0 (.int .i64 none (l[j]'a).Kind) rfl);have p:ix l (j:Int)=l[j]'a:=by simp [ix,a]
  have t:=q.1;refine ⟨nm,gn,off+j * szK 4,off+l.length * szK 4,?_,qfu m x (by omega) y (by rw [p];exact o) rfl qz2 q4n⟩;rw [D];simp [kj];exact ⟨a,rfl⟩
theorem za4 {f:Heap} {w:Wd} (hw:w.g=f.get) (wf:∀ n,f.next<=n->f.get n=none) {nm gn gen floor s:Nat} {cs:List V} {e:TypeId} {ex:Bool} (t:f.get nm=some (.row cs e gen floor s ex)) (B:floor<=gn):∀ (R:List Repeat) (off:Nat) (cap:Option Nat),off+R.length<=cs.length->(∀ k,cap=some k->R.length<=k)->
  (∀ i (h:i<R.length),Rep XK szK w (.eptr [.int .i64 none (R[i]'h).From,.int .i64 none (R[i]'h).To,.int .i64 none (R[i]'h).N] 0) (cs.getD (off+i) zs))->qqp (λK=>(∀ n,n<f.next->K.get n=f.get n)/\f.next<=K.next) (.slice nm gn off R.length 1 cap) R
 | [],off,cap,_,_,_=>.inr ⟨nm,gn,off,1,cap,rfl⟩
 | r::rs,off,cap,G,j,C=>by
  have u:=C 0 (by simp);have x:nm<f.next:=qkq wf t
  have D:(tyP 135).size=1:=q88;generalize H:cs.getD (off+0) zs=v at u;simp only [List.getElem_cons_zero] at u;cases u with
  | eptr a l I o O m=>
   rename_i b y d lim cs2 P E p F J;rw [hw] at a;have c:b<f.next:=qkq wf a
   simp only [List.length_cons,List.length_nil] at o;rw [List.length_cons] at G;refine ⟨nm,gn,off,cap,b,y,d,lim,.slice nm gn (off+1) rs.length 1 (cap.map (· - 1)),rfl,λK q=>⟨by omega,by omega,?_,?_,?_,?_⟩,?_,?_⟩
   .exact qfu ((q.1 nm x).trans t) B (by omega) (by omega) H rfl D zl6
   .exact qfu ((q.1 b c).trans a) l (by omega) (by omega) (qpc (m 0 _ rfl)) rfl qz2 q4n
   .exact qfu ((q.1 b c).trans a) l (by omega) (by omega) (qpc (m 1 _ rfl)) rfl qz2 q4n
   .exact qfu ((q.1 b c).trans a) l (by omega) (by omega) (qpc (m 2 _ rfl)) rfl qz2 q4n
   .rw [D];have o:(1:Int)<=(rs.length:Int)+1:=by omega
    cases cap with
    | none=>simp [qbe,V.qb2,qdv,jx,o]
    | some k=>
     have z:k≠0:=by
      have:=j k rfl;rw [List.length_cons] at this;omega
     have L:Nat.beq k 0=false:=by rw [<-Bool.not_eq_true,Nat.beq_eq];exact z
     simp [qbe,V.qb2,L,qdv,jx,o]
   .refine za4 hw wf t B rs (off+1) _ (by omega) (λk z=>?_) (λi h=>?_)
    .obtain ⟨M,A,rfl⟩:=zM.1 z;have:=j M A;rw [List.length_cons] at this;omega
    .have:=C (i+1) (by simpa using h);rw [List.getElem_cons_succ,show off+(i+1)=off+1+i by omega] at this;exact this
theorem zjl {a:Heap} {w:Wd} {d:V} {R:List Repeat} (hw:w.g=a.get) (wf:∀ n,a.next<=n->a.get n=none) (r:Rep XK szK w (.list 26 R none) d):qqp (λK=>(∀ n,n<a.next->K.get n=a.get n)/\a.next<=K.next) d R:=by
 rcases jv r with ⟨rfl,rfl⟩ | ⟨nm,gn,off,z,cap,cs,e,j,c,k,ex,rfl,f,l,q,m,o,b,p,s⟩
 .exact .inl rfl
 .rw [hw] at f;rcases o.2 with rfl | ⟨_,rfl,_⟩
  .exact za4 hw wf f l R off cap (by have:off+R.length * 1<=cs.length:=m;omega) b (λi h=>by
    have:=p i h 0 _ rfl;rw [show off+i * szK 26+0=off+i by show off+i * 1+0=_;omega] at this;exact this)
  .exact .inr ⟨nm,gn,off,z,cap,rfl⟩
theorem zdm {l:List Sign} (b:∀ j,0<=j->j<ln l->qem l j=0):∀ {rs:List Repeat} {a:Int},0<=a->qfo l a rs->∀ r ∈ rs,0<=r.N/\r.N<=4
 | [],_,_,_,_,h=>by cases h
 | r::rs,a,g,⟨i,k,c,_,_,_,m,d,e⟩,x,h=>by
  rcases zD.1 h with rfl | h
  .have f:=(qlc (qul (b x.To (by omega) c)).1).1.2.2.2.2.2.2;rcases f with h | h
   .exact absurd d h
   .omega
  .exact zdm b (by omega) e x h
variable {sp:Nat->Option (List V->Heap->Option (CR×Heap))}
theorem zed {o:Oper} {fr:Fr} {H:Heap} {x:Operand} {q e d lim:Nat} (g:o.op=.fieldAddr 24 x 1) (h:opd fr H x=some (.ptr q e d lim)):zb (cfg sp).E o fr H=some (.val (.ptr q e (d+1) lim),H):=by
 have i:(qc1 (tyP 24) 1).map (λf=>(f.offset,f.type))=some (1,22):=by kernel_rfl
 obtain ⟨f,j,a⟩:=zM.1 i;obtain ⟨b,c⟩:=Prod.mk.inj a;have:=qlr (E:=(cfg sp).E) g zgu j (by rw [c];exact qoy) (by rw [qvx];rfl) h;rw [b] at this;exact this
theorem zgw (hq:qt (cfg sp)) {nm:ZB} {l:List Sign} (hl:ln l<=1000000000)
  (hC:qhp XK szK (cfg sp) 38 [.agg [.str nm,.list 4 l none]] (.tuple [.int .i64 none (qdp nm l).1,.int .i64 none (qdp nm l).2])) :
  q7g XK szK (cfg sp) 74 [.agg [.str nm,.list 4 l none]] 18 (qoz nm l).1 (qoz nm l).2:=by
 intro H M vs S ra;obtain ⟨va,aN,rfl,r1,rn⟩:=ra.zk;rw [rn.z6];obtain ⟨ws,rfl,G⟩:=r1.qcw;obtain ⟨R,ws,rfl,q1,G⟩:=G.zk;obtain ⟨vl,ws,rfl,q2,G⟩:=G.zk;have hw:=G.z6;subst hw;have hh:isHole R=false/\isHole vl=false:=by
  constructor
  .cases q1;rfl
  .cases q2<;>rfl
 obtain ⟨a3,X⟩:=zin (H:=H) rfl S.wf q2;refine qb3 (hq.1 74 rfl) zsa rfl ((?_:∀ f0:Fr,f0.tmp 0=some (.agg [R,vl])->f0.n=40->f0.defers=[]->Wp (cfg sp).E 74 none (qa8 74) f0 H _) _ (zp rfl) rfl rfl);intro f0 a0 n0 d0;rw [zhf];refine za (zt zsz ?_);refine go1 rfl (by omega) (qiz rfl (qe a0)) λf1 r=>?_;have n1:=r.n.trans n0;refine go1 rfl (by omega) (qy rfl (v:=.nils) rfl) λf2 s=>?_;have n2:=s.n.trans n1;refine go1 rfl (by omega) (qy rfl (v:=.int .i64 0) rfl) λf3 b=>qz (qk ?_);have Z:=b.n.trans n2;have t1:f3.tmp 1=some (.ptr H.next 0 0 2):=b.ne (s.ne r.get);have ag:f3.defers=[]:=b.ds.trans (s.ds.trans (r.ds.trans d0));let H1:Heap:=z5 H [R,vl] 24;have k1:Keeps H H1:=(Keeps.refl H).new _;have ah:∀ n,H1.next<=n->H1.get n=none:=(qbf S.wf).wf
 have ga:H1.get H.next=some (.row [R,vl] 24 0 0 0 true):=zl
 have aO:H1.next=H.next+1:=qi
 have S1:Go.E3.Start XK szK (cfg sp) H1 M:=S.next zi ze k1 ah (λ_ _=>.rfl) λn h=>zL (S.Mlt n h) k1.next
 have ai:Plain (.agg [.str nm,.list 4 l none]:PV KT):=.agg (qa4 rfl);have a4:Plain (.list 4 l none:PV KT):=.list;have aj:ql XK szK (wd0 H1 M (cfg sp).codec) [.agg [.str nm,.list 4 l none]] [.agg [R,vl]]:=ql.cons (S.rep zi ze k1 (λ_ _=>.rfl) ai r1) .nil;have ak:jr H1 (tyP 24) (.ptr H.next 0 0 2)=some (.agg [R,vl]):=by
  have h2:zq H1 2 (.ptr H.next 0 0 2)=some [R,vl]:=by
   simp [zq,ga,qef,hh.1,hh.2];rfl
  simp only [jr,zlv,h2,zB,zkj,zO]
 refine za (za (zt zs0 ?_));refine go1 rfl (by omega) (jm rfl zgu (qe t1) ak) λf4 a=>?_;have n4:=a.n.trans Z;refine qx3 rfl (by omega) (qe7 rfl rfl rfl (zg (qe a.get) jn) rfl) (hC H1 M _ S1 aj) λv H2 hv A c=>?_;have n5:=c.n.trans n4;obtain ⟨w2,A2⟩:=hv;obtain ⟨xs,rfl,rx⟩:=A2.rep.qei;obtain ⟨x1,xs,rfl,y1,rx⟩:=rx.zk;obtain ⟨x2,xs,rfl,y2,rx⟩:=rx.zk;have Q:=rx.z6;subst Q;obtain rfl:=qpc y1;obtain rfl:=qpc y2;refine go1 rfl (by omega) (zf rfl (qe c.get)) λf6 B=>?_;have n6:=B.n.trans n5;refine go1 rfl (by omega) (qfd rfl (qe B.get) (v:=.int .i64 (qdp nm l).1) rfl) λf7 t=>?_;have n7:=t.n.trans n6;refine go1 rfl (by omega) (qfd rfl (qe (t.ne B.get)) (v:=.int .i64 (qdp nm l).2) rfl) λf8 w=>?_;have n8:=w.n.trans n7;refine go1 rfl (by omega) (qy rfl (qe (w.ne t.get))) λf9 y=>?_;have n9:=y.n.trans n8;refine go1 rfl (by omega) (qy rfl (qe (y.ne w.get))) λfa D=>qz (qk ?_);have na:=D.n.trans n9;have al:fa.tmp 1=some (.ptr H.next 0 0 2):=D.ne (y.ne (w.ne (t.ne (B.ne (c.ne (a.ne t1))))));have a5:fa.tmp 4=some (.int .i64 (qdp nm l).1):=D.ne y.get;have an:fa.defers=[]:=by rw [D.ds,y.ds,w.ds,t.ds,B.ds,c.ds,a.ds,ag]
 clear r s b a c B t w y D;have k2:=A2.keeps;have a6:=A2.wf;have I:=k1.trans k2;have ao:jb .neq .i64 (qdp nm l).1 0=some (.bool (decide ((qdp nm l).1≠0))):=by by_cases h:(qdp nm l).1=0<;>simp [jb,h]
 refine za (zt zs1 ?_);refine go1 rfl (by omega) (zf rfl (qe a5)) λf1 r=>?_;have n1:=r.n.trans na;refine go1 rfl (by omega) (qbn rfl ⟨by simp,by simp⟩ (qe r.get) rfl ao) λf2 s=>qz (qk ?_);have n2:=s.n.trans n1;have a7:f2.tmp 1=some (.ptr H.next 0 0 2):=s.ne (r.ne al);have aq:f2.tmp 4=some (.int .i64 (qdp nm l).1):=s.ne (r.ne a5);have a8:f2.defers=[]:=by rw [s.ds,r.ds,an]
 have C:=s.get;clear r s;by_cases he:(qdp nm l).1=0
 .have hu:qoz nm l=(qaz l (kf l).1 0,0):=by unfold qoz;rw [zF (by simpa using he)]
  rw [hu];rw [show decide ((qdp nm l).1≠0)=false by simpa using he] at C;obtain ⟨J,a9,aa⟩:=qph he;have ar:(qaz l (kf l).1 0).length<=1600:=by simp only [ln] at a9;omega
  have aP:ln l<=400:=(qea (qyt he).2).1;refine qb8 (qe C) (qej (qk ?_));have ab:H2.get H.next=some (.row [R,vl] 24 0 0 0 true):=(k2.old H.next (by omega)).trans ga
  have S2:Go.E3.Start XK szK (cfg sp) H2 M:=S.next zi ze I a6 (λ_ _=>.rfl) λn h=>zL (S.Mlt n h) I.next
  have au:ql XK szK (wd0 H2 M (cfg sp).codec) [.list 4 l none] [vl]:=ql.cons (S.rep zi ze I (λ_ _=>.rfl) a4 q2) .nil;refine za (zt zs3 ?_);refine go1 rfl (by omega) (zed rfl (qe a7)) λf3 b=>?_;have Z:=b.n.trans n2;refine go1 rfl (by omega) (jm rfl qoy (qe b.get) (qfu ab (zN 0) (by omega) (zN 2) (v:=vl) rfl hh.2 qvx qwx)) λf4 a=>?_;have n4:=a.n.trans Z;refine qx3 rfl (by omega) (qe7 rfl rfl rfl (zg (qe a.get) jn) rfl) (q5k hq l hl H2 M _ S2 au) λv k hv A c=>?_;have n5:=c.n.trans n4;obtain ⟨w3,A3⟩:=hv;obtain ⟨xs,rfl,rx⟩:=A3.rep.qei;obtain ⟨sv,xs,rfl,av,rx⟩:=rx.zk;obtain ⟨x2,xs,rfl,y2,rx⟩:=rx.zk;obtain ⟨x3,xs,rfl,y3,rx⟩:=rx.zk;have Q:=rx.z6;subst Q;have N:=zjl A3.g A3.wf av;refine go1 rfl (by omega) (zf rfl (qe c.get)) λf6 B=>?_;have n6:=B.n.trans n5;refine go1 rfl (by omega) (qfd rfl (qe B.get) (v:=sv) rfl) λf7 t=>?_;have n7:=t.n.trans n6;refine go1 rfl (by omega) (qfd rfl (qe (t.ne B.get)) (v:=x2) rfl) λf8 w=>?_;have n8:=w.n.trans n7;refine go1 rfl (by omega) (qfd rfl (qe (w.ne (t.ne B.get))) (v:=x3) rfl) λf9 y=>?_;have n9:=y.n.trans n8;refine go1 rfl (by omega) (qy rfl (qe (y.ne (w.ne t.get)))) λfa D=>?_;have na:=D.n.trans n9;refine go1 rfl (by omega) (qy rfl (qe (D.ne (y.ne w.get)))) λfb ub=>?_;have nb:=ub.n.trans na;refine go1 rfl (by omega) (qy rfl (qe (ub.ne (D.ne y.get)))) λfc uc=>qz (qk ?_);have nc:=uc.n.trans nb;have aw:fc.tmp 1=some (.ptr H.next 0 0 2):=uc.ne (ub.ne (D.ne (y.ne (w.ne (t.ne (B.ne (c.ne (a.ne (b.ne a7)))))))))
  have ax:fc.tmp 6=some sv:=uc.ne (ub.ne D.get);have ay:fc.defers=[]:=by rw [uc.ds,ub.ds,D.ds,y.ds,w.ds,t.ds,B.ds,c.ds,a.ds,b.ds,a8]
  clear b a c B t w y D ub uc;have k3:=A3.keeps;have az:=A3.wf;have F:=I.trans k3;refine za (zt zs4 ?_);refine go1 rfl (by omega) (q5f rfl qh1) λf1 r=>qz (qk ?_);have n1:=r.n.trans nc;rw [zuw] at r ⊢;let T:Heap:=z5 k [.nils] 69;have s4:StepA k T:=qbf az;have e4:T.next=k.next+1:=qi
  have b4:T.get k.next=some (.row [.nils] 69 0 0 0 true):=zl
  have aA:T.get H.next=some (.row [R,vl] 24 0 0 0 true):=(s4.old _ (by have:=k2.next;have:=k3.next;omega)).trans ((k3.old _ (by have:=k2.next;omega)).trans ab)
  refine za (za (zt zs5 ?_));refine go1 rfl (by omega) (zed rfl (qe (r.ne aw))) λf2 s=>?_;have n2:=s.n.trans n1;refine go1 rfl (by omega) (jm rfl qoy (qe s.get) (qfu aA (zN 0) (by omega) (zN 2) (v:=vl) rfl hh.2 qvx qwx)) λf3 b=>?_;have Z:=b.n.trans n2;refine go1 rfl (by omega) (zf rfl (qe (b.ne (s.ne (r.ne ax))))) λf4 a=>?_;have n4:=a.n.trans Z;have aB:=qmf (H:=T) ⟨λn U=>s4.old n U,s4.next⟩ N;refine qx3 rfl (by omega) (qe7 rfl rfl rfl (zg (qe (a.ne b.get)) (zg (v:=.int .i64 0) rfl (zg (qe a.get) jn))) rfl) (q1u (hq.1 99 rfl) s4.wf (qe1 a3).1 (qji aB).1) λv f hv A c=>qz (qk ?_);have n5:A.n=40:=c.n.trans n4;obtain ⟨s5,c0,m0,m1,rfl,p0,p1,p2⟩:=hv;have t9:A.tmp 9=some (.ptr k.next 0 0 1):=c.ne (a.ne (b.ne (s.ne r.get)));have aC:A.defers=[]:=by rw [c.ds,a.ds,b.ds,s.ds,r.ds,ay]
  have aD:=c.get;clear r s b a c;let O:=f.new .dfr;let Hb:=O.new (.loop .ready none A.tmps A.n [31,32] (.seq (rg 74 7) (rg 74 8)) (.block 1 (rg 74 9)) f.next);have sa:StepA f O:=qbf s5.wf;have sb:StepA O Hb:=qbf sa.wf;have ea:O.next=f.next+1:=qi
  have eb:Hb.next=f.next+2:=qi.trans (by rw [ea])
  have gL:Hb.get O.next=some (.loop .ready none A.tmps 40 [31,32] (.seq (rg 74 7) (rg 74 8)) (.block 1 (rg 74 9)) f.next):=by rw [<-n5];exact zl
  have gD:Hb.get f.next=some .dfr:=(ke (by omega)).trans zl
  have z:StepA k Hb:=s4.trans (s5.trans (sa.trans sb));have aQ:T.next<=f.next:=s5.next
  have m0:T.next<=c0:=m0
  have aE:k.ro<=H.next:=by rw [F.ro];exact S.ro.1
  have aL:=F.next
  have aM:Hb.ro<=H.next:=by rw [z.ro];exact aE
  have bq:z9 Hb k.next .nils:=⟨69,((s5.trans (sa.trans sb)).old k.next (show k.next<T.next by omega)).trans b4⟩
  have Y:=zgg (sp:=sp) (q:=k.next) (L:=O.next) (Hb:=Hb) (by omega) (by omega) (by omega) (by omega) (by omega) t9 gL;have ad:∀ o K n,I74 Hb k.next o K->n<Hb.next->n≠k.next->K.get n=Hb.get n:=λo K n h h1 h2=>h.1 n h1 h2
  have V:∀ o K n,I74 Hb k.next o K->n<k.next->K.get n=k.get n:=λo K n h h1=>(ad o K n h (by omega) (by omega)).trans (z.old n h1)
  have a1:∀ o K n v,I74 Hb k.next o K->T.next<=n->n<f.next->z9 f n v->z9 K n v:=λo K n v h h1 h2 ⟨e,Q⟩=>⟨e,(ad o K n h (by omega) (by omega)).trans (((sa.trans sb).old n h2).trans Q)⟩
  have a2:Stat (I74 Hb k.next) c0 (c0+2) (c0+1) vl sv 0 l (kf l).1 Hb.next:=by
   refine ⟨by omega,by omega,by omega,λo K h=>⟨a1 o K _ _ h (by omega) (by omega) p0,a1 o K _ _ h (by omega) (by omega) p2,a1 o K _ _ h (by omega) (by omega) p1,X K λn U=>?_⟩,q33 (λK h=>?_) N⟩
   .exact (V o K n h (by omega)).trans (F.old n U)
   .obtain ⟨⟨o,h⟩,h'⟩:=h;exact ⟨λn U=>V o K n h U,by omega⟩
  refine qah (qzf (mk:=[Dfr.mark f.next]) (H1:=O) (d:=f.next) (qe aD) (by kernel_rfl) rfl ?_);have hs:∀ n,n=99∨n=116∨n=117∨n=134->(cfg sp).E.spec n=none:=by
   rintro n (rfl | rfl | rfl | rfl)<;>exact hq.1 _ rfl
  refine (zgp (out:=[]) hs a3 (by omega) (kf l).1 Y ⟨λ_ _ _=>rfl,rfl,rfl,.nils,bq,.inl ⟨rfl,rfl⟩⟩ (zN _) (by omega) sb.wf a2 (zK 0) J (zdm aa (zK 0) J) (by rw [List.nil_append];omega)).mono λ_ H6 hA=>?_;obtain ⟨⟨i1,i2,i3,u,i4,i5⟩,s6⟩:=hA;rw [List.nil_append] at i5;have g6:=(i1 O.next (by omega) (by omega)).trans gL;have aR:=s6.next
  let H7:=H6.put O.next (.loop .exhausted none A.tmps 40 [31,32] (.seq (rg 74 7) (rg 74 8)) (.block 1 (rg 74 9)) f.next)
  have g7:∀ n,n≠O.next->H7.get n=H6.get n:=λn h=>zd h
  refine ⟨.normal,H7,?_,qa3 (qk ?_)⟩
  .show qab H6 O.next=_
   simp only [qab,g6,qbo];rw [kq (by rw [i2];omega)];rfl
  have aF:∀ n,H7.next<=n->H7.get n=none:=λn U=>by
   have U:H6.next<=n:=U
   rw [g7 n (by omega)];exact s6.wf n U
  have aG:isHole u=false:=by rcases i5 with ⟨rfl,_⟩ | ⟨_,_,rfl,_⟩<;>rfl
  have b7:z9 H7 k.next u:=by
   obtain ⟨e,Q⟩:=i4;exact ⟨e,(g7 _ (by omega)).trans Q⟩
  refine za (zt zpe ?_);have n6:({A with defers:=[Dfr.mark f.next]++A.defers}:Fr).n=40:=n5;have aH:({A with defers:=[Dfr.mark f.next]++A.defers}:Fr).tmp 9=some (.ptr k.next 0 0 1):=t9;refine go1 rfl (by omega) (jm rfl qh1 (qe aH) (qa0 b7 aG zgq zkk)) λf7 t=>?_;have n7:=t.n.trans n6;refine go1 rfl (by omega) (qy rfl (qe t.get)) λf8 w=>?_;have n8:=w.n.trans n7;refine go1 rfl (by omega) (qy rfl (v:=.int .i64 0) rfl) λf9 y=>qz (qk (qhw ?_));have aI:f9.defers=[Dfr.mark f.next]:=by
   rw [y.ds,w.ds,t.ds];show [Dfr.mark f.next]++A.defers=_;rw [aC];rfl
  have hM:Marks f.next H7 f9.defers:=by
   rw [aI];refine ⟨by simp,λx Q=>?_⟩;rw [List.mem_singleton] at Q;subst Q;exact ⟨f.next,rfl,zN _,by show f.next<H6.next;omega,(g7 _ (by omega)).trans ((i1 _ (by omega) (by omega)).trans gD)⟩
  obtain ⟨H8,w1,w2,aJ,w4,w5,w6⟩:=qyh hM (by show H6.ro<=f.next;rw [i2];omega) aF;have aS:H8.next=H6.next:=w2
  refine ⟨.inr rfl,H8,w1,[u,.int .i64 0],qc4 (y.ne w.get) (qc4 y.get qeg),⟨by omega,aJ.trans (i2.trans (z.ro.trans F.ro)),w4.trans (i3.trans (z.qp.trans F.qp)),λm hm=>?_⟩,w6,u,wd0 H8 M (cfg sp).codec,rfl,rfl,λ_ h=>h,?_⟩
  .rw [w5 m (.inl (by omega)),g7 m (by omega),i1 m (by omega) (by omega),z.old m (by omega)];exact F.old m hm
  .rcases i5 with h5 | ⟨nm',g,rfl,h6,h7⟩
   .exact .inl h5
   .have ae:H7.get nm'=some (.row (cPs (qaz l (kf l).1 0)) 73 g 0 0 false):=(g7 nm' (by omega)).trans h7;have aK:H8.get nm'=some (.row (cPs (qaz l (kf l).1 0)) 73 g 0 0 false):=(w5 nm' (.inr (by rw [ae];rfl))).trans ae;have af:szK 18=2:=rfl;refine .inr ⟨nm',g,_,73,0,false,rfl,by omega,aK,Nat.zero_le _,by rw [af];exact qjo _,λi hi j p W=>?_⟩;have hi:i<List.length (α:=Played) (qaz l (kf l).1 0):=hi;have W:[P.int .i64 none ((qaz l (kf l).1 0)[i]'hi).Sign,P.int .i64 none ((qaz l (kf l).1 0)[i]'hi).Pass][j]? = some p:=W;have hj:=(List.getElem?_eq_some_iff.1 W).1;have hv:(cPs (qaz l (kf l).1 0)).getD (i * szK 18+j) zs=(cP ((qaz l (kf l).1 0)[i]'hi)).getD j zs:=by
     rw [<-qwe hi,af,List.getD_eq_getElem?_getD,List.getD_eq_getElem?_getD,List.getElem?_take_of_lt (by simpa using hj),List.getElem?_drop]
    rw [hv]
    match j,hj,W with
    | 0,_,W=>cases W;exact .int λm hm=>by cases hm
    | 1,_,W=>cases W;exact .int λm hm=>by cases hm
 .have hu:qoz nm l=([],(qdp nm l).1):=by unfold qoz;rw [zT (by simpa using he)]
  rw [hu];rw [show decide ((qdp nm l).1≠0)=true by simpa using he] at C;refine qdj (qe C) (za (zt zs2 ?_));refine go1 rfl (by omega) (zf rfl (qe aq)) λf3 b=>?_;have Z:=b.n.trans n2;refine go1 rfl (by omega) (qy rfl (v:=.nils) rfl) λf4 a=>?_;have n4:=a.n.trans Z;refine go1 rfl (by omega) (qy rfl (qe (a.ne b.get))) λA c=>qz (qk (qhw (qy8 ?_)));exact ⟨.inr rfl,H2,by rw [c.ds,a.ds,b.ds,a8];rfl,[.nils,.int .i64 (qdp nm l).1],qc4 (c.ne a.get) (qc4 c.get qeg),I,a6,.nils,wd0 H2 M (cfg sp).codec,rfl,rfl,λ_ h=>h,.inl ⟨rfl,rfl⟩⟩
end Go.Proofs.YtpofmogdhigakaaGreatDoor
