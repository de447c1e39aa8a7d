import Derived.Test.YtpdphcekmhajdaaGreatDoorFns
import Derived.Test.YtpdphcekmhajdaaGreatDoorM5
import Derived.Test.YtpdphcekmhajdaaGreatDoorBookAwakeRun
import Derived.Test.YtpdphcekmhajdaaGreatDoorBrItoa
import Derived.Test.YtpdphcekmhajdaaGreatDoorBrLib
import Derived.Test.YtpdphcekmhajdaaGreatDoorPlainL
namespace Go.Proofs.YtpdphcekmhajdaaGreatDoor.bookRound
open Go
open Go.E3 (ln bx splitI ln_nonneg)
set_option maxRecDepth 100000
theorem q7o:bookAwake.qur.qyk=true:=by kernel_rfl
theorem zhf:E2.qan Tryz.prog bookAwake.qur.f bookAwake.qur.q19:=E2.qy9 Tryz.checked.mixed bookAwake.tables bookAwake.zyj (by kernel_rfl) bookAwake.zmr
def sp (f:Nat):Option (List E2.V->E2.Heap->Option (E2.CR×E2.Heap)):=if f=4 then some bookAwake.qur.q19 else if f=30 then some bookAwake.spI else if f=59 then some (E2.qqn 9) else if f=32 then some E2.qpd else none
theorem zwu:E3.zkk (cfg sp):=λf a=>by
 show sp f=none;unfold sp;rw [zF,zF,zF,zF]<;>(rintro rfl;cases a)
theorem quiet:E3.qx (cfg sp):=⟨zwu,E3.zs2 (C:=cfg sp) (F:=57) (tB:=112) (tS:=110) (tQ:=161) (tI:=3) (tU:=5) rfl rfl (by kernel_rfl) λc h=>by
 have:=E3.qfz h;simp only [qoy,zD,zP,List.not_mem_nil,or_false] at this;rcases this with ⟨a,b⟩ | ⟨a,b⟩ | ⟨a,b⟩ | ⟨a,b⟩ | ⟨a,b⟩ | ⟨a,b⟩ | ⟨a,b⟩<;>first | exact a | cases b⟩
theorem z01:∀ f s,sp f=some s->E2.qan Tryz.prog f s:=by
 intro f s h;unfold sp at h;split at h
 .rename_i a;cases h;subst a;exact zhf
 split at h
 .rename_i a;cases h;subst a;exact bookAwake.zyi
 split at h
 .rename_i a;cases h;subst a;exact ztc
 split at h
 .rename_i a;cases h;subst a;exact zv5
 .cases h
theorem zhe (H:E2.Heap) (a:H.zf=(cfg sp).ng) (b:∀ gn o,(cfg sp).gobj gn=some o->H.get gn=some o/\gn<H.next):E2.qc5 (cfg sp).E (.func 4) [] H λv H'=>v=.bool true/\H'=H:=
 E2.qnc (s:=bookAwake.qur.q19) rfl (E2.ztk q7o a λx c=>b x.1 x.2 (E3.qq0 (by kernel_rfl) c)) ⟨rfl,rfl⟩
theorem zr0:E3.qa2 XK szK (cfg sp) 4 [] zh7:=E3.zlz kz (v:=.bool true) .sb rfl zhe λH M=>.sb .rfl .rfl λa=>absurd rfl a
theorem zqe:E3.j8 XK szK (cfg sp) 4 ct4:=by
 intro ns a r h b;unfold ct4 at h;dsimp only at h;split at h
 .cases h;exact ⟨_,rfl,zr0,E3.zm rfl⟩
 .cases h
theorem q4d {H:E2.Heap} {M:Nat->Prop} {b:ZB} (S:E3.Start XK szK (cfg sp) H M):∃ w',E3.Answer XK szK (cfg sp) H M (.str b) (E3.qo9 (E3.qb6 (E3.P.str b:E3.PV KT).flat)) (.str b) H w':=
 ⟨{E3.wd0 H M (cfg sp).codec with owns:=λ_=>some 0},.refl H,S.wf,rfl,λn _=>.rfl,S.Mlt,rfl,rfl,λ_=>rfl,λi nm a=>(by cases a),λi j nm a=>(by cases a),.str⟩
theorem zv0 {n:Int} (b:-4<=n) (c:n<=100):E3.qa2 XK szK (cfg sp) 30 [.int .i64 none n] (zj7 n):=by
 intro H M h S d;obtain ⟨v,e,rfl,r1,f⟩:=d.zt;have:=f.ka;subst this;cases r1;have a:=S.ro.2.2 1 bookAwake.g1 rfl;refine E2.qc5.mono (E2.qnc (s:=bookAwake.spI) rfl (bookAwake.zxf b c S.ro.2.1 a.1 a.2) (Q:=λv H'=>v=.str (qu n)/\H'=H) ⟨rfl,rfl⟩) λu H' g=>?_;obtain ⟨rfl,rfl⟩:=g;exact q4d S
theorem zv1:E3.j8 XK szK (cfg sp) 30 qqq:=by
 intro ns b r h a;unfold qqq at h;dsimp only at h;split at h
 .cases h;exact ⟨_,rfl,zv0 a.1 a.2,E3.zm rfl⟩
 .cases h
theorem zvv (l:List ZB) (i:Nat) (h:i<l.length):(l.map E2.V.str).getD (0+i * 1+0) E2.je=.str (l[i]'h):=by
 rw [show 0+i * 1+0=i by omega,List.getD_eq_getElem?_getD,List.getElem?_map,List.getElem?_eq_getElem h];rfl
theorem zv2 {l:List ZB} {t:ZB} {H:E2.Heap} {nm gn off z:Nat} {cap:Option Nat} {cs:List E2.V} {e gen floor c:Nat} {ex:Bool} (m:ln t=1) (n:ln (qaz l t)<=1000000) (o:H.get nm=some (.row cs e gen floor c ex)) (p:floor<=gn)
  (q:l.length≠0->z=1) (w:off+l.length * 1<=cs.length) (d:∀ i (h:i<l.length),cs.getD (off+i) E2.je=.str (l[i]'h)):E2.qpd [.slice nm gn off l.length z cap,.str t] H=some (.ret (.str (qaz l t)),H):=by
 unfold E2.qpd;dsimp only;by_cases f:l.length=0
 .obtain rfl:=List.length_eq_zero_iff.1 f;rfl
 .rw [zF f,zT (q f)];have g:(cs.drop off).take l.length=l.map E2.V.str:=by
   apply List.ext_getElem?;intro i;by_cases hi:i<l.length
   .have k:=d i hi;have b:off+i<cs.length:=by omega
    rw [List.getD_eq_getElem?_getD,List.getElem?_eq_getElem b] at k;rw [List.getElem?_take_of_lt hi,List.getElem?_drop,List.getElem?_map,List.getElem?_eq_getElem hi,List.getElem?_eq_getElem b];exact congrArg some k
   .rw [List.getElem?_eq_none (by simp;omega),List.getElem?_eq_none (by simp;omega)]
  have a:(E2.jb H l.length (.ptr nm gn off (off+l.length))).bind E2.q01=some l:=by
   have r:Nat.ble floor gn=true:=Nat.ble_eq_true_of_le p;have s:Nat.ble (off+l.length) (off+l.length)=true:=Nat.ble_eq_true_of_le (zN _);have u:Nat.ble (off+l.length) cs.length=true:=Nat.ble_eq_true_of_le (by omega);unfold E2.jb;simp only [o,r,s,u,Bool.and_self,zO,g];rw [q6b,zB,E2.q4g]
  rw [a];have v:Lib.join l t=qaz l t:=q3f l t;have j:=q3e l m;simp only [ln] at n j;dsimp only;rw [v,zT ⟨by omega,by omega⟩]
theorem ztb {s t:ZB} (g:ln t=1) (m:ln s<=100000000) {o q:Option Int}:E3.qa2 XK szK (cfg sp) 59 [.str s,.str t,.int .i64 o 0,.int .i64 q (-1)] (.list 2 (splitI (bx t 0) s) none):=by
 intro H M J S r;obtain ⟨v,a,rfl,r1,w⟩:=r.zt;obtain ⟨K,a,rfl,x,y⟩:=w.zt;obtain ⟨L,a,rfl,z,A⟩:=y.zt;obtain ⟨N,a,rfl,B,C⟩:=A.zt;have:=C.ka;subst this;cases r1;cases x;cases z;cases B;obtain ⟨c,rfl⟩:∃ c,t=[c]:=List.length_eq_one_iff.1 (by simp only [ln] at g;omega);have D:E2.qsv c s=splitI (bx [c] 0) s:=q79 c s;have b:s.length<4294967281:=by simp only [ln] at m;omega
 refine E2.qc5.mono (E2.qnc (s:=E2.qqn 9) rfl (by unfold E2.qqn;dsimp only;rw [zT ⟨b,rfl,rfl⟩,D]) (Q:=λv H'=>v=.slice H.next 0 0 (splitI (bx [c] 0) s).length 1 (some (splitI (bx [c] 0) s).length)/\H'=H.new (.row ((splitI (bx [c] 0) s).map E2.V.str) 9 0 0 0 true)) ⟨rfl,rfl⟩) λu H' E=>?_;obtain ⟨rfl,rfl⟩:=E;generalize splitI (bx [c] 0) s=l;let w':E3.Wd:={E3.wd0 (H.new (.row (l.map E2.V.str) 9 0 0 0 true)) M (cfg sp).codec with owns:=λ_=>some 0};refine ⟨w',(E2.Keeps.refl H).new _,λn d=>?_,rfl,λn _=>.rfl,λn d=>?_,rfl,rfl,λ_=>rfl,λi nm e=>(by cases e),λi j nm e=>(by cases e),?_⟩
 .rw [E2.qw] at d;rw [E2.Heap.q5t,zF (by omega)];exact S.wf n (by omega)
 .rw [E2.qw];have:=S.Mlt n d;omega
 .refine E3.Rep.list (cs:=l.map E2.V.str) (E2.Heap.q5t H _ _ ▸ zT rfl) (zN 0) (λF=>absurd (S.Mlt _ F) (Nat.lt_irrefl _)) rfl (by rw [List.length_map];show 0+l.length * 1<=_;omega) ⟨Nat.one_pos,.inl rfl⟩ (λk G=>by cases G;exact zN _) (λi h j p f=>?_) trivial;have I:j=0/\p=.str l[i]:=by
   rcases j with _ | j
   .cases f;exact ⟨rfl,rfl⟩
   .cases f
  obtain ⟨rfl,rfl⟩:=I;show E3.Rep XK szK w' _ ((l.map E2.V.str).getD (0+i * 1+0) E2.je);rw [zvv l i h];exact .str
theorem zta:E3.j8 XK szK (cfg sp) 59 q78:=by
 intro ns a r h b;unfold q78 at h;dsimp only at h;split at h
 .cases h;exact by
   obtain ⟨c,rfl,rfl,d⟩:=b;exact ⟨_,rfl,ztb c d,E3.zm rfl⟩
 .cases h
theorem zv4 {l:List ZB} {t:ZB} (f:ln t=1) (g:ln (qaz l t)<=1000000) {own:Option (Nat×Nat)}:E3.qa2 XK szK (cfg sp) 32 [.list 2 l own,.str t] (zj8 l t):=by
 intro H M A S j;obtain ⟨v,b,rfl,r1,k⟩:=j.zt;obtain ⟨B,b,rfl,m,n⟩:=k.zt;have:=n.ka;subst this;cases m;have p:E2.qpd [v,.str t] H=some (.ret (.str (qaz l t)),H):=by
  cases r1 with
  | nlist=>rfl
  | list r w C a y c e d D=>
   subst a;refine zv2 f g r w (λh=>?_) y λi h=>?_
   .rcases c.2 with c | ⟨_,rfl,_⟩
    .exact c
    .exact absurd rfl h
   .have q:=d i h 0 _ rfl;rw [show ∀ o:Nat,o+i * szK 2+0=o+i from λo=>by show o+i * 1+0=_;omega] at q;generalize List.getD _ _ _=x at q;cases q;rfl
 refine E2.qc5.mono (E2.qnc (s:=E2.qpd) rfl p (Q:=λv H'=>v=.str (qaz l t)/\H'=H) ⟨rfl,rfl⟩) λu H' z=>?_;obtain ⟨rfl,rfl⟩:=z;exact q4d S
theorem zv3:E3.j8 XK szK (cfg sp) 32 q77:=by
 intro ns b r h a;unfold q77 at h;dsimp only at h;split at h
 .cases h;exact ⟨_,rfl,zv4 a.1 a.2,E3.zm rfl⟩
 .cases h
end Go.Proofs.YtpdphcekmhajdaaGreatDoor.bookRound
