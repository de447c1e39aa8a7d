import Derived.Test.YtpgchdcifbaioaaGreatDoorFns
import Derived.Test.YtpgchdcifbaioaaGreatDoorM5
import Derived.Test.YtpgchdcifbaioaaGreatDoorBookAwakeRun
import Derived.Test.YtpgchdcifbaioaaGreatDoorBrItoa
import Derived.Test.YtpgchdcifbaioaaGreatDoorBrLib
import Derived.Test.YtpgchdcifbaioaaGreatDoorPlainL
namespace Go.Proofs.YtpgchdcifbaioaaGreatDoor.bookTexts
open Go
open Go.E3 (ln bx splitI ln_nonneg)
set_option maxRecDepth 100000
theorem zbd:bookAwake.qwv.q05=true:=by kernel_rfl
theorem zmw:E2.qbx Tryz.prog bookAwake.qwv.f bookAwake.qwv.q5d:=E2.q1s Tryz.checked.mixed bookAwake.tables bookAwake.z6u (by kernel_rfl) bookAwake.zt5
def sp (f:Nat):Option (List E2.V->E2.Heap->Option (E2.CR×E2.Heap)):=if f=5 then some bookAwake.qwv.q5d else if f=17 then some bookAwake.spI else if f=61 then some (E2.qrs 9) else if f=19 then some E2.qqn else none
theorem z45:E3.zqp (cfg sp):=λf a=>by
 show sp f=none;unfold sp;rw [zF,zF,zF,zF]<;>(rintro rfl;cases a)
theorem quiet:E3.qd (cfg sp):=⟨z45,E3.z01 (C:=cfg sp) (F:=48) (tB:=95) (tS:=93) (tQ:=150) (tI:=3) (tU:=5) rfl rfl (by kernel_rfl) λc h=>by
 have:=E3.qez h;simp only [qp6,zD,zP,List.not_mem_nil,or_false] at this;rcases this with ⟨a,b⟩ | ⟨a,b⟩ | ⟨a,b⟩ | ⟨a,b⟩ | ⟨a,b⟩ | ⟨a,b⟩ | ⟨a,b⟩ | ⟨a,b⟩<;>first | exact a | cases b⟩
theorem z9p:∀ f s,sp f=some s->E2.qbx Tryz.prog f s:=by
 intro f s h;unfold sp at h;split at h
 .rename_i a;cases h;subst a;exact zmw
 split at h
 .rename_i a;cases h;subst a;exact bookAwake.z6t
 split at h
 .rename_i a;cases h;subst a;exact z1e
 split at h
 .rename_i a;cases h;subst a;exact z4h
 .cases h
theorem zmv (H:E2.Heap) (a:H.zm=(cfg sp).ng) (b:∀ gn o,(cfg sp).gobj gn=some o->H.get gn=some o/\gn<H.next):E2.qdv (cfg sp).E (.func 5) [] H λv H'=>v=.bool true/\H'=H:=
 E2.qoi (s:=bookAwake.qwv.q5d) rfl (E2.z1m zbd a λx c=>b x.1 x.2 (E3.qsa (by kernel_rfl) c)) ⟨rfl,rfl⟩
theorem zzz:E3.jd XK szK (cfg sp) 5 [] znu:=E3.zs8 zi (v:=.bool true) .sb rfl zmv λH M=>.sb .rfl .rfl λa=>absurd rfl a
theorem zxx:E3.kf XK szK (cfg sp) 5 ct5:=by
 intro ns a r h b;unfold ct5 at h;dsimp only at h;split at h
 .cases h;exact ⟨_,rfl,zzz,E3.qn rfl⟩
 .cases h
theorem q7t {H:E2.Heap} {M:Nat->Prop} {b:ZB} (S:E3.Start XK szK (cfg sp) H M):∃ w',E3.Answer XK szK (cfg sp) H M (.str b) (E3.qqj (E3.qcr (E3.P.str b:E3.PV KT).flat)) (.str b) H w':=
 ⟨{E3.wd0 H M (cfg sp).codec with owns:=λ_=>some 0},.refl H,S.wf,rfl,λn _=>.rfl,S.Mlt,rfl,rfl,λ_=>rfl,λi nm a=>(by cases a),λi j nm a=>(by cases a),.str⟩
theorem z4c {n:Int} (b:-4<=n) (c:n<=100):E3.jd XK szK (cfg sp) 17 [.int .i64 none n] (zqb n):=by
 intro H M i S d;obtain ⟨v,e,rfl,f,g⟩:=d.z7;have:=g.jb;subst this;cases f;have a:=S.ro.2.2 1 bookAwake.g1 rfl;refine E2.qdv.mono (E2.qoi (s:=bookAwake.spI) rfl (bookAwake.z5t b c S.ro.2.1 a.1 a.2) (Q:=λv H'=>v=.str (qi n)/\H'=H) ⟨rfl,rfl⟩) λu H' h=>?_;obtain ⟨rfl,rfl⟩:=h;exact q7t S
theorem z4d:E3.kf XK szK (cfg sp) 17 qrx:=by
 intro ns b r h a;unfold qrx at h;dsimp only at h;split at h
 .cases h;exact ⟨_,rfl,z4c a.1 a.2,E3.qn rfl⟩
 .cases h
theorem z36 (l:List ZB) (i:Nat) (h:i<l.length):(l.map E2.V.str).getD (0+i * 1+0) E2.j8=.str (l[i]'h):=by
 rw [show 0+i * 1+0=i by omega,List.getD_eq_getElem?_getD,List.getElem?_map,List.getElem?_eq_getElem h];rfl
theorem z4e {l:List ZB} {t:ZB} {H:E2.Heap} {nm gn off z:Nat} {cap:Option Nat} {cs:List E2.V} {e gen floor c:Nat} {ex:Bool} (m:ln t=1) (n:ln (qbl l t)<=1000000) (o:H.get nm=some (.row cs e gen floor c ex)) (p:floor<=gn)
  (q:l.length≠0->z=1) (w:off+l.length * 1<=cs.length) (d:∀ i (h:i<l.length),cs.getD (off+i) E2.j8=.str (l[i]'h)):E2.qqn [.slice nm gn off l.length z cap,.str t] H=some (.ret (.str (qbl l t)),H):=by
 unfold E2.qqn;dsimp only;by_cases f:l.length=0
 .obtain rfl:=List.length_eq_zero_iff.1 f;rfl
 .rw [zF f,zT (q f)];have g:(cs.drop off).take l.length=l.map E2.V.str:=by
   apply List.ext_getElem?;intro i;by_cases hi:i<l.length
   .have k:=d i hi;have b:off+i<cs.length:=by omega
    rw [List.getD_eq_getElem?_getD,List.getElem?_eq_getElem b] at k;rw [List.getElem?_take_of_lt hi,List.getElem?_drop,List.getElem?_map,List.getElem?_eq_getElem hi,List.getElem?_eq_getElem b];exact congrArg some k
   .rw [List.getElem?_eq_none (by simp;omega),List.getElem?_eq_none (by simp;omega)]
  have a:(E2.jz H l.length (.ptr nm gn off (off+l.length))).bind E2.q3u=some l:=by
   have r:Nat.ble floor gn=true:=Nat.ble_eq_true_of_le p;have s:Nat.ble (off+l.length) (off+l.length)=true:=Nat.ble_eq_true_of_le (zN _);have u:Nat.ble (off+l.length) cs.length=true:=Nat.ble_eq_true_of_le (by omega);unfold E2.jz;simp only [o,r,s,u,Bool.and_self,zO,g];rw [q9r,zB,E2.q7w]
  rw [a];have v:Lib.join l t=qbl l t:=q6p l t;have j:=q6o l m;simp only [ln] at n j;dsimp only;rw [v,zT ⟨by omega,by omega⟩]
theorem z1d {s t:ZB} (g:ln t=1) (m:ln s<=100000000) {o q:Option Int}:E3.jd XK szK (cfg sp) 61 [.str s,.str t,.int .i64 o 0,.int .i64 q (-1)] (.list 2 (splitI (bx t 0) s) none):=by
 intro H M K S r;obtain ⟨v,a,rfl,w,x⟩:=r.z7;obtain ⟨L,a,rfl,y,z⟩:=x.z7;obtain ⟨N,a,rfl,A,B⟩:=z.z7;obtain ⟨O,a,rfl,C,D⟩:=B.z7;have:=D.jb;subst this;cases w;cases y;cases A;cases C;obtain ⟨c,rfl⟩:∃ c,t=[c]:=List.length_eq_one_iff.1 (by simp only [ln] at g;omega);have E:E2.quk c s=splitI (bx [c] 0) s:=zb4 c s;have b:s.length<4294967281:=by simp only [ln] at m;omega
 refine E2.qdv.mono (E2.qoi (s:=E2.qrs 9) rfl (by unfold E2.qrs;dsimp only;rw [zT ⟨b,rfl,rfl⟩,E]) (Q:=λv H'=>v=.slice H.next 0 0 (splitI (bx [c] 0) s).length 1 (some (splitI (bx [c] 0) s).length)/\H'=H.new (.row ((splitI (bx [c] 0) s).map E2.V.str) 9 0 0 0 true)) ⟨rfl,rfl⟩) λu H' F=>?_;obtain ⟨rfl,rfl⟩:=F;generalize splitI (bx [c] 0) s=l;let w':E3.Wd:={E3.wd0 (H.new (.row (l.map E2.V.str) 9 0 0 0 true)) M (cfg sp).codec with owns:=λ_=>some 0};refine ⟨w',(E2.Keeps.refl H).new _,λn d=>?_,rfl,λn _=>.rfl,λn d=>?_,rfl,rfl,λ_=>rfl,λi nm e=>(by cases e),λi j nm e=>(by cases e),?_⟩
 .rw [E2.za] at d;rw [E2.Heap.q87,zF (by omega)];exact S.wf n (by omega)
 .rw [E2.za];have:=S.Mlt n d;omega
 .refine E3.Rep.list (cs:=l.map E2.V.str) (E2.Heap.q87 H _ _ ▸ zT rfl) (zN 0) (λG=>absurd (S.Mlt _ G) (Nat.lt_irrefl _)) rfl (by rw [List.length_map];show 0+l.length * 1<=_;omega) ⟨Nat.one_pos,.inl rfl⟩ (λk I=>by cases I;exact zN _) (λi h j p f=>?_) trivial;have J:j=0/\p=.str l[i]:=by
   rcases j with _ | j
   .cases f;exact ⟨rfl,rfl⟩
   .cases f
  obtain ⟨rfl,rfl⟩:=J;show E3.Rep XK szK w' _ ((l.map E2.V.str).getD (0+i * 1+0) E2.j8);rw [z36 l i h];exact .str
theorem z1c:E3.kf XK szK (cfg sp) 61 zb2:=by
 intro ns a r h b;unfold zb2 at h;dsimp only at h;split at h
 .cases h;exact by
   obtain ⟨c,rfl,rfl,d⟩:=b;exact ⟨_,rfl,z1d c d,E3.qn rfl⟩
 .cases h
theorem z4g {l:List ZB} {t:ZB} (f:ln t=1) (g:ln (qbl l t)<=1000000) {own:Option (Nat×Nat)}:E3.jd XK szK (cfg sp) 19 [.list 2 l own,.str t] (zqc l t):=by
 intro H M B S j;obtain ⟨v,b,rfl,k,m⟩:=j.z7;obtain ⟨C,b,rfl,n,p⟩:=m.z7;have:=p.jb;subst this;cases n;have r:E2.qqn [v,.str t] H=some (.ret (.str (qbl l t)),H):=by
  cases k with
  | nlist=>rfl
  | list w y D a z c e d E=>
   subst a;refine z4e f g w y (λh=>?_) z λi h=>?_
   .rcases c.2 with c | ⟨_,rfl,_⟩
    .exact c
    .exact absurd rfl h
   .have q:=d i h 0 _ rfl;rw [show ∀ o:Nat,o+i * szK 2+0=o+i from λo=>by show o+i * 1+0=_;omega] at q;generalize List.getD _ _ _=x at q;cases q;rfl
 refine E2.qdv.mono (E2.qoi (s:=E2.qqn) rfl r (Q:=λv H'=>v=.str (qbl l t)/\H'=H) ⟨rfl,rfl⟩) λu H' A=>?_;obtain ⟨rfl,rfl⟩:=A;exact q7t S
theorem z4f:E3.kf XK szK (cfg sp) 19 zb1:=by
 intro ns b r h a;unfold zb1 at h;dsimp only at h;split at h
 .cases h;exact ⟨_,rfl,z4g a.1 a.2,E3.qn rfl⟩
 .cases h
end Go.Proofs.YtpgchdcifbaioaaGreatDoor.bookTexts
