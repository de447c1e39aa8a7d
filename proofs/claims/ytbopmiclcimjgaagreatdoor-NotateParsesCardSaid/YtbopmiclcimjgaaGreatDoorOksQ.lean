import Derived.Test.YtbopmiclcimjgaaGreatDoorPlainN
import Derived.Test.YtbopmiclcimjgaaGreatDoorOksR
import Derived.Test.YtbopmiclcimjgaaGreatDoorOksT1
import Derived.Test.YtbopmiclcimjgaaGreatDoorVcsP
namespace Go.Proofs.YtbopmiclcimjgaaGreatDoor
open Go Go.E2 Go.E3
set_option maxRecDepth 100000
theorem sub_le (l:ZB) (i j:Int):ln (sub l i j)<=ln l:=by simp only [ln,sub,List.length_drop,List.length_take];omega
theorem zef (l:ZB) (f i:Int):∀ w ∈ (kb l f i).1,ln w.Text<=ln l:=by
 fun_induction kb l f i with
 | case1 i h1=>intro w hw;cases hw
 | case2 i h1 h2 h3 h4 ih=>
  intro w hw
  rcases zD.1 hw with rfl | hw
  .exact sub_le _ _ _
  .exact ih w hw
 | case3 i h1 h2 h3 h4 ih=>intro w hw;cases hw
 | case4 i h1 h2 h3=>intro w hw;cases hw
 | case5 i h1 h2 h3 h4 h5 ih=>
  intro w hw
  rcases zD.1 hw with rfl | hw
  .exact sub_le _ _ _
  .exact ih w hw
 | case6 i h1 h2 h3 h4 h5 ih=>intro w hw;cases hw
 | case7 i h1 h2 h3 h4=>intro w hw;cases hw
 | case8 i h1 h2 h3=>intro w hw;cases hw
theorem q64:∀ (L:List ZB) (x:Int),∀ r ∈ (qay L x).1,1<=ln r.Words/\∀ w ∈ r.Words,ln w.Text<=1000
 | [],x=>fun r h=>by cases h
 | l::L,x=>by
  have ih:=q64 L (x+ln l+1)
  unfold qay
  split
  .intro r h;cases h
  .rename_i hl
   split
   .intro r h;cases h
   .split
    .split
     .exact ih
     .rename_i hne
      intro r hr
      rcases zD.1 hr with rfl | hr
      .refine ⟨?_,fun w hw=>?_⟩
       .show 1<=ln (kb l x 0).1
        cases hc:(kb l x 0).1 with
        | nil=>exact absurd hc hne
        | cons a b=>rw [qa5];have:=zb b;omega
       .have:=zef l x 0 w hw;omega
      .exact ih r hr
    .intro r h;cases h
theorem zkx (t:ZB):∀ r ∈ (qa t).1,1<=ln r.Words/\ln r.Words<=1000/\∀ w ∈ r.Words,ln w.Text<=1000:=by
 intro r hr
 have h1:=(qxy t).2 r hr
 unfold qa at hr
 split at hr
 .cases hr
 .have:=q64 _ _ r hr
  exact ⟨this.1,h1,this.2⟩
section
variable {t:ZB} {x:List Sign} {y:List Word} {z:List Int} {i k:Int} {Q:Prop}
theorem zst {α:Type} [Inhabited α] {l:List α} {i j:Int} (h0:0<=i) (h1:0<=j):ix (fr l i) j=ix l (i+j):=by
 unfold ix fr
 rw [List.getD_eq_getElem?_getD,List.getD_eq_getElem?_getD,List.getElem?_drop,show (i+j).toNat=i.toNat+j.toNat by omega]
theorem q3c (h0:0<=i) (h:i<ln (qa t).1):1<=ln (ix (qa t).1 i).Words/\ln (ix (qa t).1 i).Words<=1000/\∀ w ∈ (ix (qa t).1 i).Words,ln w.Text<=1000:=zkx t _ (qr6 h0 h)
theorem qqz (h0:0<=i) (h:i<ln (qa t).1) (k0:0<=k) (k1:k<ln (ix (qa t).1 i).Words):ln (ix (ix (qa t).1 i).Words k).Text<=1000:=(q3c h0 h).2.2 _ (qr6 k0 k1)
theorem zha (y:List Word) (w:Word):ats (y++[w])=ats y++[w.At]:=by simp [ats]
theorem zqm (h0:0<=i) (h:i<ln y):ix (ats y) i=(ix y i).At:=by
 have hi:i.toNat<y.length:=by simp only [ln] at h;omega
 unfold ix ats
 rw [List.getD_eq_getElem?_getD,List.getD_eq_getElem?_getD,List.getElem?_map,List.getElem?_eq_getElem hi]
 rfl
def qgr (P:Res) (e x:Int):Prop:=P=qur e x
theorem q43 {P:Res} {e x:Int}:(([]:ZB)=P.1.1/\([]:List Sign)=P.1.2/\(e:Int)=P.2.1/\(x:Int)=P.2.2/\True)↔qgr P e x:=by
 obtain ⟨⟨a,b⟩,c,d⟩:=P
 simp only [qgr,qur,zP,and_true]
 constructor
 .rintro ⟨rfl,rfl,rfl,rfl⟩;simp
 .rintro ⟨⟨rfl,rfl⟩,rfl,rfl⟩;simp
theorem q6w (h:(qa t).2.1≠0):qgr (qo t) (qa t).2.1 (qa t).2.2:=by rw [qgr,qo,if_pos h]
theorem q6v (h:(qa t).2.1=0) (h1:ln (qa t).1=0):qgr (qo t) 9 (ln t):=by rw [qgr,qo,if_neg (by omega),if_pos h1]
theorem qsl (h:(qa t).2.1=0) (h1:pv (ln (qa t).1≠0)) (h2:(ix (ix (qa t).1 0).Words 0).Text≠[112,97,114,116]∨(ix (ix (qa t).1 0).Words 0).Quoted=true∨ln (ix (qa t).1 0).Words≠2):qgr (qo t) 3 (ix (ix (qa t).1 0).Words 0).At:=by
 have he:qh8 t=3:=by rw [qh8];exact if_pos h2
 rw [qgr,qo,if_neg (by omega),if_neg (pv.out h1),if_pos (by rw [he];decide),q9h,if_pos he,he];rfl
theorem zb4 (h3:(ix (ix (qa t).1 0).Words 0).Text=[112,97,114,116]) (h4:(ix (ix (qa t).1 0).Words 0).Quoted=false) (h5:ln (ix (qa t).1 0).Words=2):¬ ((ix (hd0 t).Words 0).Text≠[112,97,114,116]∨(ix (hd0 t).Words 0).Quoted=true∨ln (hd0 t).Words≠2):=by
 rintro (h | h | h)
 .exact h h3
 .have h4':(ix (hd0 t).Words 0).Quoted=false:=h4
  rw [h4'] at h;cases h
 .exact h h5
theorem q26 (h:(qa t).2.1=0) (h1:pv (ln (qa t).1≠0)) (h3:(ix (ix (qa t).1 0).Words 0).Text=[112,97,114,116]) (h4:(ix (ix (qa t).1 0).Words 0).Quoted=false) (h5:ln (ix (qa t).1 0).Words=2)
  (h2:(ix (ix (qa t).1 0).Words 1).Quoted=true∨jg (ix (ix (qa t).1 0).Words 1).Text=false):qgr (qo t) 7 (ix (ix (qa t).1 0).Words 1).At:=by
 have he:qh8 t=7:=by rw [qh8,if_neg (zb4 h3 h4 h5)];exact if_pos h2
 rw [qgr,qo,if_neg (by omega),if_neg (pv.out h1),if_pos (by rw [he];decide),q9h,if_neg (by rw [he];decide),he];rfl
theorem zkc (h:(qa t).2.1=0) (h1:ln (qa t).1≠0) (h3:(ix (ix (qa t).1 0).Words 0).Text=[112,97,114,116]) (h4:(ix (ix (qa t).1 0).Words 0).Quoted=false) (h5:ln (ix (qa t).1 0).Words=2)
  (h6:(ix (ix (qa t).1 0).Words 1).Quoted=false) (h7:jg (ix (ix (qa t).1 0).Words 1).Text=true):rws (nmB t) (ln t) (fr (qa t).1 1) [] []=qo t:=by
 have he:qh8 t=0:=by
  rw [qh8,if_neg (zb4 h3 h4 h5),if_neg]
  rintro (h | h)
  .have h6':(ix (hd0 t).Words 1).Quoted=false:=h6
   rw [h6'] at h;cases h
  .have h7':jg (nmB t)=true:=h7
   rw [h7'] at h;cases h
 rw [qo,if_neg (by omega),if_neg h1,if_neg (by omega)]
theorem zeb {l:List Sign}:∀ (m:Nat) (i:Int),0<=i->i<=ln l->(ln l-i).toNat=m->(qh0 l i).1≠0->0<=(qh0 l i).2/\(qh0 l i).2<ln l:=by
 intro m
 induction m with
 | zero=>intro i h0 h1 hm h;rw [q18 (by omega)] at h;exact absurd rfl h
 | succ m ih=>
  intro i h0 h1 hm h
  by_cases he:qtp l i=0
  .rw [qwf (by omega) he] at h ⊢;exact ih (i+1) (by omega) (by omega) (by omega) h
  .rw [q19 (by omega) he];exact ⟨h0,by show i<ln l;omega⟩
theorem qwe {nm:ZB} {l:List Sign} (hn:jg nm=true) (h:(zo nm l).1≠0):0<=(zo nm l).2/\(zo nm l).2<ln l:=by
 unfold zo at h ⊢
 rw [if_neg (by rw [hn];decide)] at h ⊢
 split
 .exact ⟨Int.le_refl _,by show (0:Int)<ln l;omega⟩
 .rename_i hl
  rw [if_neg hl] at h
  exact zeb _ 0 (Int.le_refl _) (zb l) rfl h
theorem zl2 {nm:ZB} {l:List Sign} (h:(zo nm l).1=0):ln l<=400:=by
 unfold zo at h
 split at h
 .cases h
 .split at h
  .cases h
  .omega
variable {nm:ZB} {len:Int} {rs:List Row} {P:Res}
theorem zcx (h:rws nm len (fr rs i) x z=P) (h0:0<=i) (h1:i<ln rs) (h2:(ix (ix rs i).Words 0).Text=[101,110,100]) (h3:(ix (ix rs i).Words 0).Quoted=false):qow nm (ix rs i) (fr rs (i+1)) x z=P:=by
 rw [qjy h0 h1,rws,if_pos ⟨h2,h3⟩] at h;exact h
theorem zcz (h:rws nm len (fr rs i) x z=P) (h0:0<=i) (h1:i<ln rs) (h2:(ix (ix rs i).Words 0).Text≠[101,110,100]∨(ix (ix rs i).Words 0).Quoted=true):qp4 nm len (fr rs (i+1)) (wds (fr (ix rs i).Words 0) x z)=P:=by
 rw [qjy h0 h1,rws,if_neg] at h
 .exact h
 .rintro ⟨a,b⟩
  rcases h2 with h2 | h2
  .exact h2 a
  .rw [h2] at b;cases b
theorem q7a (h:rws nm len (fr rs i) x z=P) (h1:ln rs<=i):qgr P 9 len:=by rw [qla h1] at h;exact h.symm
theorem q5j (h:qow nm (ix rs i) (fr rs (i+1)) x z=P) (h1:1<ln (ix rs i).Words):qgr P 3 (ix (ix rs i).Words 1).At:=by rw [qow,if_pos h1] at h;exact h.symm
theorem q5k (h:qow nm (ix rs i) (fr rs (i+1)) x z=P) (h0:0<=i) (h1:ln (ix rs i).Words<=1) (h2:i+1<ln rs):qgr P 3 (ix (ix rs (i+1)).Words 0).At:=by
 have e:ix (fr rs (i+1)) 0=ix rs (i+1):=by rw [zst (by omega) (Int.le_refl _),Int.add_zero]
 rw [qow,if_neg (by omega),if_pos (by rw [qmu (by omega) (by omega)];omega),e] at h;exact h.symm
theorem q5i (h:qow nm (ix rs i) (fr rs (i+1)) x z=P) (h1:ln (ix rs i).Words<=1) (h2:ln rs<=i+1):(if (zo nm x).1≠0 then qur (zo nm x).1 (ix z (zo nm x).2) else ((nm,x),(0,0)))=P:=by
 rw [qow,if_neg (by omega),if_neg (by rw [qla h2,qhv];omega)] at h;exact h
theorem zbv (h:qow nm (ix rs i) (fr rs (i+1)) x z=P) (h1:ln (ix rs i).Words<=1) (h2:ln rs<=i+1) (h3:(zo nm x).1≠0):qgr P (zo nm x).1 (ix z (zo nm x).2):=by
 have:=q5i h h1 h2
 rw [if_pos h3] at this;exact this.symm
theorem q5h (h:qow nm (ix rs i) (fr rs (i+1)) x z=P) (h1:ln (ix rs i).Words<=1) (h2:ln rs<=i+1) (h3:(zo nm x).1=0):P=((nm,x),(0,0)):=by
 have:=q5i h h1 h2
 rw [if_neg (by omega)] at this;exact this.symm
theorem zlk {ws:List Word} (h:qp4 nm len rs (wds (fr ws k) x z)=P) (h0:0<=k) (h1:k<ln ws) (h2:qrc (ix ws k)≠0):qgr P (qrc (ix ws k)) (ix ws k).At:=by
 rw [qjy h0 h1,wds,if_pos h2,qp4,if_pos h2] at h;exact h.symm
theorem zc8 {ws:List Word} (h:qp4 nm len rs (wds (fr ws k) x z)=P) (h0:0<=k) (h1:k<ln ws) (h2:qrc (ix ws k)=0):qp4 nm len rs (wds (fr ws (k+1)) (x++[(zc (ix ws k).Text).1]) (z++[(ix ws k).At]))=P:=by
 rw [qjy h0 h1,wds,if_neg (by omega)] at h;exact h
theorem zc9 {ws:List Word} (h:qp4 nm len rs (wds (fr ws k) x z)=P) (h1:ln ws<=k):rws nm len rs x z=P:=by
 rw [qla h1,wds,qp4,if_neg (by simp)] at h;exact h
theorem zbm {w:Word} (h:w.Quoted=true):qrc w=3:=by rw [qrc,if_pos h]
theorem qz1 {w:Word} (h:w.Quoted=false):qrc w=(zc w.Text).2:=by rw [qrc,if_neg (by rw [h];simp)]
end
def zlp (P:Res) (n:ZB) (l:List Sign):Prop:=P=((n,l),(0,0))
theorem q44 {P:Res} {n:ZB} {l:List Sign}:(n=P.1.1/\l=P.1.2/\(0:Int)=P.2.1/\(0:Int)=P.2.2/\True)↔zlp P n l:=by
 obtain ⟨⟨a,b⟩,c,d⟩:=P
 simp only [zlp,zP,and_true]
 constructor
 .rintro ⟨rfl,rfl,rfl,rfl⟩;simp
 .rintro ⟨⟨rfl,rfl⟩,rfl,rfl⟩;simp
theorem q7r (w:Word):Word.mk w.At w.Text w.Quoted=w:=rfl
section
variable {t:ZB} {x:List Sign} {y:List Word} {z:List Int} {i k:Int} {Q:Prop}
theorem v0:(jm t x y i->Q)↔(pv (jm t x y i)->0<=i->i<=ln (fr (qa t).1 1)->ln y=ln x->ln x<=1000 * i->Q):=⟨fun h a _ _ _ _=>h a,fun h a=>h a a.out.1 a.out.2.1 a.out.2.2.1 a.out.2.2.2.1⟩
theorem v1:(kv t x y k i->Q)↔(pv (kv t x y k i)->0<=k->k<=ln (ix (fr (qa t).1 1) i).Words->ln y=ln x->ln x<=1000 * i+k->Q):=⟨fun h a _ _ _ _=>h a,fun h a=>h a a.out.1 a.out.2.1 a.out.2.2.1 a.out.2.2.2.1⟩
theorem v2:(jn t x z i->Q)↔(pv (jn t x z i)->1<=i->i<=ln (qa t).1->ln z=ln x->ln x<=1000 * i->Q):=⟨fun h a _ _ _ _=>h a,fun h a=>h a a.out.1 a.out.2.1 a.out.2.2.1 a.out.2.2.2.1⟩
theorem v3:(kx t x z k i->Q)↔(pv (kx t x z k i)->0<=k->k<=ln (ix (qa t).1 i).Words->ln z=ln x->ln x<=1000 * i+k->Q):=⟨fun h a _ _ _ _=>h a,fun h a=>h a a.out.1 a.out.2.1 a.out.2.2.1 a.out.2.2.2.1⟩
theorem v4:(i<ln (fr (qa t).1 1)->Q)↔(i+1<=ln (fr (qa t).1 1)->(0<=i->1<=ln (ix (fr (qa t).1 1) i).Words/\ln (ix (fr (qa t).1 1) i).Words<=1000)->(0<=i->i+2<=ln (qa t).1)->Q):=by
 constructor
 .intro h a _ _;exact h (by omega)
 .intro h a
  have hl:0<=i->i+2<=ln (qa t).1:=fun h0=>by
   have:ln (fr (qa t).1 1)=(ln (qa t).1-1).toNat:=by simp only [ln,fr,List.length_drop];omega
   omega
  refine h (by omega) (fun h0=>?_) hl
  rw [zi0 (by decide) h0]
  have:=q3c (t:=t) (i:=1+i) (by omega) (by have:=hl h0;omega)
  exact ⟨this.1,this.2.1⟩
theorem v5:(ln (qa t).1≠0->Q)↔(pv (ln (qa t).1≠0)->1<=ln (qa t).1->1<=ln (ix (qa t).1 0).Words->Q):=by
 constructor
 .intro h a _ _;exact h a
 .intro h a
  have:=zb (qa t).1
  exact h a (by omega) (q3c (Int.le_refl _) (by omega)).1
theorem v6:(i<ln (qa t).1->Q)↔(i+1<=ln (qa t).1->(0<=i->1<=ln (ix (qa t).1 i).Words/\ln (ix (qa t).1 i).Words<=1000)->Q):=by
 constructor
 .intro h a _;exact h (by omega)
 .intro h a
  refine h (by omega) (fun h0=>?_)
  have:=q3c (t:=t) (i:=i) h0 a
  exact ⟨this.1,this.2.1⟩
theorem znp (h:(qa t).2.1=0) (h1:pv (ln (qa t).1≠0)) (h3:(ix (ix (qa t).1 0).Words 0).Text=[112,97,114,116]) (h4:(ix (ix (qa t).1 0).Words 0).Quoted=false) (h5:ln (ix (qa t).1 0).Words=2)
  (h6:(ix (ix (qa t).1 0).Words 1).Quoted=false) (h7:jg (ix (ix (qa t).1 0).Words 1).Text=true):jm t [] [] 0:=
 ⟨⟨Int.le_refl _,zb _,rfl,by decide,zkc h h1 h3 h4 h5 h6 h7⟩⟩
theorem zpj (h:pv (jm t x y i)) (h0:0<=i) (h1:i+1<=ln (fr (qa t).1 1)) (h2:(ix (ix (fr (qa t).1 1) i).Words 0).Text≠[101,110,100]∨(ix (ix (fr (qa t).1 1) i).Words 0).Quoted=true):kv t x y 0 i:=by
 obtain ⟨_,_,hl,hb,he⟩:=Hold.out h
 exact ⟨⟨Int.le_refl _,zb _,hl,by omega,zcz he h0 (by show i<ln (fr (qa t).1 1);omega) h2⟩⟩
theorem zcp (h:pv (jm t x y i)) (h0:0<=i) (h1:i+1<=ln (fr (qa t).1 1)) (h2:(ix (ix (fr (qa t).1 1) i).Words 0).Text=[101,110,100]) (h3:(ix (ix (fr (qa t).1 1) i).Words 0).Quoted=false) :
  qow (nmB t) (ix (fr (qa t).1 1) i) (fr (fr (qa t).1 1) (i+1)) x (ats y)=qo t:=by
 obtain ⟨_,_,hl,hb,he⟩:=Hold.out h
 exact zcx he h0 (by show i<ln (fr (qa t).1 1);omega) h2 h3
theorem zqz (h:qow (nmB t) (ix (fr (qa t).1 1) i) (fr (fr (qa t).1 1) (i+1)) x z=qo t) (h0:0<=i) (h1:ln (ix (fr (qa t).1 1) i).Words<=1) (h2:i+2+1<=ln (qa t).1):qgr (qo t) 3 (ix (ix (qa t).1 (i+2)).Words 0).At:=by
 have:=q5k h h0 h1 (by rw [qmu (by decide) (by omega)];omega)
 rw [zi0 (by decide) (by omega),show 1+(i+1)=i+2 by omega] at this;exact this
theorem zpi (h:ln (qa t).1<=i+2) (h0:0<=i):ln (fr (qa t).1 1)<=i+1:=by
 simp only [ln,fr,List.length_drop] at *;omega
theorem zqy (h:pv (jm t x y i)) (h0:0<=i) (h1:i+1<=ln (fr (qa t).1 1)) (h2:(ix (ix (fr (qa t).1 1) i).Words 0).Text=[101,110,100]) (h3:(ix (ix (fr (qa t).1 1) i).Words 0).Quoted=false) (h4:ln (ix (fr (qa t).1 1) i).Words<=1) (h5:ln (qa t).1<=i+2)
  (hl:ln y=ln x) (hn:jg (ix (ix (qa t).1 0).Words 1).Text=true) (hc:(zo (ix (ix (qa t).1 0).Words 1).Text x).1≠0):qgr (qo t) (zo (ix (ix (qa t).1 0).Words 1).Text x).1 (ix y (zo (ix (ix (qa t).1 0).Words 1).Text x).2).At:=by
 have hk:=qwe hn hc
 rw [<-zqm (y:=y) hk.1 (by rw [hl];exact hk.2)]
 exact zbv (zcp h h0 h1 h2 h3) h4 (zpi h5 h0) hc
theorem ztb (h:pv (jm t x y i)) (h0:0<=i) (h1:i+1<=ln (fr (qa t).1 1)) (h2:(ix (ix (fr (qa t).1 1) i).Words 0).Text=[101,110,100]) (h3:(ix (ix (fr (qa t).1 1) i).Words 0).Quoted=false) (h4:ln (ix (fr (qa t).1 1) i).Words<=1) (h5:ln (qa t).1<=i+2)
  (hc:(zo (ix (ix (qa t).1 0).Words 1).Text x).1=0):zlp (qo t) (ix (ix (qa t).1 0).Words 1).Text x:=q5h (zcp h h0 h1 h2 h3) h4 (zpi h5 h0) hc
theorem zjh (h:pv (kv t x y k i)) (h0:0<=k) (h1:k<ln (ix (fr (qa t).1 1) i).Words) (h2:qrc (ix (ix (fr (qa t).1 1) i).Words k)≠0):qgr (qo t) (qrc (ix (ix (fr (qa t).1 1) i).Words k)) (ix (ix (fr (qa t).1 1) i).Words k).At:=by
 obtain ⟨_,_,hl,hb,he⟩:=Hold.out h
 exact zlk he h0 h1 h2
theorem n_q (h:pv (kv t x y k i)) (h0:0<=k) (h1:k<ln (ix (fr (qa t).1 1) i).Words) (h2:(ix (ix (fr (qa t).1 1) i).Words k).Quoted=true):qgr (qo t) 3 (ix (ix (fr (qa t).1 1) i).Words k).At:=by
 have:=zjh h h0 h1 (by rw [zbm h2];decide)
 rw [zbm h2] at this;exact this
theorem n_e (h:pv (kv t x y k i)) (h0:0<=k) (h1:k<ln (ix (fr (qa t).1 1) i).Words) (h2:(ix (ix (fr (qa t).1 1) i).Words k).Quoted=false) (h3:(zc (ix (ix (fr (qa t).1 1) i).Words k).Text).2≠0):qgr (qo t) (zc (ix (ix (fr (qa t).1 1) i).Words k).Text).2 (ix (ix (fr (qa t).1 1) i).Words k).At:=by
 have:=zjh h h0 h1 (by rw [qz1 h2];exact h3)
 rw [qz1 h2] at this;exact this
theorem zq0 (h:pv (kv t x y k i)) (h0:0<=k) (h1:k<ln (ix (fr (qa t).1 1) i).Words) (h2:(ix (ix (fr (qa t).1 1) i).Words k).Quoted=false) (h3:(zc (ix (ix (fr (qa t).1 1) i).Words k).Text).2=0) :
  kv t (x++[(zc (ix (ix (fr (qa t).1 1) i).Words k).Text).1]) (y++[ix (ix (fr (qa t).1 1) i).Words k]) (k+1) i:=by
 obtain ⟨_,_,hl,hb,he⟩:=Hold.out h
 have:=zc8 he h0 h1 (by show qrc (ix (ix (fr (qa t).1 1) i).Words k)=0;rw [qz1 h2];exact h3)
 exact ⟨⟨by omega,by show k+1<=ln (ix (fr (qa t).1 1) i).Words;omega,by rw [qic,qic,hl],by rw [qic];omega,by rw [zha];exact this⟩⟩
theorem zqx (h:pv (kv t x y k i)) (h0:0<=i) (h1:i+1<=ln (fr (qa t).1 1)) (h2:ln (ix (fr (qa t).1 1) i).Words<=k) (h3:ln (ix (fr (qa t).1 1) i).Words<=1000):jm t x y (i+1):=by
 obtain ⟨_,hk,hl,hb,he⟩:=Hold.out h
 have hk':k<=ln (ix (fr (qa t).1 1) i).Words:=hk
 exact ⟨⟨by omega,h1,hl,by omega,zc9 he h2⟩⟩
theorem zq1 (h:pv (jm t x y i)) (h1:ln (fr (qa t).1 1)<=i):qgr (qo t) 9 (ln t):=by
 obtain ⟨_,_,hl,hb,he⟩:=Hold.out h
 exact q7a he h1
theorem zq2 (h0:0<=i) (h:i+1<=ln (fr (qa t).1 1)) (k0:0<=k) (k1:k<ln (ix (fr (qa t).1 1) i).Words):ln (ix (ix (fr (qa t).1 1) i).Words k).Text<=1000:=by
 have hl:ln (fr (qa t).1 1)=(ln (qa t).1-1).toNat:=by simp only [ln,fr,List.length_drop];omega
 rw [zi0 (by decide) h0] at k1 ⊢
 exact qqz (by omega) (by omega) k0 k1
theorem zud (h1:i+1<=ln (fr (qa t).1 1)) {x':List Sign} {y':List Word}:qbw t x' y' (i+1)<qbw t x y i:=by simp only [qbw,rst];omega
theorem zue (h1:k<ln (ix (fr (qa t).1 1) i).Words) {x':List Sign} {y':List Word}:qbx t x' y' (k+1) i<qbx t x y k i:=by simp only [qbx,rst];omega
end
set_option maxHeartbeats 4000000 in
theorem zdl (a0:ZB) (hp:ln a0<=1000000000):qrj a0:=by
 unfold qrj qrk qrl
 dsimp only
 simp only [q43]
 simp only [q44]
 simp only [qq3,q7r,zk0,eq_self,true_and,v0,v1,v4,v5]
 simp only [v6]
 have hb:=qxy a0
 have hr:=hb.1
 have hf:ln (fr (qa a0).1 1)<=20001:=by simp only [ln,fr,List.length_drop] at *;omega
 clear hb
 unhygienic (repeat' (first | exact trivial | (with_reducible apply And.intro) | intro))
 all_goals first
  | (with_reducible exact q6w ‹_›)
  | (with_reducible exact q6v ‹_› ‹_›)
  | (with_reducible exact qsl ‹_› ‹_› (.inl ‹_›))
  | (with_reducible exact qsl ‹_› ‹_› (.inr (.inl ‹_›)))
  | (with_reducible exact qsl ‹_› ‹_› (.inr (.inr ‹_›)))
  | (with_reducible exact q26 ‹_› ‹_› ‹_› ‹_› ‹_› (.inl ‹_›))
  | (with_reducible exact q26 ‹_› ‹_› ‹_› ‹_› ‹_› (.inr ‹_›))
  | (with_reducible exact znp ‹_› ‹_› ‹_› ‹_› ‹_› ‹_› ‹_›)
  | (with_reducible exact zpj ‹_› ‹_› ‹_› (.inl ‹_›))
  | (with_reducible exact zpj ‹_› ‹_› ‹_› (.inr ‹_›))
  | (with_reducible exact q5j (zcp ‹_› ‹_› ‹_› ‹_› ‹_›) ‹_›)
  | (with_reducible exact zqz (zcp ‹_› ‹_› ‹_› ‹_› ‹_›) ‹_› ‹_› ‹_›)
  | (with_reducible exact n_q ‹_› ‹_› ‹_› ‹_›)
  | (with_reducible exact n_e ‹_› ‹_› ‹_› ‹_› ‹_›)
  | (with_reducible exact zq0 ‹_› ‹_› ‹_› ‹_› ‹_›)
  | (with_reducible exact zqx ‹_› ‹_› ‹_› ‹_› (by omega))
  | (with_reducible exact zq1 ‹_› ‹_›)
  | (with_reducible exact zq2 ‹_› ‹_› ‹_› ‹_›)
  | (with_reducible exact zud ‹_›)
  | (with_reducible exact zue ‹_›)
  | (with_reducible exact (qwe ‹_› ‹_›).1)
  | (with_reducible exact zqy ‹_› ‹_› ‹_› ‹_› ‹_› ‹_› ‹_› ‹_› ‹_› ‹_›)
  | (with_reducible exact ztb ‹_› ‹_› ‹_› ‹_› ‹_› ‹_› ‹_› ‹_›)
  | omega
  | (have:=qqz (t:=a0) (i:=0) (k:=1) (by decide) (by omega) (by decide) (by omega);omega)
  | exact qjm (by omega)
  | (have:=(qwe ‹_› ‹_›).2;omega)
  | fail "rest"
section
variable {t:ZB} {x:List Sign} {z:List Int} {i k:Int}
theorem zog (h:(qa t).2.1=0) (h1:pv (ln (qa t).1≠0)) (h3:(ix (ix (qa t).1 0).Words 0).Text=[112,97,114,116]) (h4:(ix (ix (qa t).1 0).Words 0).Quoted=false) (h5:ln (ix (qa t).1 0).Words=2)
  (h6:(ix (ix (qa t).1 0).Words 1).Quoted=false) (h7:jg (ix (ix (qa t).1 0).Words 1).Text=true) (h8:1<=ln (qa t).1):jn t [] [] 1:=
 ⟨⟨Int.le_refl _,h8,rfl,by decide,zkc h h1 h3 h4 h5 h6 h7⟩⟩
theorem zpk (h:pv (jn t x z i)) (h1:i+1<=ln (qa t).1) (h2:(ix (ix (qa t).1 i).Words 0).Text≠[101,110,100]∨(ix (ix (qa t).1 i).Words 0).Quoted=true):kx t x z 0 i:=by
 obtain ⟨h0,_,hl,hb,he⟩:=Hold.out h
 exact ⟨⟨Int.le_refl _,zb _,hl,by omega,zcz he (by omega) (by omega) h2⟩⟩
theorem zcv (h:pv (jn t x z i)) (h1:i+1<=ln (qa t).1) (h2:(ix (ix (qa t).1 i).Words 0).Text=[101,110,100]) (h3:(ix (ix (qa t).1 i).Words 0).Quoted=false) :
  qow (nmB t) (ix (qa t).1 i) (fr (qa t).1 (i+1)) x z=qo t:=by
 obtain ⟨h0,_,hl,hb,he⟩:=Hold.out h
 exact zcx he (by omega) (by omega) h2 h3
theorem zre (h:qow (nmB t) (ix (qa t).1 i) (fr (qa t).1 (i+1)) x z=qo t) (h0:1<=i) (h1:ln (ix (qa t).1 i).Words<=1) (h2:i+1+1<=ln (qa t).1):qgr (qo t) 3 (ix (ix (qa t).1 (i+1)).Words 0).At:=
 q5k h (by omega) h1 (by omega)
theorem zrd (h:pv (jn t x z i)) (h1:i+1<=ln (qa t).1) (h2:(ix (ix (qa t).1 i).Words 0).Text=[101,110,100]) (h3:(ix (ix (qa t).1 i).Words 0).Quoted=false) (h4:ln (ix (qa t).1 i).Words<=1) (h5:ln (qa t).1<=i+1)
  (hc:(zo (ix (ix (qa t).1 0).Words 1).Text x).1≠0):qgr (qo t) (zo (ix (ix (qa t).1 0).Words 1).Text x).1 (ix z (zo (ix (ix (qa t).1 0).Words 1).Text x).2):=zbv (zcv h h1 h2 h3) h4 h5 hc
theorem zti (h:pv (jn t x z i)) (h1:i+1<=ln (qa t).1) (h2:(ix (ix (qa t).1 i).Words 0).Text=[101,110,100]) (h3:(ix (ix (qa t).1 i).Words 0).Quoted=false) (h4:ln (ix (qa t).1 i).Words<=1) (h5:ln (qa t).1<=i+1)
  (hc:(zo (ix (ix (qa t).1 0).Words 1).Text x).1=0):zlp (qo t) (ix (ix (qa t).1 0).Words 1).Text x:=q5h (zcv h h1 h2 h3) h4 h5 hc
theorem zkk (h:pv (kx t x z k i)) (h0:0<=k) (h1:k<ln (ix (qa t).1 i).Words) (h2:qrc (ix (ix (qa t).1 i).Words k)≠0):qgr (qo t) (qrc (ix (ix (qa t).1 i).Words k)) (ix (ix (qa t).1 i).Words k).At:=by
 obtain ⟨_,_,hl,hb,he⟩:=Hold.out h
 exact zlk he h0 h1 h2
theorem r_q (h:pv (kx t x z k i)) (h0:0<=k) (h1:k<ln (ix (qa t).1 i).Words) (h2:(ix (ix (qa t).1 i).Words k).Quoted=true):qgr (qo t) 3 (ix (ix (qa t).1 i).Words k).At:=by
 have:=zkk h h0 h1 (by rw [zbm h2];decide)
 rw [zbm h2] at this;exact this
theorem r_e (h:pv (kx t x z k i)) (h0:0<=k) (h1:k<ln (ix (qa t).1 i).Words) (h2:(ix (ix (qa t).1 i).Words k).Quoted=false) (h3:(zc (ix (ix (qa t).1 i).Words k).Text).2≠0):qgr (qo t) (zc (ix (ix (qa t).1 i).Words k).Text).2 (ix (ix (qa t).1 i).Words k).At:=by
 have:=zkk h h0 h1 (by rw [qz1 h2];exact h3)
 rw [qz1 h2] at this;exact this
theorem zrf (h:pv (kx t x z k i)) (h0:0<=k) (h1:k<ln (ix (qa t).1 i).Words) (h2:(ix (ix (qa t).1 i).Words k).Quoted=false) (h3:(zc (ix (ix (qa t).1 i).Words k).Text).2=0) :
  kx t (x++[(zc (ix (ix (qa t).1 i).Words k).Text).1]) (z++[(ix (ix (qa t).1 i).Words k).At]) (k+1) i:=by
 obtain ⟨_,_,hl,hb,he⟩:=Hold.out h
 have:=zc8 he h0 h1 (by rw [qz1 h2];exact h3)
 exact ⟨⟨by omega,by omega,by rw [qic,qic,hl],by rw [qic];omega,this⟩⟩
theorem zrc (h:pv (kx t x z k i)) (h0:1<=i) (h1:i+1<=ln (qa t).1) (h2:ln (ix (qa t).1 i).Words<=k) (h3:ln (ix (qa t).1 i).Words<=1000):jn t x z (i+1):=by
 obtain ⟨_,hk,hl,hb,he⟩:=Hold.out h
 exact ⟨⟨by omega,h1,hl,by omega,zc9 he h2⟩⟩
theorem zrg (h:pv (jn t x z i)) (h1:ln (qa t).1<=i):qgr (qo t) 9 (ln t):=by
 obtain ⟨_,_,hl,hb,he⟩:=Hold.out h
 exact q7a he h1
theorem zrh (h0:1<=i) (h:i+1<=ln (qa t).1) (k0:0<=k) (k1:k<ln (ix (qa t).1 i).Words):ln (ix (ix (qa t).1 i).Words k).Text<=1000:=qqz (by omega) (by omega) k0 k1
theorem zuh (h1:i+1<=ln (qa t).1) {x':List Sign} {z':List Int}:qby t x' z' (i+1)<qby t x z i:=by simp only [qby];omega
theorem zui (h1:k<ln (ix (qa t).1 i).Words) {x':List Sign} {z':List Int}:qbz t x' z' (k+1) i<qbz t x z k i:=by simp only [qbz];omega
end
set_option maxHeartbeats 4000000 in
theorem zdo (a0:ZB) (hp:ln a0<=1000000000):qrm a0:=by
 unfold qrm qkr
 dsimp only
 simp only [q43]
 simp only [q44]
 simp only [qq3,q7r,eq_self,true_and,v2,v3,v5]
 simp only [v6]
 have hb:=qxy a0
 have hr:=hb.1
 clear hb
 unhygienic (repeat' (first | exact trivial | (with_reducible apply And.intro) | intro))
 all_goals first
  | (with_reducible exact q6w ‹_›)
  | (with_reducible exact q6v ‹_› ‹_›)
  | (with_reducible exact qsl ‹_› ‹_› (.inl ‹_›))
  | (with_reducible exact qsl ‹_› ‹_› (.inr (.inl ‹_›)))
  | (with_reducible exact qsl ‹_› ‹_› (.inr (.inr ‹_›)))
  | (with_reducible exact q26 ‹_› ‹_› ‹_› ‹_› ‹_› (.inl ‹_›))
  | (with_reducible exact q26 ‹_› ‹_› ‹_› ‹_› ‹_› (.inr ‹_›))
  | (with_reducible exact zog ‹_› ‹_› ‹_› ‹_› ‹_› ‹_› ‹_› ‹_›)
  | (with_reducible exact zpk ‹_› ‹_› (.inl ‹_›))
  | (with_reducible exact zpk ‹_› ‹_› (.inr ‹_›))
  | (with_reducible exact q5j (zcv ‹_› ‹_› ‹_› ‹_›) ‹_›)
  | (with_reducible exact zre (zcv ‹_› ‹_› ‹_› ‹_›) ‹_› ‹_› ‹_›)
  | (with_reducible exact r_q ‹_› ‹_› ‹_› ‹_›)
  | (with_reducible exact r_e ‹_› ‹_› ‹_› ‹_› ‹_›)
  | (with_reducible exact zrf ‹_› ‹_› ‹_› ‹_› ‹_›)
  | (with_reducible exact zrc ‹_› ‹_› ‹_› ‹_› (by omega))
  | (with_reducible exact zrg ‹_› ‹_›)
  | (with_reducible exact zrh ‹_› ‹_› ‹_› ‹_›)
  | (with_reducible exact zuh ‹_›)
  | (with_reducible exact zui ‹_›)
  | (with_reducible exact (qwe ‹_› ‹_›).1)
  | (with_reducible exact zrd ‹_› ‹_› ‹_› ‹_› ‹_› ‹_› ‹_›)
  | (with_reducible exact zti ‹_› ‹_› ‹_› ‹_› ‹_› ‹_› ‹_›)
  | omega
  | (have:=qqz (t:=a0) (i:=0) (k:=1) (by decide) (by omega) (by decide) (by omega);omega)
  | exact qjm (by omega)
  | (have:=(qwe ‹_› ‹_›).2;omega)
  | fail "rest"
theorem zcy:∀ (rs:List Row) (nm:ZB) (len:Int) (x:List Sign) (z:List Int),ln (rws nm len rs x z).1.2<=400
 | [],nm,len,x,z=>by show ln ([]:List Sign)<=400;decide
 | r::rs,nm,len,x,z=>by
  rw [rws]
  split
  .unfold qow
   split
   .show ln ([]:List Sign)<=400;decide
   .split
    .show ln ([]:List Sign)<=400;decide
    .split
     .show ln ([]:List Sign)<=400;decide
     .rename_i h;exact zl2 (nm:=nm) (l:=x) (by omega)
  .split
   .show ln ([]:List Sign)<=400;decide
   .exact zcy rs nm len _ _
theorem zoa (t:ZB):ln (qo t).1.2<=400:=by
 unfold qo
 split
 .show ln ([]:List Sign)<=400;decide
 .split
  .show ln ([]:List Sign)<=400;decide
  .split
   .show ln ([]:List Sign)<=400;decide
   .exact zcy _ _ _ _ _
theorem q2n (a0:ZB) (_:ln a0<=9223372036854775807):qle a0:=by
 unfold qle
 dsimp only
 have hl:=zoa a0
 have sp:∀ n l,jj n l n l=true:=fun n l=>decide_eq_true ⟨rfl,rfl⟩
 simp only [sp,ne_eq,not_true,false_implies,true_implies,and_self,and_true,true_and,or_self,implies_true,imp_self,eq_self,reduceCtorEq]
 unhygienic (repeat' (first | exact trivial | (with_reducible apply And.intro) | intro))
 all_goals omega
end Go.Proofs.YtbopmiclcimjgaaGreatDoor
