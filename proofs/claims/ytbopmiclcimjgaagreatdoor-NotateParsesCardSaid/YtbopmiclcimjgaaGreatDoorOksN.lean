import Derived.Test.YtbopmiclcimjgaaGreatDoorOksA
import Derived.Test.YtbopmiclcimjgaaGreatDoorVcsN
namespace Go.Proofs.YtbopmiclcimjgaaGreatDoor
open Go Go.E2 Go.E3
set_option maxRecDepth 100000
theorem zqe {w:ZB} {s:Sign} {e:Int} (h:zj w=(s,e)):zl w s.Kind s.Value s.Place s.Acc s.Color s.Stem s.Oblique s.Last s.MensMax s.MensMod s.MensTem s.MensPro s.Stroke s.N s.D s.ClefStep s.ClefLine e:=by
 unfold zl
 rw [h]
 simp
theorem zkp {w:ZB} {k:Int} (h1:1<=k) (h2:k<=12) (hn:∀ j,1<=j->j<k->rdK w j=none):∀ (m:Nat) (i:Int),1<=i->i<=k->(k-i).toNat=m->qlw w i=qlw w k:=by
 intro m
 induction m with
 | zero=>intro i hi hk hm;rw [show i=k by omega]
 | succ m ih=>
  intro i hi hk hm
  have:qlw w i=qlw w (i+1):=by
   conv=>lhs;rw [qlw]
   rw [dif_pos ⟨hi,by omega⟩,hn i hi (by omega)]
  rw [this]
  exact ih (i+1) (by omega) (by omega) (by omega)
theorem zc2 {w:ZB} {k:Int} {s:Sign} (h:qd w (k-1)) (h1:1<=k) (h2:k<=12) (hk:rdK w k=some s):zj w=fin (some s):=by
 rw [zj,zkp h1 h2 (fun j a b=>h.out j a (by omega)) _ 1 (by omega) h1 rfl,qlw,dif_pos ⟨h1,h2⟩,hk]
theorem qus {w:ZB} (k:Int) {s:Sign} (h:qd w (k-1)) (h1:1<=k) (h2:k<=12) (hk:rdK w k=some s) (h3:zn s≠0):zl w 0 0 0 0 false 0 false false 0 0 0 0 false 0 0 0 0 (zn s):=
 zqe (s:=sg0) (by rw [zc2 h h1 h2 hk,fin,if_neg h3])
theorem qut {w:ZB} (k:Int) {a b c d:Int} {e:Bool} {f:Int} {g o:Bool} {m1 m2 m3 m4:Int} {t:Bool} {n1 n2 n3 n4:Int} (h:qd w (k-1)) (h1:1<=k) (h2:k<=12) (hk:rdK w k=some (Sign.mk a b c d e f g o m1 m2 m3 m4 t n1 n2 n3 n4)) (h3:zn (Sign.mk a b c d e f g o m1 m2 m3 m4 t n1 n2 n3 n4)=0) :
  zl w a b c d e f g o m1 m2 m3 m4 t n1 n2 n3 n4 0:=
 zqe (s:=Sign.mk a b c d e f g o m1 m2 m3 m4 t n1 n2 n3 n4) (by rw [zc2 h h1 h2 hk,fin,if_pos h3])
theorem qdz {w:ZB} (k:Int) (h:qd w (k-1)) (hk:rdK w k=none):qd w k:=⟨fun j a b=>by
 by_cases hj:j=k
 .rw [hj];exact hk
 .exact h.out j a (by omega)⟩
theorem ztz {w:ZB} (h:qd w 12):zl w 0 0 0 0 false 0 false false 0 0 0 0 false 0 0 0 0 3:=zqe (s:=sg0) (by
 rw [zj,zkp (w:=w) (k:=12) (by decide) (by decide) (fun j a b=>h.out j a (by omega)) _ 1 (by decide) (by decide) rfl,qlw,dif_pos (by decide),h.out 12 (by decide) (by decide)]
 show fin (qlw w 13)=_
 rw [qlw,dif_neg (by decide)];rfl)
theorem zts (w:ZB) (i:Int) (c:UInt8):preB (fr w i) [c]=tk w i c:=rfl
def pv (p:Prop):Prop:=p
theorem pv.out {p:Prop} (h:pv p):p:=h
theorem qkb {w:ZB} {i:Int} {c:UInt8} (h:tk w i c=true) (h0:0<=i):i<ln w:=by
 simp only [tk,preB,zA,decide_eq_true_eq] at h
 have:=h.1
 simp only [ln,fr,List.length_drop,List.length_cons,List.length_nil] at this ⊢
 omega
section
variable {w m:ZB} {i i0 x k a p v:Int} {b b0 ok c o:Bool} {Q:Prop} {ch:UInt8}
theorem q3o:(tk w i ch=true->Q)↔(pv (tk w i ch=true)->(0<=i->i<ln w)->Q):=⟨fun h t _=>h t,fun h t=>h t (qkb t)⟩
theorem w0:(ju w m i i0->Q)↔(pv (ju w m i i0)->i0<=i->i<=ln w->ln m<=1->Q):=⟨fun h t _ _ _=>h t,fun h t=>h t t.out.2.2.1.1 t.out.2.2.1.2 t.out.2.2.2⟩
theorem w1:(ze w i i0->Q)↔(pv (ze w i i0)->i0<=i->i<=ln w->Q):=⟨fun h t _ _=>h t,fun h t=>h t t.out.1.1 t.out.1.2⟩
theorem w2:(ql w i i0->Q)↔(pv (ql w i i0)->i0<=i->i<=ln w->Q):=⟨fun h t _ _=>h t,fun h t=>h t t.out.1.1 t.out.1.2⟩
theorem w3:(ji w b b0 ok->Q)↔(pv (b=(b0 || !ok))->Q):=⟨fun h t=>h ⟨t⟩,fun h t=>h t.out⟩
theorem w4:(qcg w b b0 ok->Q)↔(pv (b=(b0 || !ok))->Q):=⟨fun h t=>h ⟨t⟩,fun h t=>h t.out⟩
theorem w5:(kj w k i->Q)↔(pv (kj w k i)->0<=k->k<=8->Q):=⟨fun h t _ _=>h t,fun h t=>h t t.out.1 t.out.2.1⟩
theorem w6:(qbu w i b v->Q)↔(pv (qbu w i b v)->0<=i->i<=ln w->Q):=⟨fun h t _ _=>h t,fun h t=>h t t.out.1.1 t.out.1.2⟩
theorem w7:(zx w i a i0->Q)↔(pv (zx w i a i0)->i0<=i->i<=ln w->Q):=⟨fun h t _ _=>h t,fun h t=>h t t.out.1.1 t.out.1.2⟩
theorem w8:(qch w i b p a c i0 b0->Q)↔(pv (qch w i b p a c i0 b0)->i0<=i->i<=ln w->Q):=⟨fun h t _ _=>h t,fun h t=>h t t.out.1.1 t.out.1.2⟩
theorem w9:(jz w i k i0->Q)↔(pv (jz w i k i0)->i0<=i->i<=ln w->Q):=⟨fun h t _ _=>h t,fun h t=>h t t.out.1.1 t.out.1.2⟩
theorem w10:(qa3 w i o i0->Q)↔(pv (qa3 w i o i0)->i0<=i->i<=ln w->Q):=⟨fun h t _ _=>h t,fun h t=>h t t.out.1.1 t.out.1.2⟩
theorem w11:(qa4 w i b i0 b0->Q)↔(pv (qa4 w i b i0 b0)->i0<=i->i<=ln w->Q):=⟨fun h t _ _=>h t,fun h t=>h t t.out.1.1 t.out.1.2⟩
theorem w12:(jo w i b k i0->Q)↔(pv (jo w i b k i0)->i0<=i->i<=ln w->Q):=⟨fun h t _ _=>h t,fun h t=>h t t.out.1.1 t.out.1.2⟩
end
section
variable {w m:ZB} {i i0 x j e k a p v y z:Int} {b b0 ok c o l:Bool} {ch:UInt8}
theorem zsx (h:pv (tk w i 45=true)) (h0:0<=i):ju w [45] (i+1) i:=by
 have:=qkb h h0
 exact ⟨⟨by rw [qg7,if_pos (pv.out h)],by rw [qg7,if_pos (pv.out h)],⟨by omega,by omega⟩,Int.le_refl _⟩⟩
theorem zsw (h:tk w i 45=false) (hi:i<=ln w):ju w [] i i:=by
 have h':¬ tk w i 45=true:=by rw [h];simp
 exact ⟨⟨by rw [qg7,if_neg h'],by rw [qg7,if_neg h'],⟨Int.le_refl _,hi⟩,by decide⟩⟩
theorem qkv (hi:i<=ln w):ze w i i:=⟨⟨Int.le_refl _,hi⟩,rfl⟩
theorem qnn (h:pv (ze w x i)) (h0:0<=i) (h1:x<ln w) (h2:48<=bx w x) (h3:bx w x<=57):ze w (x+1) i:=by
 obtain ⟨⟨r1,r2⟩,r3⟩:=Hold.out h
 exact ⟨⟨by omega,by omega⟩,r3.trans (qb6 (by omega) h1 (by simp [qeo,h2,h3]))⟩
theorem zjg (h:pv (ze w x i)) (hs:ln w<=x∨qeo (bx w x)=false):ql w x i:=by
 obtain ⟨r,r3⟩:=Hold.out h
 exact ⟨r,by rw [r3];exact (qbl hs).symm⟩
theorem qsh (h:pv (ze w x i)) (hs:ln w<=x):ql w x i:=zjg h (.inl hs)
theorem q0m (h:pv (ze w x i)) (hs:bx w x<48):ql w x i:=zjg h (.inr (by simp only [qeo,Bool.and_eq_false_iff,decide_eq_false_iff_not];omega))
theorem q0l (h:pv (ze w x i)) (hs:57<bx w x):ql w x i:=zjg h (.inr (by simp only [qeo,Bool.and_eq_false_iff,decide_eq_false_iff_not];omega))
theorem znn (h:b0=true):ji w true b0 ok:=⟨by simp [h]⟩
theorem q55 (h:b0=false):ji w (!ok) b0 ok:=⟨by simp [h]⟩
theorem zs6 (h:b0=true):qcg w true b0 ok:=⟨by simp [h]⟩
theorem zno (h:b0=false):qcg w (!ok) b0 ok:=⟨by simp [h]⟩
theorem q56:kj w 0 i:=⟨⟨Int.le_refl _,by decide,rfl⟩⟩
theorem zco (h:pv (kj w k i)) (h1:k<8) (h2:preB (fr w i) (sub ([88,76,66,83,77,81,70,90]:ZB) k (k+1))=false):kj w (k+1) i:=by
 obtain ⟨r1,r2,r3⟩:=Hold.out h
 refine ⟨⟨by omega,by omega,?_⟩⟩
 rw [<-r3]
 conv=>rhs;rw [qun]
 rw [dif_pos ⟨r1,h1⟩,if_neg (by rw [zqs,h2];simp)]
theorem q3m (h:pv (kj w k i)) (h1:k<8) (h2:preB (fr w i) (sub ([88,76,66,83,77,81,70,90]:ZB) k (k+1))=true):qs2 w i=some (k+1):=by
 obtain ⟨r1,r2,r3⟩:=Hold.out h
 rw [<-r3,qun,dif_pos ⟨r1,h1⟩,if_pos (show preB (fr w i) (sub zqs k (k+1))=true from h2)]
theorem zle (h:pv (kj w k i)) (h1:8<=k):qs2 w i=none:=by
 obtain ⟨r1,r2,r3⟩:=Hold.out h
 rw [<-r3,qun,dif_neg (by omega)]
theorem zqq (a b:ZB):ln (a++b)=ln a+ln b:=by simp only [ln,List.length_append];omega
theorem zcm (h:k<8) (h0:0<=k):qci w (k+1) i<qci w k i:=by simp only [qci];omega
theorem qnl (h:i<ln w):z6 w (i+1) i0<z6 w i i0:=by simp only [z6];omega
theorem q12 {v:ZB} {r t:Int} (hn:ln w<=1000) (h0:0<=r) (h1:r<=t) (h2:t<=ln w) (h3:ln v<=1):ln (v++sub w r t)<=1001:=by
 rw [zqq,qkj h0 h1 h2];omega
theorem qzr {v:ZB} {r t:Int} (hn:ln w<=1000) (h0:0<=r) (h1:r<=t) (h2:t<=ln w) (h3:ln v<=1):v.length+(sub w r t).length<=1000000000:=by
 have:=q12 hn h0 h1 h2 h3
 simp only [ln,List.length_append] at this
 omega
theorem qip {r t:Int} (hn:ln w<=1000) (h0:0<=r) (h1:r<=t) (h2:t<=ln w):ln (sub w r t)<=1000000:=by
 rw [qkj h0 h1 h2];omega
theorem sub_one {k:Int} (h0:0<=k) (h:k<8):ln (sub ([88,76,66,83,77,81,70,90]:ZB) k (k+1))=1:=by
 have hl:ln ([88,76,66,83,77,81,70,90]:ZB)=8:=rfl
 rw [qkj h0 (by omega) (by omega)];omega
theorem qyb {k:Int} (h0:0<=k) (h:k<8):-9223372036854775808<=ln (sub ([88,76,66,83,77,81,70,90]:ZB) k (k+1)):=by rw [sub_one h0 h];decide
theorem qya {k:Int} (h0:0<=k) (h:k<8):ln (sub ([88,76,66,83,77,81,70,90]:ZB) k (k+1))<=9223372036854775807:=by rw [sub_one h0 h];decide
theorem q7l {k:Int} (h0:0<=k) (h:k<8):-9223372036854775808<=1+ln (sub ([88,76,66,83,77,81,70,90]:ZB) k (k+1)):=by rw [sub_one h0 h];decide
theorem q7k {k:Int} (h0:0<=k) (h:k<8):1+ln (sub ([88,76,66,83,77,81,70,90]:ZB) k (k+1))<=9223372036854775807:=by rw [sub_one h0 h];decide
theorem pre_nil {s:ZB} (h:preB s []=false):False:=by
 simp [preB,ln,upto] at h
theorem zoc {s p:ZB} (h:preB s p=true):ln p<=ln s:=by
 simp only [preB,zA,decide_eq_true_eq] at h;exact h.1
theorem zt8 (h:pv (kj w k 0)) (h0:0<=k) (h1:k<8) (h2:preB (fr w 0) (sub ([88,76,66,83,77,81,70,90]:ZB) k (k+1))=true):qbu w (ln (sub ([88,76,66,83,77,81,70,90]:ZB) k (k+1))) false (k+1):=by
 have hl:=zoc h2
 rw [sub_one h0 h1] at hl ⊢
 exact ⟨⟨⟨by decide,hl⟩,.inl ⟨rfl,rfl,q3m h h1 h2⟩⟩⟩
theorem zt7 (h:pv (kj w k 0)) (h1:8<=k):qbu w 0 true 0:=⟨⟨⟨by decide,zb w⟩,.inr ⟨rfl,zle h h1⟩⟩⟩
theorem zs7 (h:pv (tk w i 98=true)) (h0:0<=i):zx w (i+1) (-1) i:=by
 have:=qkb h h0
 exact ⟨⟨⟨by omega,by omega⟩,by rw [qke,if_pos (pv.out h)],by rw [qke,if_pos (pv.out h)]⟩⟩
theorem qdd (h:b=false):¬ b=true:=by rw [h];simp
theorem zs8 (h:tk w i 98=false) (h1:pv (tk w i 35=true)) (h0:0<=i):zx w (i+1) 1 i:=by
 have:=qkb h1 h0
 exact ⟨⟨⟨by omega,by omega⟩,by rw [qke,if_neg (qdd h),if_pos (pv.out h1)],by rw [qke,if_neg (qdd h),if_pos (pv.out h1)]⟩⟩
theorem zs9 (h:tk w i 98=false) (h1:tk w i 35=false) (h2:pv (tk w i 110=true)) (h0:0<=i):zx w (i+1) 2 i:=by
 have:=qkb h2 h0
 exact ⟨⟨⟨by omega,by omega⟩,by rw [qke,if_neg (qdd h),if_neg (qdd h1),if_pos (pv.out h2)],by rw [qke,if_neg (qdd h),if_neg (qdd h1),if_pos (pv.out h2)]⟩⟩
theorem zta (h:tk w i 98=false) (h1:tk w i 35=false) (h2:tk w i 110=false) (hi:i<=ln w):zx w i 0 i:=
 ⟨⟨⟨Int.le_refl _,hi⟩,by rw [qke,if_neg (qdd h),if_neg (qdd h1),if_neg (qdd h2)],by rw [qke,if_neg (qdd h),if_neg (qdd h1),if_neg (qdd h2)]⟩⟩
theorem qlv (h:pv (tk w i ch=true)):qdm w i ch=(true,i+1):=by rw [qdm,if_pos (pv.out h)]
theorem qlu (h:tk w i ch=false):qdm w i ch=(false,i):=by rw [qdm,if_neg (qdd h)]
theorem q91 (h0:pv (ju w m j i)) (h2:pv (ql w e j)) (h7:pv (zx w x a e)) (hc:qdm w x 42=(c,y)):qfi w i=((k8 (m++sub w j e)).1,a,c,(k8 (m++sub w j e)).2,y):=by
 obtain ⟨e1,e2,_⟩:=Hold.out h0
 obtain ⟨_,e3⟩:=Hold.out h2
 obtain ⟨_,e4,e5⟩:=Hold.out h7
 subst e1;subst e2;subst e3;subst e4;subst e5
 simp only [qfi,qlx,hc]
theorem zph (h0:pv (ju w m j i)) (h2:pv (ql w e j)) (h4:pv (b=(b0 || !(k8 (m++sub w j e)).2))) (h7:pv (zx w x a e)) (hc:qdm w x 42=(c,y)) (r1:i<=y) (r2:y<=ln w) :
  qch w y b (k8 (m++sub w j e)).1 a c i b0:=by
 have:=q91 h0 h2 h7 hc
 exact ⟨⟨⟨r1,r2⟩,by rw [this],by rw [this],by rw [this],by rw [this];exact h4,by rw [this]⟩⟩
theorem zt9 (h:pv (tk w i 94=true)) (h0:0<=i):jz w (i+1) 1 i:=by
 have:=qkb h h0
 exact ⟨⟨⟨by omega,by omega⟩,by rw [qko,if_pos (pv.out h)],by rw [qko,if_pos (pv.out h)]⟩⟩
theorem zua (h:tk w i 94=false) (h1:pv (tk w i 118=true)) (h0:0<=i):jz w (i+1) 2 i:=by
 have:=qkb h1 h0
 exact ⟨⟨⟨by omega,by omega⟩,by rw [qko,if_neg (qdd h),if_pos (pv.out h1)],by rw [qko,if_neg (qdd h),if_pos (pv.out h1)]⟩⟩
theorem zub (h:tk w i 94=false) (h1:tk w i 118=false) (h2:pv (tk w i 62=true)) (h0:0<=i):jz w (i+1) 3 i:=by
 have:=qkb h2 h0
 exact ⟨⟨⟨by omega,by omega⟩,by rw [qko,if_neg (qdd h),if_neg (qdd h1),if_pos (pv.out h2)],by rw [qko,if_neg (qdd h),if_neg (qdd h1),if_pos (pv.out h2)]⟩⟩
theorem zuc (h:tk w i 94=false) (h1:tk w i 118=false) (h2:tk w i 62=false) (hi:i<=ln w):jz w i 0 i:=
 ⟨⟨⟨Int.le_refl _,hi⟩,by rw [qko,if_neg (qdd h),if_neg (qdd h1),if_neg (qdd h2)],by rw [qko,if_neg (qdd h),if_neg (qdd h1),if_neg (qdd h2)]⟩⟩
theorem zsz (h:pv (tk w i 126=true)) (h0:0<=i):qa3 w (i+1) true i:=by
 have:=qkb h h0
 exact ⟨⟨⟨by omega,by omega⟩,by rw [qlv h],by rw [qlv h]⟩⟩
theorem zsy (h:tk w i 126=false) (hi:i<=ln w):qa3 w i false i:=⟨⟨⟨Int.le_refl _,hi⟩,by rw [qlu h],by rw [qlu h]⟩⟩
theorem zs1 (h:pv (tk w i 47=true)) (h0:0<=i):qa4 w (i+1) b i b:=by
 have:=qkb h h0
 exact ⟨⟨⟨by omega,by omega⟩,.inl ⟨pv.out h,rfl,rfl⟩⟩⟩
theorem zs0 (h:tk w i 47=false) (hi:i<=ln w):qa4 w i true i b:=⟨⟨⟨Int.le_refl _,hi⟩,.inr ⟨h,rfl⟩⟩⟩
theorem zs2 (h:pv (tk w 1 67=true)):jo w (1+1) false 0 1:=by
 have:=qkb h (by decide)
 exact ⟨⟨⟨by decide,by omega⟩,.inl ⟨rfl,rfl,by rw [q7i,if_pos (pv.out h)]⟩⟩⟩
theorem zs3 (h:tk w 1 67=false) (h1:pv (tk w 1 70=true)):jo w (1+1) false 3 1:=by
 have:=qkb h1 (by decide)
 exact ⟨⟨⟨by decide,by omega⟩,.inl ⟨rfl,rfl,by rw [q7i,if_neg (qdd h),if_pos (pv.out h1)]⟩⟩⟩
theorem zs4 (h:tk w 1 67=false) (h1:tk w 1 70=false) (h2:pv (tk w 1 71=true)):jo w (1+1) false 4 1:=by
 have:=qkb h2 (by decide)
 exact ⟨⟨⟨by decide,by omega⟩,.inl ⟨rfl,rfl,by rw [q7i,if_neg (qdd h),if_neg (qdd h1),if_pos (pv.out h2)]⟩⟩⟩
theorem zs5 (h:tk w 1 67=false) (h1:tk w 1 70=false) (h2:tk w 1 71=false) (hi:1<=ln w):jo w 1 true 0 1:=
 ⟨⟨⟨Int.le_refl _,hi⟩,.inr ⟨rfl,by rw [q7i,if_neg (qdd h),if_neg (qdd h1),if_neg (qdd h2)]⟩⟩⟩
theorem zfe {ok b0:Bool} (h:false=(b0 || !ok)):b0=false/\ok=true:=by cases b0<;>cases ok<;>simp_all
theorem zb9 (h6:pv (qbu w i b0 v)) (h0:pv (ju w m j i)) (h2:pv (ql w e j)) (h4:pv (b=(b0 || !(k8 (m++sub w j e)).2))) (h7:pv (zx w x a e)) (hc:qdm w x 42=(c,y)) (hb:b=false) (hy:y=ln w) :
  rdK w 1=some (Sign.mk 1 v (k8 (m++sub w j e)).1 a c 0 false false 0 0 0 0 false 0 0 0 0):=by
 have hp:=q91 h0 h2 h7 hc
 subst hb
 obtain ⟨hb0,hok⟩:=zfe h4
 obtain ⟨_,⟨_,hi,hv⟩ | ⟨h,_⟩⟩:=Hold.out h6
 .subst hi
  rw [rdK,if_pos rfl,rd1,hv]
  simp only [hp]
  rw [if_pos ⟨hok,hy⟩]
 .rw [hb0] at h;cases h
theorem znb (h6:pv (qbu w i b0 v)) (h0:pv (ju w m j i)) (h2:pv (ql w e j)) (h4:pv (b=(b0 || !(k8 (m++sub w j e)).2))) (h7:pv (zx w x a e)) (hc:qdm w x 42=(c,y)) (hb:b=true∨y≠ln w) :
  rdK w 1=none:=by
 have hp:=q91 h0 h2 h7 hc
 obtain ⟨_,⟨h,hi,hv⟩ | ⟨_,hv⟩⟩:=Hold.out h6
 .subst hi
  rw [rdK,if_pos rfl,rd1,hv]
  simp only [hp]
  rw [if_neg]
  rintro ⟨q1,q2⟩
  rcases hb with hb | hb
  .have h4':b=(b0 || !(k8 (m++sub w j e)).2):=h4
   rw [hb,h,q1] at h4'
   cases h4'
  .exact hb q2
 .rw [rdK,if_pos rfl,rd1,hv]
theorem zci:rdK w 2=rd2 w:=rfl
theorem zpa:rdK w 3=rd3 w:=rfl
theorem zi2:rdK w 4=rd4 w:=rfl
theorem zi3:rdK w 5=rd5 w:=rfl
theorem zpb:rdK w 6=rd6 w:=rfl
theorem zi4:rdK w 7=rd7 w:=rfl
theorem q0d:rdK w 8=rdN w 38 8:=rfl
theorem qr7:rdK w 10=rdN w 93 10:=rfl
theorem zca (ht:pv (tk w 0 114=true)) (h:pv (kj w k 1)) (h1:k<8) (h2:preB (fr w 1) (sub ([88,76,66,83,77,81,70,90]:ZB) k (k+1))=true) (hl:1+ln (sub ([88,76,66,83,77,81,70,90]:ZB) k (k+1))=ln w):rdK w 2=some (Sign.mk 2 (k+1) 0 0 false 0 false false 0 0 0 0 false 0 0 0 0):=by
 rw [sub_one h.out.out.1 h1] at hl
 rw [zci,rd2,if_pos (pv.out ht),q3m h h1 h2];exact if_pos hl
theorem znc (h:pv (kj w k 1)) (h1:k<8) (h2:preB (fr w 1) (sub ([88,76,66,83,77,81,70,90]:ZB) k (k+1))=true) (hl:1+ln (sub ([88,76,66,83,77,81,70,90]:ZB) k (k+1))≠ln w):rdK w 2=none:=by
 rw [sub_one h.out.out.1 h1] at hl
 rw [zci,rd2]
 split
 .simp only [q3m h h1 h2]
  exact if_neg hl
 .rfl
theorem zsu (h:pv (kj w k 1)) (h1:8<=k):rdK w 2=none:=by
 rw [zci,rd2]
 split
 .rw [zle h h1]
 .rfl
theorem zqn (h:tk w 0 114=false):rdK w 2=none:=by rw [zci,rd2,if_neg (qdd h)]
theorem zcc (h:pv (tk w 0 46=true)) (hl:(1:Int)=ln w):rdK w 3=some (Sign.mk 3 0 0 0 false 0 false false 0 0 0 0 false 0 0 0 0):=by rw [zpa,rd3,if_pos ⟨pv.out h,hl⟩]
theorem zcb (h:tk w 0 46=false∨(1:Int)≠ln w):rdK w 3=none:=by
 rw [zpa,rd3,if_neg]
 rintro ⟨h1,h2⟩
 rcases h with h | h
 .rw [h] at h1;cases h1
 .exact h h2
theorem zcd (ht:pv (tk w 0 116=true)) (h8:pv (qch w i b p a c 1 false)) (h9:pv (jz w j k i)) (h10:pv (qa3 w e o j)) (hl:qdm w e 33=(l,y)) (hb:b=false) (hy:y=ln w) :
  rdK w 4=some (Sign.mk 4 0 p a c k o l 0 0 0 0 false 0 0 0 0):=by
 obtain ⟨_,e1,e2,e3,e4,e5⟩:=Hold.out h8
 obtain ⟨_,e6,e7⟩:=Hold.out h9
 obtain ⟨_,e8,e9⟩:=Hold.out h10
 subst hb
 have hok:=(zfe e4).2
 subst e1;subst e2;subst e3;subst e5;subst e6;subst e7;subst e8;subst e9
 rw [zi2,rd4]
 simp only [zat,hl]
 rw [if_pos ⟨pv.out ht,hok,hy⟩]
theorem znd (h8:pv (qch w i b p a c 1 false)) (h9:pv (jz w j k i)) (h10:pv (qa3 w e o j)) (hl:qdm w e 33=(l,y)) (hb:b=true∨y≠ln w):rdK w 4=none:=by
 obtain ⟨_,e1,e2,e3,e4,e5⟩:=Hold.out h8
 obtain ⟨_,e6,e7⟩:=Hold.out h9
 obtain ⟨_,e8,e9⟩:=Hold.out h10
 subst e5;subst e7;subst e9
 rw [zi2,rd4]
 simp only [zat,hl]
 rw [if_neg]
 rintro ⟨_,q1,q2⟩
 rcases hb with hb | hb
 .rw [hb,q1] at e4;cases e4
 .exact hb q2
theorem zqo (h:tk w 0 116=false):rdK w 4=none:=by rw [zi2,rd4,if_neg fun hh=>qdd h hh.1]
theorem zce (ht:pv (tk w 0 40=true)) (h2:pv (tk w (1+qex w) 41=true)) (hl:qdm w (1+qex w+1) 124=(l,y)) (h0:(kc (sub w 1 (1+qex w))).2=0) (hy:y=ln w) :
  rdK w 5=some (Sign.mk 5 0 0 0 false 0 false false (kc (sub w 1 (1+qex w))).1.1 (kc (sub w 1 (1+qex w))).1.2.1 (kc (sub w 1 (1+qex w))).1.2.2.1 (kc (sub w 1 (1+qex w))).1.2.2.2 l 0 0 0 0):=by
 rw [zi3,rd5]
 simp only [hl,q9q]
 rw [if_pos ⟨pv.out ht,h0,pv.out h2,hy⟩]
theorem znf (hl:qdm w (1+qex w+1) 124=(l,y)) (h:(kc (sub w 1 (1+qex w))).2≠0∨y≠ln w):rdK w 5=none:=by
 rw [zi3,rd5]
 simp only [hl,q9q]
 rw [if_neg]
 rintro ⟨_,q1,_,q2⟩
 rcases h with h | h
 .exact h q1
 .exact h q2
theorem zne (h:tk w 0 40=false∨tk w (1+qex w) 41=false):rdK w 5=none:=by
 rw [zi3,rd5,if_neg]
 rintro ⟨q1,_,q2,_⟩
 rcases h with h | h
 .exact qdd h q1
 .exact qdd h q2
theorem qm0 (h:pv (ql w e i)):qfz w i=(qi (sub w i e),e):=by
 obtain ⟨_,e1⟩:=Hold.out h
 subst e1
 rfl
theorem zcf (h2:pv (ql w e 0)) (h3:pv (b0=(false || !(qi (sub w 0 e)).2))) (h11:pv (qa4 w i b e b0)) (h2':pv (ql w x i)) (h3':pv (c=(b || !(qi (sub w i x)).2))) (hc:c=false) (hx:x=ln w) :
  rdK w 6=some (Sign.mk 6 0 0 0 false 0 false false 0 0 0 0 false (qi (sub w 0 e)).1 (qi (sub w i x)).1 0 0):=by
 subst hc
 obtain ⟨hb,hok⟩:=zfe h3'
 obtain ⟨_,⟨q1,q2,q3⟩ | ⟨_,q⟩⟩:=Hold.out h11
 .subst q2
  rw [hb] at q3
  subst q3
  have hok0:=(zfe h3).2
  rw [zpb,rd6]
  simp only [qm0 h2,qm0 h2']
  rw [if_pos ⟨hok0,q1,hok,hx⟩]
 .rw [hb] at q;cases q
theorem zng (h2:pv (ql w e 0)) (h3:pv (b0=(false || !(qi (sub w 0 e)).2))) (h11:pv (qa4 w i b e b0)) (h2':pv (ql w x i)) (h3':pv (c=(b || !(qi (sub w i x)).2))) (hc:c=true∨x≠ln w):rdK w 6=none:=by
 rw [zpb,rd6,if_neg]
 simp only [qm0 h2]
 rintro ⟨q1,q2,q3,q4⟩
 obtain ⟨_,⟨p1,p2,p3⟩ | ⟨p,_⟩⟩:=Hold.out h11
 .subst p2
  rw [qm0 h2'] at q3 q4
  rcases hc with hc | hc
  .have h3a:b0=(false || !(qi (sub w 0 e)).2):=h3
   have h3b:c=(b || !(qi (sub w (e+1) x)).2):=h3'
   rw [q1] at h3a
   rw [hc,q3,p3,h3a] at h3b
   cases h3b
  .exact hc q4
 .exact qdd p q2
theorem zcg (ht:pv (tk w 0 64=true)) (h12:pv (jo w i b k 1)) (h2:pv (ql w x i)) (h3:pv (c=(b || !(qi (sub w i x)).2))) (hc:c=false) (hx:x=ln w) :
  rdK w 7=some (Sign.mk 7 0 0 0 false 0 false false 0 0 0 0 false 0 0 k (qi (sub w i x)).1):=by
 subst hc
 obtain ⟨hb,hok⟩:=zfe h3
 obtain ⟨_,⟨_,q2,q3⟩ | ⟨q,_⟩⟩:=Hold.out h12
 .have q2':i=2:=q2
  subst q2'
  rw [zi4,rd7,if_pos (pv.out ht),q3]
  simp only [qm0 h2]
  rw [if_pos ⟨hok,hx⟩]
 .rw [hb] at q;cases q
theorem znh (h12:pv (jo w i b k 1)) (h2:pv (ql w x i)) (h3:pv (c=(b || !(qi (sub w i x)).2))) (hc:c=true∨x≠ln w):rdK w 7=none:=by
 rw [zi4,rd7]
 split
 .obtain ⟨_,⟨q1,q2,q3⟩ | ⟨_,q⟩⟩:=Hold.out h12
  .have q2':i=2:=q2
   subst q2'
   rw [q3]
   simp only [qm0 h2]
   rw [if_neg]
   rintro ⟨p1,p2⟩
   rcases hc with hc | hc
   .have h3a:c=(b || !(qi (sub w 2 x)).2):=h3
    rw [hc,q1,p1] at h3a
    cases h3a
   .exact hc p2
  .rw [q]
 .rfl
theorem zqp (h:tk w 0 64=false):rdK w 7=none:=by rw [zi4,rd7,if_neg (qdd h)]
theorem qu8 {ch:UInt8} {n:Int} (hk:rdK w n=rdN w ch n) (ht:pv (tk w 0 ch=true)) (h2:pv (ql w x 1)) (h3:pv (c=(false || !(qi (sub w 1 x)).2))) (hc:c=false) (hx:x=ln w) :
  rdK w n=some (Sign.mk n 0 0 0 false 0 false false 0 0 0 0 false (qi (sub w 1 x)).1 0 0 0):=by
 subst hc
 obtain ⟨_,hok⟩:=zfe h3
 rw [hk,rdN]
 simp only [qm0 h2]
 rw [if_pos ⟨pv.out ht,hok,hx⟩]
theorem zch {ch:UInt8} {n:Int} (hk:rdK w n=rdN w ch n) (h2:pv (ql w x 1)) (h3:pv (c=(false || !(qi (sub w 1 x)).2))) (hc:c=true∨x≠ln w):rdK w n=none:=by
 rw [hk,rdN,if_neg]
 simp only [qm0 h2]
 rintro ⟨_,q1,q2⟩
 rcases hc with hc | hc
 .have h3a:c=(false || !(qi (sub w 1 x)).2):=h3
  rw [hc,q1] at h3a
  cases h3a
 .exact hc q2
theorem zex {ch:UInt8} {n:Int} (hk:rdK w n=rdN w ch n) (h:tk w 0 ch=false):rdK w n=none:=by rw [hk,rdN,if_neg fun hh=>qdd h hh.1]
theorem qnj {p:ZB} {n:Int} (hk:rdK w n=rdW w p n) (h:preB w p=true) (hl:ln p=ln w):rdK w n=some (Sign.mk n 0 0 0 false 0 false false 0 0 0 0 false 0 0 0 0):=by rw [hk,rdW,if_pos ⟨pv.out h,hl⟩]
theorem qni {p:ZB} {n:Int} (hk:rdK w n=rdW w p n) (h:preB w p=false∨ln p≠ln w):rdK w n=none:=by
 rw [hk,rdW,if_neg]
 rintro ⟨h1,h2⟩
 rcases h with h | h
 .exact qdd h h1
 .exact h h2
end
theorem zjf (w:ZB):0<=qex w:=by unfold qex;split<;>omega
theorem zqv {w:ZB} (h:1<=ln w):1+qex w<=ln w:=by
 unfold qex
 split
 .rename_i h1
  simp only [jh] at h1 ⊢
  split at h1
  .rename_i n hn
   have:=(List.findIdx?_eq_some_iff_getElem.1 hn).1
   simp only [fr,List.length_drop,ln] at *
   omega
  .omega
 .omega
theorem ztx {w:ZB} {Q:Prop}:(tk w 0 40=true->Q)↔(pv (tk w 0 40=true)->0<=qex w->1+qex w<=ln w->Q):=
 ⟨fun h t _ _=>h t,fun h t=>h t (zjf w) (zqv (by have:=qkb t (Int.le_refl _);omega))⟩
theorem zqu (w:ZB):(if jh (fr w 1) 41 > 0 then jh (fr w 1) 41 else 0)=qex w:=rfl
end Go.Proofs.YtbopmiclcimjgaaGreatDoor
