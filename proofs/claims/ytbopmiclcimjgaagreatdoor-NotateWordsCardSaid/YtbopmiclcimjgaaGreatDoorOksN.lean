/- LEMMAS for the condition of the program's reading of a word. -/
import Derived.Test.YtbopmiclcimjgaaGreatDoorOksA
import Derived.Test.YtbopmiclcimjgaaGreatDoorVcsN
namespace Go.Proofs.YtbopmiclcimjgaaGreatDoor
open Go Go.E2 Go.E3
set_option maxRecDepth 100000

theorem zim {w:List UInt8} {s:Sign} {e:Int} (h:qw w=(s,e)):zj w s.Kind s.Value s.Place s.Acc s.Color s.Stem s.Oblique s.Last s.MensMax s.MensMod s.MensTem s.MensPro s.Stroke s.N s.D s.ClefStep s.ClefLine e:=by
  unfold zj
  rw [h]
  simp
theorem zdp {w:List UInt8} {k:Int} (h1:1<=k) (h2:k<=12) (hn:∀ j,1<=j->j<k->rdK w j=none):∀ (m:Nat) (i:Int),1<=i->i<=k->(k-i).toNat=m->qj9 w i=qj9 w k:=by
  intro m
  induction m with
  | zero=>intro i hi hk hm;rw [show i=k by omega]
  | succ m ih=>
    intro i hi hk hm
    have:qj9 w i=qj9 w (i+1):=by
      conv=>lhs;rw [qj9]
      rw [dif_pos ⟨hi,by omega⟩,hn i hi (by omega)]
    rw [this]
    exact ih (i+1) (by omega) (by omega) (by omega)
theorem q7f {w:List UInt8} {k:Int} {s:Sign} (h:qb w (k-1)) (h1:1<=k) (h2:k<=12) (hk:rdK w k=some s):qw w=fin (some s):=by
  rw [qw,zdp h1 h2 (fun j a b=>h.out j a (by omega)) _ 1 (by omega) h1 rfl,qj9,dif_pos ⟨h1,h2⟩,hk]
theorem qru {w:List UInt8} (k:Int) {s:Sign} (h:qb w (k-1)) (h1:1<=k) (h2:k<=12) (hk:rdK w k=some s) (h3:zh s≠0):zj w 0 0 0 0 false 0 false false 0 0 0 0 false 0 0 0 0 (zh s):=
  zim (s:=sg0) (by rw [q7f h h1 h2 hk,fin,if_neg h3])
theorem qrv {w:List UInt8} (k:Int) {a b c d:Int} {e:Bool} {f:Int} {g o:Bool} {m1 m2 m3 m4:Int} {t:Bool} {n1 n2 n3 n4:Int} (h:qb w (k-1)) (h1:1<=k) (h2:k<=12) (hk:rdK w k=some (Sign.mk a b c d e f g o m1 m2 m3 m4 t n1 n2 n3 n4)) (h3:zh (Sign.mk a b c d e f g o m1 m2 m3 m4 t n1 n2 n3 n4)=0) :
    zj w a b c d e f g o m1 m2 m3 m4 t n1 n2 n3 n4 0:=
  zim (s:=Sign.mk a b c d e f g o m1 m2 m3 m4 t n1 n2 n3 n4) (by rw [q7f h h1 h2 hk,fin,if_pos h3])
theorem qc3 {w:List UInt8} (k:Int) (h:qb w (k-1)) (hk:rdK w k=none):qb w k:=⟨fun j a b=>by
  by_cases hj:j=k
  . rw [hj];exact hk
  . exact h.out j a (by omega)⟩
theorem zl0 {w:List UInt8} (h:qb w 12):zj w 0 0 0 0 false 0 false false 0 0 0 0 false 0 0 0 0 3:=zim (s:=sg0) (by
  rw [qw,zdp (w:=w) (k:=12) (by decide) (by decide) (fun j a b=>h.out j a (by omega)) _ 1 (by decide) (by decide) rfl,qj9,dif_pos (by decide),h.out 12 (by decide) (by decide)]
  show fin (qj9 w 13)=_
  rw [qj9,dif_neg (by decide)];rfl)

theorem zlk (w:List UInt8) (i:Int) (c:UInt8):preB (fr w i) [c]=tk w i c:=rfl

/-! ### What is known, marked as used -/
def pv (p:Prop):Prop:=p
theorem pv.out {p:Prop} (h:pv p):p:=h
theorem qit {w:List UInt8} {i:Int} {c:UInt8} (h:tk w i c=true) (h0:0<=i):i<ln w:=by
  simp only [tk,preB,Bool.and_eq_true,decide_eq_true_eq] at h
  have:=h.1
  simp only [ln,fr,List.length_drop,List.length_cons,List.length_nil] at this ⊢
  omega
section
variable {w m:List UInt8} {i i0 x k a p v:Int} {b b0 ok c o:Bool} {Q:Prop} {ch:UInt8}
theorem qza:(tk w i ch=true->Q)↔(pv (tk w i ch=true)->(0<=i->i<ln w)->Q):=⟨fun h t _=>h t,fun h t=>h t (qit t)⟩
theorem w0:(jc w m i i0->Q)↔(pv (jc w m i i0)->i0<=i->i<=ln w->ln m<=1->Q):=⟨fun h t _ _ _=>h t,fun h t=>h t t.out.2.2.1.1 t.out.2.2.1.2 t.out.2.2.2⟩
theorem w1:(zc w i i0->Q)↔(pv (zc w i i0)->i0<=i->i<=ln w->Q):=⟨fun h t _ _=>h t,fun h t=>h t t.out.1.1 t.out.1.2⟩
theorem w2:(qk w i i0->Q)↔(pv (qk w i i0)->i0<=i->i<=ln w->Q):=⟨fun h t _ _=>h t,fun h t=>h t t.out.1.1 t.out.1.2⟩
theorem w3:(kv w b b0 ok->Q)↔(pv (b=(b0 || !ok))->Q):=⟨fun h t=>h ⟨t⟩,fun h t=>h t.out⟩
theorem w4:(qbj w b b0 ok->Q)↔(pv (b=(b0 || !ok))->Q):=⟨fun h t=>h ⟨t⟩,fun h t=>h t.out⟩
theorem w5:(z9 w k i->Q)↔(pv (z9 w k i)->0<=k->k<=8->Q):=⟨fun h t _ _=>h t,fun h t=>h t t.out.1 t.out.2.1⟩
theorem w6:(qa1 w i b v->Q)↔(pv (qa1 w i b v)->0<=i->i<=ln w->Q):=⟨fun h t _ _=>h t,fun h t=>h t t.out.1.1 t.out.1.2⟩
theorem w7:(zr w i a i0->Q)↔(pv (zr w i a i0)->i0<=i->i<=ln w->Q):=⟨fun h t _ _=>h t,fun h t=>h t t.out.1.1 t.out.1.2⟩
theorem w8:(qbk w i b p a c i0 b0->Q)↔(pv (qbk w i b p a c i0 b0)->i0<=i->i<=ln w->Q):=⟨fun h t _ _=>h t,fun h t=>h t t.out.1.1 t.out.1.2⟩
theorem w9:(jg w i k i0->Q)↔(pv (jg w i k i0)->i0<=i->i<=ln w->Q):=⟨fun h t _ _=>h t,fun h t=>h t t.out.1.1 t.out.1.2⟩
theorem w10:(qaf w i o i0->Q)↔(pv (qaf w i o i0)->i0<=i->i<=ln w->Q):=⟨fun h t _ _=>h t,fun h t=>h t t.out.1.1 t.out.1.2⟩
theorem w11:(qag w i b i0 b0->Q)↔(pv (qag w i b i0 b0)->i0<=i->i<=ln w->Q):=⟨fun h t _ _=>h t,fun h t=>h t t.out.1.1 t.out.1.2⟩
theorem w12:(k6 w i b k i0->Q)↔(pv (k6 w i b k i0)->i0<=i->i<=ln w->Q):=⟨fun h t _ _=>h t,fun h t=>h t t.out.1.1 t.out.1.2⟩
end

/-! ### Step by step -/
section
variable {w m:List UInt8} {i i0 x j e k a p v y z:Int} {b b0 ok c o l:Bool} {ch:UInt8}
theorem zks (h:pv (tk w i 45=true)) (h0:0<=i):jc w [45] (i+1) i:=by
  have:=qit h h0
  exact ⟨⟨by rw [qf2,if_pos (pv.out h)],by rw [qf2,if_pos (pv.out h)],⟨by omega,by omega⟩,Int.le_refl _⟩⟩
theorem zkr (h:tk w i 45=false) (hi:i<=ln w):jc w [] i i:=by
  have h':¬ tk w i 45=true:=by rw [h];simp
  exact ⟨⟨by rw [qf2,if_neg h'],by rw [qf2,if_neg h'],⟨Int.le_refl _,hi⟩,by decide⟩⟩
theorem qjc (hi:i<=ln w):zc w i i:=⟨⟨Int.le_refl _,hi⟩,rfl⟩
theorem qls (h:pv (zc w x i)) (h0:0<=i) (h1:x<ln w) (h2:48<=bx w x) (h3:bx w x<=57):zc w (x+1) i:=by
  obtain ⟨⟨r1,r2⟩,r3⟩:=Hold.out h
  exact ⟨⟨by omega,by omega⟩,r3.trans (qnf (by omega) h1 (by simp [qdr,h2,h3]))⟩
theorem zcm (h:pv (zc w x i)) (hs:ln w<=x∨qdr (bx w x)=false):qk w x i:=by
  obtain ⟨r,r3⟩:=Hold.out h
  exact ⟨r,by rw [r3];exact (qh7 hs).symm⟩
theorem qp0 (h:pv (zc w x i)) (hs:ln w<=x):qk w x i:=zcm h (.inl hs)
theorem qw1 (h:pv (zc w x i)) (hs:bx w x<48):qk w x i:=zcm h (.inr (by simp only [qdr,Bool.and_eq_false_iff,decide_eq_false_iff_not];omega))
theorem qw0 (h:pv (zc w x i)) (hs:57<bx w x):qk w x i:=zcm h (.inr (by simp only [qdr,Bool.and_eq_false_iff,decide_eq_false_iff_not];omega))
theorem zgc (h:b0=true):kv w true b0 ok:=⟨by simp [h]⟩
theorem q09 (h:b0=false):kv w (!ok) b0 ok:=⟨by simp [h]⟩
theorem zk1 (h:b0=true):qbj w true b0 ok:=⟨by simp [h]⟩
theorem zgd (h:b0=false):qbj w (!ok) b0 ok:=⟨by simp [h]⟩
theorem q1a:z9 w 0 i:=⟨⟨Int.le_refl _,by decide,rfl⟩⟩
theorem q64 (h:pv (z9 w k i)) (h1:k<8) (h2:preB (fr w i) (sub ([88,76,66,83,77,81,70,90]:List UInt8) k (k+1))=false):z9 w (k+1) i:=by
  obtain ⟨r1,r2,r3⟩:=Hold.out h
  refine ⟨⟨by omega,by omega,?_⟩⟩
  rw [<-r3]
  conv=>rhs;rw [qrr]
  rw [dif_pos ⟨r1,h1⟩,if_neg (by rw [q81,h2];simp)]
theorem qy8 (h:pv (z9 w k i)) (h1:k<8) (h2:preB (fr w i) (sub ([88,76,66,83,77,81,70,90]:List UInt8) k (k+1))=true):qqh w i=some (k+1):=by
  obtain ⟨r1,r2,r3⟩:=Hold.out h
  rw [<-r3,qrr,dif_pos ⟨r1,h1⟩,if_pos (show preB (fr w i) (sub q81 k (k+1))=true from h2)]
theorem zef (h:pv (z9 w k i)) (h1:8<=k):qqh w i=none:=by
  obtain ⟨r1,r2,r3⟩:=Hold.out h
  rw [<-r3,qrr,dif_neg (by omega)]
theorem ziy (a b:List UInt8):ln (a++b)=ln a+ln b:=by simp only [ln,List.length_append];omega
theorem q62 (h:k<8) (h0:0<=k):qbl w (k+1) i<qbl w k i:=by simp only [qbl];omega
theorem qlq (h:i<ln w):zx w (i+1) i0<zx w i i0:=by simp only [zx];omega
theorem qxy {v:List UInt8} {r t:Int} (hn:ln w<=300) (h0:0<=r) (h1:r<=t) (h2:t<=ln w) (h3:ln v<=1):ln (v++sub w r t)<=301:=by
  rw [ziy,q4d h0 h1 h2];omega
theorem qv9 {v:List UInt8} {r t:Int} (hn:ln w<=300) (h0:0<=r) (h1:r<=t) (h2:t<=ln w) (h3:ln v<=1):v.length+(sub w r t).length<=1000000000:=by
  have:=qxy hn h0 h1 h2 h3
  simp only [ln,List.length_append] at this
  omega
theorem qhc {r t:Int} (hn:ln w<=300) (h0:0<=r) (h1:r<=t) (h2:t<=ln w):ln (sub w r t)<=1000000:=by
  rw [q4d h0 h1 h2];omega
theorem sub_one {k:Int} (h0:0<=k) (h:k<8):ln (sub ([88,76,66,83,77,81,70,90]:List UInt8) k (k+1))=1:=by
  have hl:ln ([88,76,66,83,77,81,70,90]:List UInt8)=8:=rfl
  rw [q4d h0 (by omega) (by omega)];omega
theorem qux {k:Int} (h0:0<=k) (h:k<8):-9223372036854775808<=ln (sub ([88,76,66,83,77,81,70,90]:List UInt8) k (k+1)):=by rw [sub_one h0 h];decide
theorem quw {k:Int} (h0:0<=k) (h:k<8):ln (sub ([88,76,66,83,77,81,70,90]:List UInt8) k (k+1))<=9223372036854775807:=by rw [sub_one h0 h];decide
theorem q2k {k:Int} (h0:0<=k) (h:k<8):-9223372036854775808<=1+ln (sub ([88,76,66,83,77,81,70,90]:List UInt8) k (k+1)):=by rw [sub_one h0 h];decide
theorem q2j {k:Int} (h0:0<=k) (h:k<8):1+ln (sub ([88,76,66,83,77,81,70,90]:List UInt8) k (k+1))<=9223372036854775807:=by rw [sub_one h0 h];decide
theorem pre_nil {s:List UInt8} (h:preB s []=false):False:=by
  simp [preB,ln,upto] at h
theorem zgz {s p:List UInt8} (h:preB s p=true):ln p<=ln s:=by
  simp only [preB,Bool.and_eq_true,decide_eq_true_eq] at h;exact h.1
theorem zma (h:pv (z9 w k 0)) (h0:0<=k) (h1:k<8) (h2:preB (fr w 0) (sub ([88,76,66,83,77,81,70,90]:List UInt8) k (k+1))=true):qa1 w (ln (sub ([88,76,66,83,77,81,70,90]:List UInt8) k (k+1))) false (k+1):=by
  have hl:=zgz h2
  rw [sub_one h0 h1] at hl ⊢
  exact ⟨⟨⟨by decide,hl⟩,.inl ⟨rfl,rfl,qy8 h h1 h2⟩⟩⟩
theorem zl9 (h:pv (z9 w k 0)) (h1:8<=k):qa1 w 0 true 0:=⟨⟨⟨by decide,kb w⟩,.inr ⟨rfl,zef h h1⟩⟩⟩
theorem zk2 (h:pv (tk w i 98=true)) (h0:0<=i):zr w (i+1) (-1) i:=by
  have:=qit h h0
  exact ⟨⟨⟨by omega,by omega⟩,by rw [qiw,if_pos (pv.out h)],by rw [qiw,if_pos (pv.out h)]⟩⟩
theorem qci (h:b=false):¬ b=true:=by rw [h];simp
theorem zk3 (h:tk w i 98=false) (h1:pv (tk w i 35=true)) (h0:0<=i):zr w (i+1) 1 i:=by
  have:=qit h1 h0
  exact ⟨⟨⟨by omega,by omega⟩,by rw [qiw,if_neg (qci h),if_pos (pv.out h1)],by rw [qiw,if_neg (qci h),if_pos (pv.out h1)]⟩⟩
theorem zk4 (h:tk w i 98=false) (h1:tk w i 35=false) (h2:pv (tk w i 110=true)) (h0:0<=i):zr w (i+1) 2 i:=by
  have:=qit h2 h0
  exact ⟨⟨⟨by omega,by omega⟩,by rw [qiw,if_neg (qci h),if_neg (qci h1),if_pos (pv.out h2)],by rw [qiw,if_neg (qci h),if_neg (qci h1),if_pos (pv.out h2)]⟩⟩
theorem zk5 (h:tk w i 98=false) (h1:tk w i 35=false) (h2:tk w i 110=false) (hi:i<=ln w):zr w i 0 i:=
  ⟨⟨⟨Int.le_refl _,hi⟩,by rw [qiw,if_neg (qci h),if_neg (qci h1),if_neg (qci h2)],by rw [qiw,if_neg (qci h),if_neg (qci h1),if_neg (qci h2)]⟩⟩
theorem qj8 (h:pv (tk w i ch=true)):qcr w i ch=(true,i+1):=by rw [qcr,if_pos (pv.out h)]
theorem qj7 (h:tk w i ch=false):qcr w i ch=(false,i):=by rw [qcr,if_neg (qci h)]
theorem q4p (h0:pv (jc w m j i)) (h2:pv (qk w e j)) (h7:pv (zr w x a e)) (hc:qcr w x 42=(c,y)):qek w i=((z7 (m++sub w j e)).1,a,c,(z7 (m++sub w j e)).2,y):=by
  obtain ⟨e1,e2,_⟩:=Hold.out h0
  obtain ⟨_,e3⟩:=Hold.out h2
  obtain ⟨_,e4,e5⟩:=Hold.out h7
  subst e1;subst e2;subst e3;subst e4;subst e5
  simp only [qek,qka,hc]
theorem zh2 (h0:pv (jc w m j i)) (h2:pv (qk w e j)) (h4:pv (b=(b0 || !(z7 (m++sub w j e)).2))) (h7:pv (zr w x a e)) (hc:qcr w x 42=(c,y)) (r1:i<=y) (r2:y<=ln w) :
    qbk w y b (z7 (m++sub w j e)).1 a c i b0:=by
  have:=q4p h0 h2 h7 hc
  exact ⟨⟨⟨r1,r2⟩,by rw [this],by rw [this],by rw [this],by rw [this];exact h4,by rw [this]⟩⟩
theorem zmb (h:pv (tk w i 94=true)) (h0:0<=i):jg w (i+1) 1 i:=by
  have:=qit h h0
  exact ⟨⟨⟨by omega,by omega⟩,by rw [qi5,if_pos (pv.out h)],by rw [qi5,if_pos (pv.out h)]⟩⟩
theorem zmc (h:tk w i 94=false) (h1:pv (tk w i 118=true)) (h0:0<=i):jg w (i+1) 2 i:=by
  have:=qit h1 h0
  exact ⟨⟨⟨by omega,by omega⟩,by rw [qi5,if_neg (qci h),if_pos (pv.out h1)],by rw [qi5,if_neg (qci h),if_pos (pv.out h1)]⟩⟩
theorem zmd (h:tk w i 94=false) (h1:tk w i 118=false) (h2:pv (tk w i 62=true)) (h0:0<=i):jg w (i+1) 3 i:=by
  have:=qit h2 h0
  exact ⟨⟨⟨by omega,by omega⟩,by rw [qi5,if_neg (qci h),if_neg (qci h1),if_pos (pv.out h2)],by rw [qi5,if_neg (qci h),if_neg (qci h1),if_pos (pv.out h2)]⟩⟩
theorem zme (h:tk w i 94=false) (h1:tk w i 118=false) (h2:tk w i 62=false) (hi:i<=ln w):jg w i 0 i:=
  ⟨⟨⟨Int.le_refl _,hi⟩,by rw [qi5,if_neg (qci h),if_neg (qci h1),if_neg (qci h2)],by rw [qi5,if_neg (qci h),if_neg (qci h1),if_neg (qci h2)]⟩⟩
theorem zku (h:pv (tk w i 126=true)) (h0:0<=i):qaf w (i+1) true i:=by
  have:=qit h h0
  exact ⟨⟨⟨by omega,by omega⟩,by rw [qj8 h],by rw [qj8 h]⟩⟩
theorem zkt (h:tk w i 126=false) (hi:i<=ln w):qaf w i false i:=⟨⟨⟨Int.le_refl _,hi⟩,by rw [qj7 h],by rw [qj7 h]⟩⟩
theorem zkw (h:pv (tk w i 47=true)) (h0:0<=i):qag w (i+1) b i b:=by
  have:=qit h h0
  exact ⟨⟨⟨by omega,by omega⟩,.inl ⟨pv.out h,rfl,rfl⟩⟩⟩
theorem zkv (h:tk w i 47=false) (hi:i<=ln w):qag w i true i b:=⟨⟨⟨Int.le_refl _,hi⟩,.inr ⟨h,rfl⟩⟩⟩
theorem zkx (h:pv (tk w 1 67=true)):k6 w (1+1) false 0 1:=by
  have:=qit h (by decide)
  exact ⟨⟨⟨by decide,by omega⟩,.inl ⟨rfl,rfl,by rw [q2h,if_pos (pv.out h)]⟩⟩⟩
theorem zky (h:tk w 1 67=false) (h1:pv (tk w 1 70=true)):k6 w (1+1) false 3 1:=by
  have:=qit h1 (by decide)
  exact ⟨⟨⟨by decide,by omega⟩,.inl ⟨rfl,rfl,by rw [q2h,if_neg (qci h),if_pos (pv.out h1)]⟩⟩⟩
theorem zkz (h:tk w 1 67=false) (h1:tk w 1 70=false) (h2:pv (tk w 1 71=true)):k6 w (1+1) false 4 1:=by
  have:=qit h2 (by decide)
  exact ⟨⟨⟨by decide,by omega⟩,.inl ⟨rfl,rfl,by rw [q2h,if_neg (qci h),if_neg (qci h1),if_pos (pv.out h2)]⟩⟩⟩
theorem zk0 (h:tk w 1 67=false) (h1:tk w 1 70=false) (h2:tk w 1 71=false) (hi:1<=ln w):k6 w 1 true 0 1:=
  ⟨⟨⟨Int.le_refl _,hi⟩,.inr ⟨rfl,by rw [q2h,if_neg (qci h),if_neg (qci h1),if_neg (qci h2)]⟩⟩⟩

/-! ### Kind by kind -/
theorem q9d {ok b0:Bool} (h:false=(b0 || !ok)):b0=false/\ok=true:=by cases b0<;>cases ok<;>simp_all
theorem q6q (h6:pv (qa1 w i b0 v)) (h0:pv (jc w m j i)) (h2:pv (qk w e j)) (h4:pv (b=(b0 || !(z7 (m++sub w j e)).2))) (h7:pv (zr w x a e)) (hc:qcr w x 42=(c,y)) (hb:b=false) (hy:y=ln w) :
    rdK w 1=some (Sign.mk 1 v (z7 (m++sub w j e)).1 a c 0 false false 0 0 0 0 false 0 0 0 0):=by
  have hp:=q4p h0 h2 h7 hc
  subst hb
  obtain ⟨hb0,hok⟩:=q9d h4
  obtain ⟨_,⟨_,hi,hv⟩ | ⟨h,_⟩⟩:=Hold.out h6
  . subst hi
    rw [rdK,if_pos rfl,rd1,hv]
    simp only [hp]
    rw [if_pos ⟨hok,hy⟩]
  . rw [hb0] at h;cases h
theorem zf0 (h6:pv (qa1 w i b0 v)) (h0:pv (jc w m j i)) (h2:pv (qk w e j)) (h4:pv (b=(b0 || !(z7 (m++sub w j e)).2))) (h7:pv (zr w x a e)) (hc:qcr w x 42=(c,y)) (hb:b=true∨y≠ln w) :
    rdK w 1=none:=by
  have hp:=q4p h0 h2 h7 hc
  obtain ⟨_,⟨h,hi,hv⟩ | ⟨_,hv⟩⟩:=Hold.out h6
  . subst hi
    rw [rdK,if_pos rfl,rd1,hv]
    simp only [hp]
    rw [if_neg]
    rintro ⟨q1,q2⟩
    rcases hb with hb | hb
    . have h4':b=(b0 || !(z7 (m++sub w j e)).2):=h4
      rw [hb,h,q1] at h4'
      cases h4'
    . exact hb q2
  . rw [rdK,if_pos rfl,rd1,hv]
theorem q6z:rdK w 2=rd2 w:=rfl
theorem zhv:rdK w 3=rd3 w:=rfl
theorem zb4:rdK w 4=rd4 w:=rfl
theorem zb5:rdK w 5=rd5 w:=rfl
theorem zhw:rdK w 6=rd6 w:=rfl
theorem zb6:rdK w 7=rd7 w:=rfl
theorem qwr:rdK w 8=rdN w 38 8:=rfl
theorem qps:rdK w 10=rdN w 93 10:=rfl
theorem q6r (ht:pv (tk w 0 114=true)) (h:pv (z9 w k 1)) (h1:k<8) (h2:preB (fr w 1) (sub ([88,76,66,83,77,81,70,90]:List UInt8) k (k+1))=true) (hl:1+ln (sub ([88,76,66,83,77,81,70,90]:List UInt8) k (k+1))=ln w):rdK w 2=some (Sign.mk 2 (k+1) 0 0 false 0 false false 0 0 0 0 false 0 0 0 0):=by
  rw [sub_one h.out.out.1 h1] at hl
  rw [q6z,rd2,if_pos (pv.out ht),qy8 h h1 h2];exact if_pos hl
theorem zf1 (h:pv (z9 w k 1)) (h1:k<8) (h2:preB (fr w 1) (sub ([88,76,66,83,77,81,70,90]:List UInt8) k (k+1))=true) (hl:1+ln (sub ([88,76,66,83,77,81,70,90]:List UInt8) k (k+1))≠ln w):rdK w 2=none:=by
  rw [sub_one h.out.out.1 h1] at hl
  rw [q6z,rd2]
  split
  . simp only [qy8 h h1 h2]
    exact if_neg hl
  . rfl
theorem zkp (h:pv (z9 w k 1)) (h1:8<=k):rdK w 2=none:=by
  rw [q6z,rd2]
  split
  . rw [zef h h1]
  . rfl
theorem ziv (h:tk w 0 114=false):rdK w 2=none:=by rw [q6z,rd2,if_neg (qci h)]
theorem q6t (h:pv (tk w 0 46=true)) (hl:(1:Int)=ln w):rdK w 3=some (Sign.mk 3 0 0 0 false 0 false false 0 0 0 0 false 0 0 0 0):=by rw [zhv,rd3,if_pos ⟨pv.out h,hl⟩]
theorem q6s (h:tk w 0 46=false∨(1:Int)≠ln w):rdK w 3=none:=by
  rw [zhv,rd3,if_neg]
  rintro ⟨h1,h2⟩
  rcases h with h | h
  . rw [h] at h1;cases h1
  . exact h h2
theorem q6u (ht:pv (tk w 0 116=true)) (h8:pv (qbk w i b p a c 1 false)) (h9:pv (jg w j k i)) (h10:pv (qaf w e o j)) (hl:qcr w e 33=(l,y)) (hb:b=false) (hy:y=ln w) :
    rdK w 4=some (Sign.mk 4 0 p a c k o l 0 0 0 0 false 0 0 0 0):=by
  obtain ⟨_,e1,e2,e3,e4,e5⟩:=Hold.out h8
  obtain ⟨_,e6,e7⟩:=Hold.out h9
  obtain ⟨_,e8,e9⟩:=Hold.out h10
  subst hb
  have hok:=(q9d e4).2
  subst e1;subst e2;subst e3;subst e5;subst e6;subst e7;subst e8;subst e9
  rw [zb4,rd4]
  simp only [q49,hl]
  rw [if_pos ⟨pv.out ht,hok,hy⟩]
theorem zf2 (h8:pv (qbk w i b p a c 1 false)) (h9:pv (jg w j k i)) (h10:pv (qaf w e o j)) (hl:qcr w e 33=(l,y)) (hb:b=true∨y≠ln w):rdK w 4=none:=by
  obtain ⟨_,e1,e2,e3,e4,e5⟩:=Hold.out h8
  obtain ⟨_,e6,e7⟩:=Hold.out h9
  obtain ⟨_,e8,e9⟩:=Hold.out h10
  subst e5;subst e7;subst e9
  rw [zb4,rd4]
  simp only [q49,hl]
  rw [if_neg]
  rintro ⟨_,q1,q2⟩
  rcases hb with hb | hb
  . rw [hb,q1] at e4;cases e4
  . exact hb q2
theorem ziw (h:tk w 0 116=false):rdK w 4=none:=by rw [zb4,rd4,if_neg fun hh=>qci h hh.1]
theorem q6v (ht:pv (tk w 0 40=true)) (h2:pv (tk w (1+qdz w) 41=true)) (hl:qcr w (1+qdz w+1) 124=(l,y)) (h0:(za (sub w 1 (1+qdz w))).2=0) (hy:y=ln w) :
    rdK w 5=some (Sign.mk 5 0 0 0 false 0 false false (za (sub w 1 (1+qdz w))).1.1 (za (sub w 1 (1+qdz w))).1.2.1 (za (sub w 1 (1+qdz w))).1.2.2.1 (za (sub w 1 (1+qdz w))).1.2.2.2 l 0 0 0 0):=by
  rw [zb5,rd5]
  simp only [hl,q4e]
  rw [if_pos ⟨pv.out ht,h0,pv.out h2,hy⟩]
theorem zf4 (hl:qcr w (1+qdz w+1) 124=(l,y)) (h:(za (sub w 1 (1+qdz w))).2≠0∨y≠ln w):rdK w 5=none:=by
  rw [zb5,rd5]
  simp only [hl,q4e]
  rw [if_neg]
  rintro ⟨_,q1,_,q2⟩
  rcases h with h | h
  . exact h q1
  . exact h q2
theorem zf3 (h:tk w 0 40=false∨tk w (1+qdz w) 41=false):rdK w 5=none:=by
  rw [zb5,rd5,if_neg]
  rintro ⟨q1,_,q2,_⟩
  rcases h with h | h
  . exact qci h q1
  . exact qci h q2
theorem qk9 (h:pv (qk w e i)):qe0 w i=(qd (sub w i e),e):=by
  obtain ⟨_,e1⟩:=Hold.out h
  subst e1
  rfl
theorem q6w (h2:pv (qk w e 0)) (h3:pv (b0=(false || !(qd (sub w 0 e)).2))) (h11:pv (qag w i b e b0)) (h2':pv (qk w x i)) (h3':pv (c=(b || !(qd (sub w i x)).2))) (hc:c=false) (hx:x=ln w) :
    rdK w 6=some (Sign.mk 6 0 0 0 false 0 false false 0 0 0 0 false (qd (sub w 0 e)).1 (qd (sub w i x)).1 0 0):=by
  subst hc
  obtain ⟨hb,hok⟩:=q9d h3'
  obtain ⟨_,⟨q1,q2,q3⟩ | ⟨_,q⟩⟩:=Hold.out h11
  . subst q2
    rw [hb] at q3
    subst q3
    have hok0:=(q9d h3).2
    rw [zhw,rd6]
    simp only [qk9 h2,qk9 h2']
    rw [if_pos ⟨hok0,q1,hok,hx⟩]
  . rw [hb] at q;cases q
theorem zf5 (h2:pv (qk w e 0)) (h3:pv (b0=(false || !(qd (sub w 0 e)).2))) (h11:pv (qag w i b e b0)) (h2':pv (qk w x i)) (h3':pv (c=(b || !(qd (sub w i x)).2))) (hc:c=true∨x≠ln w):rdK w 6=none:=by
  rw [zhw,rd6,if_neg]
  simp only [qk9 h2]
  rintro ⟨q1,q2,q3,q4⟩
  obtain ⟨_,⟨p1,p2,p3⟩ | ⟨p,_⟩⟩:=Hold.out h11
  . subst p2
    rw [qk9 h2'] at q3 q4
    rcases hc with hc | hc
    . have h3a:b0=(false || !(qd (sub w 0 e)).2):=h3
      have h3b:c=(b || !(qd (sub w (e+1) x)).2):=h3'
      rw [q1] at h3a
      rw [hc,q3,p3,h3a] at h3b
      cases h3b
    . exact hc q4
  . exact qci p q2
theorem q6x (ht:pv (tk w 0 64=true)) (h12:pv (k6 w i b k 1)) (h2:pv (qk w x i)) (h3:pv (c=(b || !(qd (sub w i x)).2))) (hc:c=false) (hx:x=ln w) :
    rdK w 7=some (Sign.mk 7 0 0 0 false 0 false false 0 0 0 0 false 0 0 k (qd (sub w i x)).1):=by
  subst hc
  obtain ⟨hb,hok⟩:=q9d h3
  obtain ⟨_,⟨_,q2,q3⟩ | ⟨q,_⟩⟩:=Hold.out h12
  . have q2':i=2:=q2
    subst q2'
    rw [zb6,rd7,if_pos (pv.out ht),q3]
    simp only [qk9 h2]
    rw [if_pos ⟨hok,hx⟩]
  . rw [hb] at q;cases q
theorem zf6 (h12:pv (k6 w i b k 1)) (h2:pv (qk w x i)) (h3:pv (c=(b || !(qd (sub w i x)).2))) (hc:c=true∨x≠ln w):rdK w 7=none:=by
  rw [zb6,rd7]
  split
  . obtain ⟨_,⟨q1,q2,q3⟩ | ⟨_,q⟩⟩:=Hold.out h12
    . have q2':i=2:=q2
      subst q2'
      rw [q3]
      simp only [qk9 h2]
      rw [if_neg]
      rintro ⟨p1,p2⟩
      rcases hc with hc | hc
      . have h3a:c=(b || !(qd (sub w 2 x)).2):=h3
        rw [hc,q1,p1] at h3a
        cases h3a
      . exact hc p2
    . rw [q]
  . rfl
theorem zix (h:tk w 0 64=false):rdK w 7=none:=by rw [zb6,rd7,if_neg (qci h)]
theorem qr9 {ch:UInt8} {n:Int} (hk:rdK w n=rdN w ch n) (ht:pv (tk w 0 ch=true)) (h2:pv (qk w x 1)) (h3:pv (c=(false || !(qd (sub w 1 x)).2))) (hc:c=false) (hx:x=ln w) :
    rdK w n=some (Sign.mk n 0 0 0 false 0 false false 0 0 0 0 false (qd (sub w 1 x)).1 0 0 0):=by
  subst hc
  obtain ⟨_,hok⟩:=q9d h3
  rw [hk,rdN]
  simp only [qk9 h2]
  rw [if_pos ⟨pv.out ht,hok,hx⟩]
theorem q6y {ch:UInt8} {n:Int} (hk:rdK w n=rdN w ch n) (h2:pv (qk w x 1)) (h3:pv (c=(false || !(qd (sub w 1 x)).2))) (hc:c=true∨x≠ln w):rdK w n=none:=by
  rw [hk,rdN,if_neg]
  simp only [qk9 h2]
  rintro ⟨_,q1,q2⟩
  rcases hc with hc | hc
  . have h3a:c=(false || !(qd (sub w 1 x)).2):=h3
    rw [hc,q1] at h3a
    cases h3a
  . exact hc q2
theorem q8u {ch:UInt8} {n:Int} (hk:rdK w n=rdN w ch n) (h:tk w 0 ch=false):rdK w n=none:=by rw [hk,rdN,if_neg fun hh=>qci h hh.1]
theorem qlo {p:List UInt8} {n:Int} (hk:rdK w n=rdW w p n) (h:preB w p=true) (hl:ln p=ln w):rdK w n=some (Sign.mk n 0 0 0 false 0 false false 0 0 0 0 false 0 0 0 0):=by rw [hk,rdW,if_pos ⟨pv.out h,hl⟩]
theorem qln {p:List UInt8} {n:Int} (hk:rdK w n=rdW w p n) (h:preB w p=false∨ln p≠ln w):rdK w n=none:=by
  rw [hk,rdW,if_neg]
  rintro ⟨h1,h2⟩
  rcases h with h | h
  . exact qci h h1
  . exact h h2
end
theorem zcl (w:List UInt8):0<=qdz w:=by unfold qdz;split<;>omega
theorem zi2 {w:List UInt8} (h:1<=ln w):1+qdz w<=ln w:=by
  unfold qdz
  split
  . rename_i h1
    simp only [zq] at h1 ⊢
    split at h1
    . rename_i n hn
      have:=(List.findIdx?_eq_some_iff_getElem.1 hn).1
      simp only [fr,List.length_drop,ln] at *
      omega
    . omega
  . omega
theorem zlp {w:List UInt8} {Q:Prop}:(tk w 0 40=true->Q)↔(pv (tk w 0 40=true)->0<=qdz w->1+qdz w<=ln w->Q):=
  ⟨fun h t _ _=>h t,fun h t=>h t (zcl w) (zi2 (by have:=qit t (Int.le_refl _);omega))⟩
theorem zi1 (w:List UInt8):(if zq (fr w 1) 41 > 0 then zq (fr w 1) 41 else 0)=qdz w:=rfl

end Go.Proofs.YtbopmiclcimjgaaGreatDoor
