import Derived.Test.YtpbliaccnbgapaaGreatDoorNat
import Derived.Test.YtpbliaccnbgapaaGreatDoorM6
import Derived.Lib.ItoaLen
namespace Go.Proofs.YtpbliaccnbgapaaGreatDoor
open Go Go.E2 Go.E3
abbrev ZX:ZB:=[120,120,120,120,120,120,120,120,120,120,120,120,120,120,120,120,120,120,120,120,120,120,120,120,120,120,120,120,120,120,120,120,32,112,113,112,112,112,112,112,112,112,112,112,112,112,112,112,112,112,112,112,112,112,112,112,112,112,112,99,112,112,112,112,112,112,112,112,112,112,112,112,112,112,112,112,112,112,112,112,112,112,112,112,112,112,112,112,112,112,112,112,112,112,112,112,112,112,112,112,112,112,112,112,112,112,112,112,112,112,112,112,112,112,112,112,112,112,112,112,112,112,112,112,112,112,112]
def jg (a b:Int):Int:=(Nat.gcd a.toNat b.toNat:Nat)
theorem qsj (a b:Int):0<=jg a b:=Int.natCast_nonneg _
theorem qzc {a:Int} (h:0<=a):jg a 0=a:=by
 unfold jg
 rw [Int.toNat_zero,Nat.gcd_zero_right]
 omega
theorem qzb {a b:Int} (ha:0<=a) (hb:0<=b):jg b (Int.tmod a b)=jg a b:=by
 unfold jg
 obtain ⟨m,rfl⟩:=Int.eq_ofNat_of_zero_le ha
 obtain ⟨n,rfl⟩:=Int.eq_ofNat_of_zero_le hb
 have:Int.tmod (m:Int) (n:Int)=((m % n:Nat):Int):=by rw [<-Int.ofNat_tmod]
 rw [this,Int.toNat_natCast,Int.toNat_natCast,Int.toNat_natCast,Nat.gcd_comm m n,Nat.gcd_comm n (m % n),<-Nat.gcd_rec]
theorem qvw {a b:Int} (hb:1<=b):1<=jg a b:=by
 unfold jg
 have:0<Nat.gcd a.toNat b.toNat:=Nat.gcd_pos_of_pos_right _ (by omega)
 omega
theorem zbk {a b:Int} (ha:0<=a) (hb:0<b):0<=Int.tmod a b/\Int.tmod a b<b:=⟨Int.tmod_nonneg _ ha,Int.tmod_lt_of_pos _ hb⟩
theorem q2q {a b:Int} (ha:0<=a) (hb:0<=b):0<=a.tdiv b/\a.tdiv b<=a:=by
 refine ⟨Int.tdiv_nonneg ha hb,?_⟩
 rw [Int.tdiv_eq_ediv_of_nonneg ha]
 exact Int.ediv_le_self _ ha
theorem q8v {a b A B:Int} (h0:0<=a) (h1:a<=A) (h2:0<=b) (h3:b<=B):0<=a * b/\a * b<=A * B:=
 ⟨Int.mul_nonneg h0 h2,Int.mul_le_mul h1 h3 h2 (Int.le_trans h0 h1)⟩
theorem zor {a b:Int} (h0:1<=a) (h1:1<=b):1<=a * b:=by
 have:=Int.mul_le_mul h0 h1 (by omega) (by omega)
 omega
def qj (n d:Int):Int:=if n<0∨1099511627776<n∨d<1∨1048576<d then 2 else if 1<jg n d then 3 else 0
def ofT (n d:Int):Int×Int×Int:=if 1099511627776<n.tdiv (jg n d)∨1048576<d.tdiv (jg n d) then (0,0,4) else (n.tdiv (jg n d),d.tdiv (jg n d),0)
def qgg:List Time->Int
 | []=>0
 | x::l=>if qj x.N x.D≠0 then qj x.N x.D else qgg l
def ke (a b c d:Int):Int×Int×Int:=if qj a b≠0 then (0,0,qj a b) else if qj c d≠0 then (0,0,qj c d) else ofT (a * d+c * b) (b * d)
def zqo (a b c d:Int):Int×Int:=if qj a b≠0 then (0,qj a b) else if qj c d≠0 then (0,qj c d) else if a * d<c * b then (-1,0) else if c * b<a * d then (1,0) else (0,0)
def kg (a b c:Int):Int:=if a<0∨6<a∨b<0∨8<b∨c < -1∨1<c then 2 else 0
theorem qj3 {n d:Int} (h:qj n d=0):0<=n/\n<=1099511627776/\1<=d/\d<=1048576:=by
 unfold qj at h
 split at h
 .omega
 .omega
theorem qy5 (a b c d:Int):qgg [Time.mk a b,Time.mk c d]=if qj a b≠0 then qj a b else qj c d:=by
 simp only [qgg]
 split
 .rfl
 .split
  .rfl
  .omega
def qb4 (x:Event):Int:=
 if qj x.AtN x.AtD≠0 then qj x.AtN x.AtD else if qj x.DurN x.DurD≠0 then qj x.DurN x.DurD else if x.DurN=0 then 2
 else if x.Rest=true/\(x.PitchStep≠0∨x.PitchOctave≠0∨x.PitchAlter≠0) then 3
 else if x.Rest=false/\kg x.PitchStep x.PitchOctave x.PitchAlter≠0 then kg x.PitchStep x.PitchOctave x.PitchAlter
 else if x.Sign<0∨x.Pass<0 then 2 else 0
def qdl (x:Event) (n d:Int):Int:=
 if qb4 x≠0 then qb4 x else if x.AtN≠n∨x.AtD≠d then 6 else (ke x.AtN x.AtD x.DurN x.DurD).2.2
def qcy:List Event->Int->Int->Int->Int×Int
 | [],_,_,_=>(0,0)
 | x::l,i,n,d=>if qdl x n d≠0 then (qdl x n d,i) else qcy l (i+1) (ke x.AtN x.AtD x.DurN x.DurD).1 (ke x.AtN x.AtD x.DurN x.DurD).2.1
def z8 (l:List Event):Int×Int:=if 2000<ln l then (11,0) else qcy l 0 0 1
def cm (l:List Event) (tn td j:Int):Int:=(zqo (ix l j).AtN (ix l j).AtD tn td).1
theorem q4e {a b:Event} (h1:a.AtN=b.AtN) (h2:a.AtD=b.AtD) (h3:a.DurN=b.DurN) (h4:a.DurD=b.DurD) (h5:a.PitchStep=b.PitchStep) (h6:a.PitchOctave=b.PitchOctave) (h7:a.PitchAlter=b.PitchAlter) (h8:a.Rest=b.Rest) (h9:a.Sign=b.Sign) (h10:a.Pass=b.Pass):a=b:=by
 cases a;cases b
 simp only at h1 h2 h3 h4 h5 h6 h7 h8 h9 h10
 subst h1 h2 h3 h4 h5 h6 h7 h8 h9 h10
 rfl
def qtv (a b:Event):Bool:=a.AtN == b.AtN&&(a.AtD == b.AtD&&(a.DurN == b.DurN&&(a.DurD == b.DurD&&(a.PitchStep == b.PitchStep&&(a.PitchOctave == b.PitchOctave&&(a.PitchAlter == b.PitchAlter&&(a.Rest == b.Rest&&(a.Sign == b.Sign&&a.Pass == b.Pass))))))))
def qbx:List Event->List Event->Bool
 | [],[]=>true
 | x::l,y::m=>qtv x y&&qbx l m
 | _,_=>false
theorem q6k {a b:Event}:qtv a b=true↔a=b:=by
 constructor
 .intro h
  simp only [qtv,zA,beq_iff_eq] at h
  obtain ⟨c1,c2,c3,c4,c5,c6,c7,c8,c9,c10⟩:=h
  exact q4e c1 c2 c3 c4 c5 c6 c7 c8 c9 c10
 .intro h
  subst h
  simp [qtv]
theorem qoq:∀ {a b:List Event},qbx a b=true↔a=b
 | [],[]=>by simp [qbx]
 | [],_::_=>by simp [qbx]
 | _::_,[]=>by simp [qbx]
 | x::l,y::m=>by simp only [qbx,zA,q6k,qoq (a:=l) (b:=m),List.cons.injEq]
theorem qw3 {a b:List Event} (h:a=b):qbx a b=true:=qoq.2 h
theorem q0f {a b:List Event} (h:a≠b):qbx a b=false:=by rw [<-Bool.not_eq_true,qoq];exact h
def ze2:List Event->Int->Int->Prop
 | [],_,_=>True
 | x::l,n,d=>x.AtN=n/\x.AtD=d/\qb4 x=0/\(ke n d x.DurN x.DurD).2.2=0/\ze2 l (ke n d x.DurN x.DurD).1 (ke n d x.DurN x.DurD).2.1
theorem q3q:∀ {l:List Event} {i n d:Int},(qcy l i n d).1=0->ze2 l n d
 | [],_,_,_,_=>trivial
 | x::l,i,n,d,h=>by
  simp only [qcy] at h
  by_cases h1:qdl x n d≠0
  .rw [zT h1] at h;exact absurd h h1
  .rw [zF h1] at h
   have h1':qdl x n d=0:=by omega
   unfold qdl at h1'
   by_cases h2:qb4 x≠0
   .rw [zT h2] at h1';exact absurd h1' h2
   .rw [zF h2] at h1'
    by_cases h3:x.AtN≠n∨x.AtD≠d
    .rw [zT h3] at h1';omega
    .rw [zF h3] at h1'
     have e1:x.AtN=n:=by omega
     have e2:x.AtD=d:=by omega
     rw [e1,e2] at h1' h
     exact ⟨e1,e2,by omega,h1',q3q h⟩
theorem zh6 {x:Event} (h:qb4 x=0):qj x.AtN x.AtD=0/\qj x.DurN x.DurD=0/\x.DurN≠0:=by
 unfold qb4 at h
 by_cases h1:qj x.AtN x.AtD≠0
 .rw [zT h1] at h;exact absurd h h1
 .rw [zF h1] at h
  by_cases h2:qj x.DurN x.DurD≠0
  .rw [zT h2] at h;exact absurd h h2
  .rw [zF h2] at h
   by_cases h3:x.DurN=0
   .rw [zT h3] at h;omega
   .exact ⟨by omega,by omega,h3⟩
def js (b:Int):Int:=if b<32∨126<b then 120 else if b=32 then 32 else if b=34 then 113 else if b=59 then 99 else 112
def kh (b:Int):Bool:=decide (33<=b)&&decide (b<=126)&&!decide (b=59)&&!decide (b=34)
def zr (b:Int):Bool:=decide (32<=b)&&decide (b<=126)&&!decide (b=34)
def kf (b:Int):Bool:=decide (b=32)
def ql9 (b:Int):Bool:=!decide (b=10)
def qaf (s:ZB):Bool:=s.all fun b=>zr b.toNat
theorem qk1 {b:Int}:kh b=true↔33<=b/\b<=126/\b≠59/\b≠34:=by simp [kh,and_assoc]
theorem q9c {b:Int}:kh b=false↔(b<33∨126<b∨b=59∨b=34):=by
 rw [<-Bool.not_eq_true,qk1];omega
theorem qsm {b:Int}:zr b=true↔32<=b/\b<=126/\b≠34:=by simp [zr,and_assoc]
theorem qsn {b:Int}:zr b=false↔(b<32∨126<b∨b=34):=by
 rw [<-Bool.not_eq_true,qsm];omega
theorem quu {b:Int}:kf b=true↔b=32:=by simp [kf]
theorem q72 {b:Int}:kf b=false↔b≠32:=by simp [kf]
theorem qzn {b:Int}:ql9 b=true↔b≠10:=by simp [ql9]
theorem qzo {b:Int}:ql9 b=false↔b=10:=by simp [ql9]
theorem qtm {b:Int}:js b=120↔b<32∨126<b:=by unfold js;split<;>(try split)<;>(try split)<;>(try split)<;>omega
theorem qpa {b:Int}:js b=113↔b=34:=by unfold js;split<;>(try split)<;>(try split)<;>(try split)<;>omega
theorem zaa {b:Int}:js b=112↔kh b=true:=by rw [qk1];unfold js;split<;>(try split)<;>(try split)<;>(try split)<;>omega
theorem qjs {s:ZB}:qaf s=true↔∀ i,0<=i->i<ln s->zr (bx s i)=true:=by
 simp only [qaf,List.all_eq_true]
 constructor
 .intro h i h0 h1
  exact h _ (qix h0 h1)
 .intro h b hb
  obtain ⟨i,h0,h1,rfl⟩:=q1v hb
  exact h i h0 h1
theorem qs0 {s:ZB} {i:Int} (h0:0<=i) (h1:i<ln s) (h:zr (bx s i)=false):qaf s=false:=by
 rw [<-Bool.not_eq_true,qjs]
 intro hq
 rw [hq i h0 h1] at h
 cases h
def q8h (l:ZB) (i:Int):Prop:=ln l<=i∨bx l i=32∨bx l i=59
instance (l:ZB) (i:Int):Decidable (q8h l i):=by unfold q8h;infer_instance
def zg (l:ZB) (a:Int):Int:=
 if (0<a/\bx l (a-1)≠32)∨ln l<=zj zr l (a+1)∨bx l (zj zr l (a+1))≠34∨¬ q8h l (zj zr l (a+1)+1) then -1 else zj zr l (a+1)+1
theorem qwr {l:ZB} {a:Int} (h0:0<=a) (h1:a<ln l):zg l a = -1∨(a+2<=zg l a/\zg l a<=ln l):=by
 unfold zg
 split
 .exact .inl rfl
 .have:=qb5 (p:=zr) (s:=l) (i:=a+1)
  right;omega
def zp (l:ZB) (from_:Int) (i:Int):List Word×Int:=
 if ln l<=zj kf l i∨bx l (zj kf l i)=59 then ([],-1)
 else if bx l (zj kf l i)=34 then
  (if h:zj kf l i<zg l (zj kf l i)/\zg l (zj kf l i)<=ln l then
    (if (zp l from_ (zg l (zj kf l i))).2<0 then (⟨from_+zj kf l i,sub l (zj kf l i+1) (zg l (zj kf l i)-1),true⟩::(zp l from_ (zg l (zj kf l i))).1,-1)
      else ([],(zp l from_ (zg l (zj kf l i))).2)) else ([],zj kf l i))
 else if kh (bx l (zj kf l i))=true then
  (if h:zj kf l i<zj kh l (zj kf l i)/\zj kh l (zj kf l i)<=ln l then
    (if (zp l from_ (zj kh l (zj kf l i))).2<0 then (⟨from_+zj kf l i,sub l (zj kf l i) (zj kh l (zj kf l i)),false⟩::(zp l from_ (zj kh l (zj kf l i))).1,-1)
      else ([],(zp l from_ (zj kh l (zj kf l i))).2)) else ([],zj kf l i))
 else ([],zj kf l i)
 termination_by (ln l-i).toNat
 decreasing_by all_goals (have:=qb5 (p:=kf) (s:=l) (i:=i);omega)
theorem zc8 {l:ZB} {f x:Int} (h0:0<=x) (h1:x<ln l) (h:bx l x=32):zp l f x=zp l f (x+1):=by
 rw [zp,qcc h0 h1 (quu.2 h)]
 exact (zp.eq_1 l f (x+1)).symm
theorem qgc {l:ZB} {x:Int} (h:ln l<=x∨bx l x≠32):zj kf l x=x:=
 qbu (h.imp id fun h=>q72.2 h)
theorem zky {l:ZB} {f x:Int} (h:ln l<=x∨bx l x=59):zp l f x=([],-1):=by
 rw [zp,qgc (by omega),zT h]
theorem zkx {l:ZB} {f x:Int} (h1:x<ln l) (h2:bx l x≠59) (h:(bx l x=34/\zg l x<0)∨(bx l x≠34/\bx l x≠32/\kh (bx l x)=false)) (h0:0<=x):zp l f x=([],x):=by
 rw [zp,qgc (by omega),zF (by omega)]
 rcases h with ⟨h3,h4⟩ | ⟨h3,h4,h5⟩
 .rw [zT h3,dif_neg (by omega)]
 .rw [zF h3,zF (by rw [h5];exact Bool.false_ne_true)]
theorem zda {l:ZB} {f x e:Int} (h0:0<=x) (h1:x<ln l) (h:bx l x=34) (he:zg l x=e) (h3:0<=e) :
  zp l f x=if (zp l f e).2<0 then (⟨f+x,sub l (x+1) (e-1),true⟩::(zp l f e).1,-1) else ([],(zp l f e).2):=by
 have hb:=qwr h0 h1
 rw [zp,qgc (by omega),zF (by omega),zT h,he,dif_pos (by omega)]
theorem zc9 {l:ZB} {f x e:Int} (h0:0<=x) (h1:x<ln l) (h:kh (bx l x)=true) (he:zj kh l x=e) :
  zp l f x=if (zp l f e).2<0 then (⟨f+x,sub l x e,false⟩::(zp l f e).1,-1) else ([],(zp l f e).2):=by
 have hp:=qk1.1 h
 have h2:=qcc h0 h1 h
 have h3:=qb5 (p:=kh) (s:=l) (i:=x+1)
 have h4:=qf1 (p:=kh) (s:=l) (i:=x) (by omega)
 rw [zp,qgc (by omega),zF (by omega),zF (by omega),zT h,he,dif_pos (by omega)]
def qap:List ZB->Int->List Row×Int×Int
 | [],_=>([],0,0)
 | l::ls,at_=>
  if 1000<ln l then ([],4,at_)
  else if 0<=(zp l at_ 0).2 then ([],3,at_+(zp l at_ 0).2)
  else if (qap ls (at_+ln l+1)).2.1=0 then (if (zp l at_ 0).1=[] then (qap ls (at_+ln l+1)).1 else ⟨at_,(zp l at_ 0).1⟩::(qap ls (at_+ln l+1)).1,0,0)
  else ([],(qap ls (at_+ln l+1)).2)
def qb (text:ZB):List Row×Int×Int:=if 20000<ln text then ([],4,20000) else qap (qa 10 text) 0
def qx (n:Int):ZB:=Lib.itoa n
def ze (n d:Int):ZB×Int:=if qj n d≠0 then ([],qj n d) else if d=1 then (qx n,0) else (qx n++[47]++qx d,0)
def qm6 (b:Int):Bool:=decide (48<=b)&&decide (b<=57)
def qas (s:ZB):Bool:=s.all fun b=>qm6 b.toNat
def qaj:ZB->Int->Int
 | [],n=>n
 | b::l,n=>qaj l (10 * n+((b.toNat:Int)-48))
def qxz:ZB->Int->Int×Bool
 | [],n=>(n,true)
 | b::l,n=>if qm6 b.toNat=true then qxz l (if 288230376151711744<10 * n+((b.toNat:Int)-48) then 288230376151711744 else 10 * n+((b.toNat:Int)-48)) else (0,false)
def qkp (s:ZB):Prop:=s=[]∨(bx s 0=48/\1<ln s)
instance (s:ZB):Decidable (qkp s):=by unfold qkp;infer_instance
def ku (s:ZB):Int×Bool:=if qkp s then (0,false) else qxz s 0
def kv (s:ZB):Bool:=!decide (qkp s)&&qas s
def zl (s:ZB) (most:Int):Int×Bool:=if qaj s 0<=most then (qaj s 0,true) else (0,false)
def q5e (b:Int):Bool:=!decide (b=47)
def qbb (s:ZB):Int:=zj q5e s 0
def qd (s:ZB):Int×Int×Int:=
 if kv (upto s (qbb s))=false∨(qbb s<ln s/\kv (fr s (qbb s+1))=false) then (0,0,3)
 else if 1099511627776<qaj (upto s (qbb s)) 0 then (0,0,4)
 else if ln s<=qbb s then (qaj (upto s (qbb s)) 0,1,0)
 else if 1048576<qaj (fr s (qbb s+1)) 0 then (0,0,4)
 else if qaj (fr s (qbb s+1)) 0<2∨1<jg (qaj (upto s (qbb s)) 0) (qaj (fr s (qbb s+1)) 0) then (0,0,3)
 else (qaj (upto s (qbb s)) 0,qaj (fr s (qbb s+1)) 0,0)
abbrev qbr:ZB:=[99,100,101,102,103,97,98]
def zct (a:Int):ZB:=if a=0 then [] else if a<0 then [98] else [35]
def qp7 (st oc al:Int):ZB:=[qbr.getD st.toNat 0]++zct al++[UInt8.ofNat (48+oc.toNat)]
def zn (st oc al:Int):ZB×Int:=if kg st oc al≠0 then ([],kg st oc al) else (qp7 st oc al,0)
abbrev qce:ZB:=[98,32,35]
def qui (s:ZB):Int:=if ln s≠3 then 0 else if qf qce (bx s 1)<0∨qf qce (bx s 1)=1 then 2 else qf qce (bx s 1)-1
def qo (s:ZB):Int×Int×Int×Int:=
 if ln s<2∨3<ln s∨qf qbr (bx s 0)<0∨bx s (ln s-1)<48∨56<bx s (ln s-1)∨qui s=2 then (0,0,0,3)
 else (qf qbr (bx s 0),bx s (ln s-1)-48,qui s,0)
def qf9 (s:ZB) (i n:Int):Int×Bool:=
 if h:0<=i/\i<ln s then (if qm6 (bx s i)=true then (if 10 * n+(bx s i-48) > 1099511627776 then (0,false) else qf9 s (i+1) (10 * n+(bx s i-48))) else (0,false)) else (n,true)
 termination_by (ln s-i).toNat
 decreasing_by omega
def zb (s:ZB):Int×Bool:=if ln s=0∨(bx s 0=48/\1<ln s) then (0,false) else qf9 s 0 0
def qon (x:Event):ZB:=
 (if x.Rest=true then [114,101,115,116,32] else [110,111,116,101,32]++(zn x.PitchStep x.PitchOctave x.PitchAlter).1++[32])++(ze x.DurN x.DurD).1++[32]++qx x.Sign++[32]++qx x.Pass++[10]
def qj6:List Event->ZB->ZB×Int
 | [],acc=>(acc,0)
 | x::l,acc=>if 20000<ln (acc++qon x) then ([],4) else qj6 l (acc++qon x)
def kp (l:List Event):ZB×Int:=if (z8 l).1≠0 then ([],(z8 l).1) else qj6 l []
def qlx (l:List Event):Prop:=ln l<=60/\∀ x ∈ l,x.Sign<=9223372036854775807/\x.Pass<=9223372036854775807
abbrev zqa:ZB:=[114,101,115,116]
abbrev zp5:ZB:=[110,111,116,101]
def isR (ws:List Word):Bool:=decide ((ix ws 0).Text=zqa)
def qh4 (ws:List Word):Prop:=0<ln ws/\ln ws<=1000/\∀ w ∈ ws,ln w.Text<=1000
def qdq (ws:List Word):Prop:=(isR ws=true/\ln ws≠4)∨(isR ws=false/\(ln ws≠5∨(ix ws 0).Text≠zp5))∨ws.any (·.Quoted)=true
instance (ws:List Word):Decidable (qdq ws):=by unfold qdq;infer_instance
def kD (ws:List Word):Int:=if isR ws=true then 1 else 2
def qbn (ws:List Word):Int:=
 if qdq ws then 0 else if isR ws=false/\(qo (ix ws 1).Text).2.2.2≠0 then 1
 else if (qd (ix ws (kD ws)).Text).2.2≠0∨(qd (ix ws (kD ws)).Text).1=0 then kD ws
 else if (zb (ix ws (kD ws+1)).Text).2=false then kD ws+1 else if (zb (ix ws (kD ws+2)).Text).2=false then kD ws+2 else -1
def qok (ws:List Word) (k:Int):Prop:=qbn ws = -1∨k<qbn ws
instance (ws:List Word) (k:Int):Decidable (qok ws k):=by unfold qok;infer_instance
def zu (ws:List Word):Event where
 AtN:=0
 AtD:=0
 DurN:=if qok ws (kD ws) then (qd (ix ws (kD ws)).Text).1 else 0
 DurD:=if qok ws (kD ws) then (qd (ix ws (kD ws)).Text).2.1 else 0
 PitchStep:=if isR ws=false/\qok ws 1 then (qo (ix ws 1).Text).1 else 0
 PitchOctave:=if isR ws=false/\qok ws 1 then (qo (ix ws 1).Text).2.1 else 0
 PitchAlter:=if isR ws=false/\qok ws 1 then (qo (ix ws 1).Text).2.2.1 else 0
 Rest:=isR ws
 Sign:=if qok ws (kD ws+1) then (zb (ix ws (kD ws+1)).Text).1 else 0
 Pass:=if qok ws (kD ws+2) then (zb (ix ws (kD ws+2)).Text).1 else 0
def jh (ws:List Word):Event:=if qbn ws = -1 then zu ws else ⟨0,0,0,0,0,0,0,false,0,0⟩
def qom (ws:List Word):Int:=if qbn ws = -1 then -1 else (ix ws (qbn ws)).At
def qg6:List Row->Int->Int->Int->List Event->List Event×Int×Int
 | [],_,_,_,acc=>(acc,0,0)
 | r::rs,i,n,d,acc=>
  if i=2000 then ([],11,(ix r.Words 0).At) else if qbn r.Words≠-1 then ([],3,(ix r.Words (qbn r.Words)).At)
  else if (ke n d (zu r.Words).DurN (zu r.Words).DurD).2.2≠0 then ([],4,(ix r.Words 0).At)
  else qg6 rs (i+1) (ke n d (zu r.Words).DurN (zu r.Words).DurD).1 (ke n d (zu r.Words).DurN (zu r.Words).DurD).2.1 (acc++[{zu r.Words with AtN:=n,AtD:=d}])
def qai (t:ZB):List Event×Int×Int:=if (qb t).2.1≠0 then ([],(qb t).2) else qg6 (qb t).1 0 0 1 []
def qkr (a0 a1:Int) (x y:Int):Prop:=0<=x/\0<=y/\jg x y=jg a0 a1
def qjo (_ _:Int) (_ y:Int):Nat:=y.toNat
def qht (a0:List Time) (i:Int):Prop:=0<=i/\i<=ln a0/\qgg (fr a0 i)=qgg a0
def qg0 (a0:List Time) (i:Int):Nat:=(ln a0-i).toNat
def qks (a0 a1 a2 a3 _ _ _:Int) (_:Bool) (_ _:Int) (i:Int):Prop:=0<=i/\i<=2/\(1<=i->qj a0 a1=0)/\(2<=i->qj a2 a3=0)
def qhb (_ _ _ _ _ _ _:Int) (_:Bool) (_ _:Int) (i:Int):Nat:=(2-i).toNat
def qhq (a0:List Event) (i n d:Int):Prop:=0<=i/\i<=ln a0/\qcy (fr a0 i) i n d=qcy a0 0 0 1
def qgx (a0:List Event) (i _ _:Int):Nat:=(ln a0-i).toNat
def qgt (a0:List Event) (i n d:Int):Prop:=0<=i/\i<=ln a0/\qcy (fr a0 i) i n d=qcy a0 0 0 1
def qft (a0:List Event) (i _ _:Int):Nat:=(ln a0-i).toNat
def qd4 (a0 a1:List Event) (i:Int):Prop:=0<=i/\i<=ln a0/\∀ j,0<=j->j<i->ix a0 j=ix a1 j
def qdj (a0 _:List Event) (i:Int):Nat:=(ln a0-i).toNat
def qjb (out:List Word) (r:List Word×Int):List Word×Int:=if r.2<0 then (out++r.1,-1) else ([],r.2)
def qga (out:List Row) (r:List Row×Int×Int):List Row×Int×Int:=if r.2.1=0 then (out++r.1,0,0) else ([],r.2)
def qhu (a0:ZB) (x:Int):Prop:=0<=x/\x<=ln a0/\∀ j,0<=j->j<x->zr (bx a0 j)=true
def qg1 (a0:ZB) (x:Int):Nat:=(ln a0-x).toNat
def kk (a0 a1:ZB) (_ _:Int) (x:ZB) (i:Int) (l:List ZB):Prop:=0<=i/\ln l=j5 a0 (bx a1 0)+1/\i+ln (qa (bx a1 0) x)=j5 a0 (bx a1 0)+1/\upto l i++qa (bx a1 0) x=qa (bx a1 0) a0/\ln x<=ln a0
def kj (a0 a1:ZB) (_ _:Int) (_:ZB) (i:Int) (_:List ZB):Nat:=(j5 a0 (bx a1 0)+1-i).toNat
def qbj (a0:ZB) (a1:Int) (x:Int):Prop:=a1+1<=x/\x<=ln a0/\zj zr a0 (a1+1)=zj zr a0 x
def qcn (a0:ZB) (_:Int) (x:Int):Nat:=(ln a0-x).toNat
def qds (a0:ZB) (a1:Int) (out:List Word) (x:Int):Prop:=0<=x/\x<=ln a0/\ln out<=x/\zp a0 a1 0=qjb out (zp a0 a1 x)
def qbk (a0:ZB) (_:Int) (_:List Word) (x:Int):Nat:=(ln a0-x).toNat
def qiv (a0:ZB) (_:Int) (y:Int) (x:Int):Prop:=x<=y/\y<=ln a0/\zj kh a0 x=zj kh a0 y
def qjn (a0:ZB) (_:Int) (y:Int) (_:Int):Nat:=(ln a0-y).toNat
def qct (a0:ZB) (out:List Row) (x:Int):Prop:=0<=x/\x<=ln a0+1/\ln out<=x/\qap (qa 10 a0) 0=if x<=ln a0 then qga out (qap (qa 10 (fr a0 x)) x) else (out,0,0)
def qav (a0:ZB) (_:List Row) (x:Int):Nat:=(ln a0+1-x).toNat
def qg8 (a0:ZB) (y:Int) (x:Int):Prop:=x<=y/\y<=ln a0/\zj ql9 a0 x=zj ql9 a0 y
def qhy (a0:ZB) (y:Int) (_:Int):Nat:=(ln a0-y).toNat
def qal (a0:ZB) (out:List Row) (at_:Int) (k:Int):Prop:=0<=k/\k<=ln (qa 10 a0)/\0<=at_/\at_<=1001 * k/\ln out<=k/\qap (qa 10 a0) 0=qga out (qap (fr (qa 10 a0) k) at_)
def z6 (a0:ZB) (_:List Row) (_:Int) (k:Int):Nat:=(ln (qa 10 a0)-k).toNat
def zc (_:ZB) (out:List Word) (x:Int) (begin:Int) (line:ZB):Prop:=0<=x/\x<=ln line/\ln out<=x/\zp line begin 0=qjb out (zp line begin x)
def qe (_:ZB) (_:List Word) (x:Int) (_:Int) (line:ZB):Nat:=(ln line-x).toNat
def qg9 (_:ZB) (y:Int) (line:ZB) (x:Int):Prop:=x<=y/\y<=ln line/\zj kf line x=zj kf line y
def qhz (_:ZB) (y:Int) (line:ZB) (_:Int):Nat:=(ln line-y).toNat
def qcu (_:ZB) (y:Int) (line:ZB) (x:Int):Prop:=x<=y/\y<=ln line/\zj kh line x=zj kh line y
def qd6 (_:ZB) (y:Int) (line:ZB) (_:Int):Nat:=(ln line-y).toNat
def ju (a n:Int) (s:ZB):Prop:=0<=n/\n<=a/\(s=[]/\n=a∨s≠[]/\(0<n->qx a=qx n++s)/\(n=0->qx a=s))
def qa3 (_ n:Int) (s:ZB):Nat:=2 * n.toNat+if s=[] then 1 else 0
def je (a:ZB) (n:Int) (s:ZB) (i:Int):Prop:=s=a/\0<=i/\i<=ln a/\0<=n/\n<=288230376151711744/\qxz (fr a i) n=qxz a 0
def zy (_:ZB) (_:Int) (s:ZB) (i:Int):Nat:=(ln s-i).toNat
def qhs (a x y:ZB) (b:Bool) (s:ZB) (i:Int):Prop:=x=a/\y=[]/\b=false/\s=a/\0<=i/\i<=ln a/\qbb a=zj q5e a i/\(∀ j,0<=j->j<i->bx a j<=57)
def qgz (_ _ _:ZB) (_:Bool) (s:ZB) (i:Int):Nat:=(ln s-i).toNat
def qgw (a:ZB) (i:Int):Prop:=0<=i/\i<=ln a/\qas (fr a i)=qas a
def qfw (a:ZB) (i:Int):Nat:=(ln a-i).toNat
def qfq (a:ZB) (most n i:Int):Prop:=0<=i/\i<=ln a/\0<=n/\n<=most/\qaj (fr a i) n=qaj a 0
def qet (a:ZB) (_ _ i:Int):Nat:=(ln a-i).toNat
def qej (a:ZB) (c i:Int):Prop:=0<=i/\i<=ln a/\0<=c/\((c=ln a/\qbb a=zj q5e a i)∨(c<ln a/\c<i/\qbb a=c))
def qbs (a:ZB) (_ i:Int):Nat:=(ln a-i).toNat
def zhu (s:ZB) (n al:Int):Prop:=∀ m b,0<=m->m<=62->-1<=b->b<=1->(m<n∨(m=n/\b<al))->qp7 (Int.tmod m 7) (Int.tdiv m 7) b≠s
def qgv (s:ZB) (n:Int):Prop:=0<=n/\n<=63/\zhu s n (-1)
def qfv (_:ZB) (n:Int):Nat:=(63-n).toNat
def qbi (s:ZB) (al n:Int):Prop:=0<=n/\n<=62/\-1<=al/\al<=2/\zhu s n al
def jd (_:ZB) (al _:Int):Nat:=(2-al).toNat
def qbh (s:ZB) (n i:Int):Prop:=0<=i/\i<=ln s/\0<=n/\n<=1099511627776/\qf9 s i n=zb s
def qcm (s:ZB) (_ i:Int):Nat:=(ln s-i).toNat
def qbg (s:ZB) (n i:Int):Prop:=0<=i/\i<=ln s/\0<=n/\n<=1099511627776/\qf9 s i n=zb s
def qcl (s:ZB) (_ i:Int):Nat:=(ln s-i).toNat
def qb3 (l:List Event) (i:Int) (s:ZB):Prop:=0<=i/\i<=ln l/\ln s<=20000/\qj6 (fr l i) s=qj6 l []
def jn (l:List Event) (i:Int) (_:ZB):Nat:=(ln l-i).toNat
def qfp (l:List Event) (s:ZB) (i:Int):Prop:=0<=i/\i<=ln l/\ln s<=20000/\qj6 (fr l i) s=qj6 l []
def qdc (l:List Event) (_:ZB) (i:Int):Nat:=(ln l-i).toNat
def qad (ws:List Word) (i:Int):Prop:=0<=i/\i<=ln ws/\∀ j,0<=j->j<i->(ix ws j).Quoted=false
def qbl (ws:List Word) (i:Int):Nat:=(ln ws-i).toNat
def qiw (_:Int) (ws:List Word) (i:Int):Prop:=0<=i/\i<=ln ws/\∀ j,0<=j->j<i->(ix ws j).Quoted=false
def qjp (_:Int) (ws:List Word) (i:Int):Nat:=(ln ws-i).toNat
def qhr (t:ZB) (l:List Event) (i n d:Int):Prop:=0<=i/\i<=ln (qb t).1/\ln l<=i/\i<=2000/\qj n d=0/\qg6 (fr (qb t).1 i) i n d l=qg6 (qb t).1 0 0 1 []
def qgy (t:ZB) (_:List Event) (i _ _:Int):Nat:=(ln (qb t).1-i).toNat
def qgu (t:ZB) (l:List Event) (i n d:Int):Prop:=0<=i/\i<=ln (qb t).1/\ln l<=i/\i<=2000/\qj n d=0/\qg6 (fr (qb t).1 i) i n d l=qg6 (qb t).1 0 0 1 []
def qfu (t:ZB) (_:List Event) (i _ _:Int):Nat:=(ln (qb t).1-i).toNat
theorem qin {b:Int}:qm6 b=true↔48<=b/\b<=57:=by simp [qm6]
theorem qn1 {n:Int} (h0:0<=n) (h:n<=9):qx n=[UInt8.ofNat (48+n.toNat)]:=by
 unfold qx Lib.itoa
 rw [zF (by omega),Lib.decDigits,dif_pos (by omega)]
theorem q3z {n:Int} (h:9<n):qx n=qx (Int.tdiv n 10)++[UInt8.ofNat (48+(Int.tmod n 10).toNat)]:=by
 have e1:Int.tdiv n 10=n / 10:=Int.tdiv_eq_ediv_of_nonneg (by omega)
 have e2:Int.tmod n 10=n % 10:=Int.tmod_eq_emod_of_nonneg (by omega)
 rw [e1,e2]
 unfold qx Lib.itoa
 rw [zF (by omega),zF (by omega),Lib.decDigits,dif_neg (by omega)]
 have q1:n.toNat / 10=(n / 10).toNat:=by omega
 have q2:n.toNat % 10=(n % 10).toNat:=by omega
 rw [q1,q2]
theorem qfi {n:Int} (h0:0<=n) (h:n<=9223372036854775807):ln (qx n)<=21:=by
 have:=Lib.itoa_length_le n (by omega) h
 unfold qx
 simp only [ln]
 omega
theorem qpf {n:Int} (h:0<=n):0<=Int.tmod n 10/\Int.tmod n 10<=9/\0<=Int.tdiv n 10/\Int.tdiv n 10<=n/\(0<n->Int.tdiv n 10<n)/\(9<n->0<Int.tdiv n 10)/\(n<=9->Int.tdiv n 10=0)/\(n<=9->Int.tmod n 10=n):=by
 have e1:Int.tdiv n 10=n / 10:=Int.tdiv_eq_ediv_of_nonneg (by omega)
 have e2:Int.tmod n 10=n % 10:=Int.tmod_eq_emod_of_nonneg (by omega)
 omega
theorem q1p {s:ZB} (h:s≠[]):0<ln s:=by
 cases s with
 | nil=>exact absurd rfl h
 | cons a l=>rw [qau];have:=zm l;omega
theorem qyy:qas []=true:=rfl
theorem qkh {b:UInt8} {l:ZB}:qas (b::l)=(qm6 b.toNat&&qas l):=rfl
theorem zdb {s:ZB} {i:Int} (h0:0<=i) (h:i<ln s) (hd:48<=bx s i/\bx s i<=57):qas (fr s (i+1))=qas (fr s i):=by
 rw [qd1 h0 h,qkh]
 have:qm6 (((ix s i).toNat:Nat):Int)=true:=qin.2 hd
 rw [this,Bool.true_and]
theorem qvf {s:ZB} {i:Int} (h0:0<=i) (h:i<ln s) (hd:bx s i<48∨57<bx s i):qas (fr s i)=false:=by
 rw [qd1 h0 h,qkh]
 have:qm6 (((ix s i).toNat:Nat):Int)=false:=by
  rw [<-Bool.not_eq_true,qin]
  have e:bx s i=((ix s i).toNat:Int):=rfl
  omega
 rw [this,Bool.false_and]
theorem zjb {s:ZB} {i n:Int} (h0:0<=i) (h:i<ln s):qaj (fr s i) n=qaj (fr s (i+1)) (10 * n+(bx s i-48)):=by
 rw [qd1 h0 h];rfl
theorem zmr {s:ZB} {i n:Int} (h:ln s<=i):qaj (fr s i) n=n:=by rw [qkn h];rfl
theorem qmn:∀ {s:ZB} {n:Int},qas s=true->0<=n->n<=qaj s n
 | [],n,_,_=>zK _
 | b::l,n,h,h0=>by
  rw [qkh,zA] at h
  have hd:=qin.1 h.1
  have:=qmn (s:=l) (n:=10 * n+((b.toNat:Int)-48)) h.2 (by omega)
  show n<=qaj l _
  omega
theorem q6y:∀ {s:ZB} {n m:Int},n<=m->qaj s n<=qaj s m
 | [],n,m,h=>h
 | b::l,n,m,h=>q6y (s:=l) (by omega)
theorem zk1 {s:ZB} {i:Int} (h:qas s=true):qas (fr s i)=true:=by
 simp only [qas,List.all_eq_true] at h ⊢
 exact fun x hx=>h x (List.mem_of_mem_drop hx)
theorem zk0 {s:ZB} {i:Int} (h:qas s=true) (h0:0<=i) (h1:i<ln s):48<=bx s i/\bx s i<=57:=by
 simp only [qas,List.all_eq_true] at h
 exact qin.1 (h _ (qix h0 h1))
theorem qpz:∀ {s:ZB} {n:Int},0<=n->n<=288230376151711744->qxz s n=if qas s=true then (if 288230376151711744<qaj s n then 288230376151711744 else qaj s n,true) else (0,false)
 | [],n,h0,h1=>by rw [zT qyy];show (n,true)=(if 288230376151711744<n then _ else n,true);rw [zF (by omega)]
 | b::l,n,h0,h1=>by
  rw [qkh]
  simp only [qxz]
  by_cases hd:qm6 b.toNat=true
  .rw [zT hd,hd,Bool.true_and]
   have hb:=qin.1 hd
   by_cases hc:288230376151711744<10 * n+((b.toNat:Int)-48)
   .rw [zT hc,qpz (by omega) (zK _)]
    by_cases hl:qas l=true
    .rw [zT hl,zT hl]
     have g1:=qmn (s:=l) (n:=288230376151711744) hl (by omega)
     have g2:=q6y (s:=l) (Int.le_of_lt hc)
     have e:qaj (b::l) n=qaj l (10 * n+((b.toNat:Int)-48)):=rfl
     rw [e,zT (show 288230376151711744<qaj l (10 * n+((b.toNat:Int)-48)) by have:=qmn (s:=l) (n:=10 * n+((b.toNat:Int)-48)) hl (by omega);omega)]
     split
     .rfl
     .rw [show qaj l 288230376151711744=288230376151711744 by omega]
    .rw [zF hl,zF hl]
   .rw [zF hc,qpz (by omega) (by omega)]
    rfl
  .rw [zF hd]
   have:qm6 (b.toNat:Int)=false:=by simpa using hd
   rw [this,Bool.false_and,zF (by simp)]
theorem za7 (s:ZB):ku s=if kv s=true then (if 288230376151711744<qaj s 0 then 288230376151711744 else qaj s 0,true) else (0,false):=by
 unfold ku kv
 by_cases h:qkp s
 .rw [zT h]
  simp [h]
 .rw [zF h,qpz (zK _) (by omega)]
  simp [h]
theorem qdu {s:ZB} (h:kv s=true):qas s=true:=by
 unfold kv at h
 simp only [zA] at h
 exact h.2
theorem qk4 {s:ZB} {i:Int} (h0:0<=i) (h:i<ln s):(bx s i<=127/\jx s i=bx s i/\qfc s i=i+1)∨(128<=bx s i/\128<=jx s i):=by
 have hi:i.toNat<s.length:=by simp only [ln] at h;omega
 have hg:((⟨s.toArray⟩:ByteArray).get! i.toNat).toNat=(s.getD i.toNat 0).toNat:=by
  simp [ByteArray.get!,List.getD_eq_getElem?_getD,hi]
 by_cases hb:bx s i<=127
 .left
  have hb':(s.getD i.toNat 0).toNat<128:=by unfold bx at hb;omega
  have e:Utf8.decode ⟨s.toArray⟩ i.toNat=((s.getD i.toNat 0).toNat,1):=by
   unfold Utf8.decode
   simp only [Nat.add_zero,hg]
   rw [zT hb']
  unfold jx qfc
  rw [e]
  exact ⟨hb,rfl,rfl⟩
 .right
  have hb':¬ (s.getD i.toNat 0).toNat<128:=by unfold bx at hb;omega
  refine ⟨by omega,?_⟩
  have:128<=(Utf8.decode ⟨s.toArray⟩ i.toNat).1:=by
   unfold Utf8.decode
   simp only [Nat.add_zero,hg]
   rw [zF hb']
   have hr:(128:Nat)<=Utf8.runeError:=by decide
   split
   .split
    .assumption
    .exact hr
   .split
    .split
     .rename_i hc
      simp only [zA,decide_eq_true_eq,ge_iff_le] at hc
      exact zR (by decide) hc.1
     .exact hr
    .split
     .split
      .rename_i hc
       simp only [zA,decide_eq_true_eq,ge_iff_le] at hc
       exact zR (by decide) hc.1
      .exact hr
     .exact hr
  unfold jx
  omega
theorem qys:∀ {l:List Event} {n d:Int},ze2 l n d->∀ x ∈ l,qb4 x=0
 | [],_,_,_,x,hx=>by cases hx
 | y::l,n,d,⟨_,_,h1,_,h2⟩,x,hx=>by
  rcases zD.1 hx with rfl | hx
  .exact h1
  .exact qys h2 x hx
theorem zex {l:List Event} (h:(z8 l).1=0):∀ x ∈ l,qb4 x=0:=by
 unfold z8 at h
 split at h
 .simp at h
 .exact qys (q3q h)
theorem zd8 {x:Event} (h:qb4 x=0):qj x.DurN x.DurD=0/\(x.Rest=false->kg x.PitchStep x.PitchOctave x.PitchAlter=0)/\0<=x.Sign/\0<=x.Pass:=by
 have h2:=(zh6 h).2.1
 unfold qb4 at h
 rw [zF (by have:=(zh6 (x:=x) (by unfold qb4;exact h)).1;omega),zF (by omega)] at h
 split at h
 .omega
 .split at h
  .omega
  .split at h
   .rename_i hc;exact absurd h hc.2
   .rename_i hc
    split at h
    .omega
    .refine ⟨h2,fun hr=>?_,by omega,by omega⟩
     by_cases hz:kg x.PitchStep x.PitchOctave x.PitchAlter=0
     .exact hz
     .exact absurd ⟨hr,hz⟩ hc
theorem zev (n d:Int):ln (ze n d).1<=43:=by
 unfold ze
 by_cases h:qj n d=0
 .have hb:=qj3 h
  have l1:=qfi (n:=n) hb.1 (by omega)
  have l2:=qfi (n:=d) (by omega) (by omega)
  rw [zF (by omega)]
  split
  .show ln (qx n)<=43;omega
  .show ln (qx n++[47]++qx d)<=43
   rw [qzh,qjl];omega
 .rw [zT h];show (0:Int)<=43;decide
theorem zeu (a b c:Int):ln (zn a b c).1<=3:=by
 unfold zn
 split
 .show (0:Int)<=3;decide
 .show ln (qp7 a b c)<=3
  unfold qp7 zct
  split
  .simp [ln]
  .split<;>simp [ln]
theorem q51 {l:List Event} {i:Int} {s:ZB} (h0:0<=i) (h:i<ln l):qj6 (fr l i) s=if 20000<ln (s++qon (ix l i)) then ([],4) else qj6 (fr l (i+1)) (s++qon (ix l i)):=by
 rw [qd1 h0 h];rfl
theorem zl3 {l:List Event} {i:Int} {s:ZB} (h:ln l<=i):qj6 (fr l i) s=(s,0):=by rw [qkn h];rfl
theorem q0l {l:List Event} (h:(z8 l).1≠0):kp l=([],(z8 l).1):=by unfold kp;rw [zT h]
theorem q6s {l:List Event} (h:(z8 l).1=0):kp l=qj6 l []:=by unfold kp;rw [zF (by omega)]
end Go.Proofs.YtpbliaccnbgapaaGreatDoor
