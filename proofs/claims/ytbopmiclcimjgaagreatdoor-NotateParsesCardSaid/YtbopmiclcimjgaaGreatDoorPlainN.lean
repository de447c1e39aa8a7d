import Derived.Test.YtbopmiclcimjgaaGreatDoorOksF
import Derived.Test.YtbopmiclcimjgaaGreatDoorOksN
namespace Go.Proofs.YtbopmiclcimjgaaGreatDoor
open Go Go.E2 Go.E3
set_option maxRecDepth 100000
section
variable {w:ZB} {i:Int} {c:UInt8}
theorem zby (h0:0<=i):0<ln (fr w i)↔i<ln w:=by simp only [ln,fr,List.length_drop];omega
theorem qdw (h0:0<=i):tk w i c=true↔i<ln w/\bx w i=c.toNat:=by
 have e:bx (fr w i) 0=bx w i:=by rw [qmc h0 (Int.le_refl _),Int.add_zero]
 simp only [tk,preB,zA,decide_eq_true_eq]
 rw [zq8,e,zby h0]
 constructor
 .exact fun h=>h.2
 .intro h
  refine ⟨?_,h⟩
  have:=(zby (w:=w) h0).2 h.1
  rw [zpf];omega
theorem qe9 {k:Int} (h0:0<=i) (hk:k=c.toNat):qu (fr w i) k=(fr w (qdm w i c).2,(qdm w i c).1):=by
 have e:bx (fr w i) 0=bx w i:=by rw [qmc h0 (Int.le_refl _),Int.add_zero]
 rw [qu,e]
 simp only [zby (w:=w) h0]
 cases h:tk w i c with
 | true=>
  rw [if_pos (by rw [hk];exact (qdw h0).1 h),qdm,if_pos h,q5m h0 (by decide)]
 | false=>
  rw [if_neg (by rw [hk,<-qdw h0,h];simp),qdm,if_neg (by rw [h];simp)]
theorem zaq (h0:0<=i) (h:i<=ln w):i<=(qdm w i c).2/\(qdm w i c).2<=ln w:=by
 unfold qdm
 split
 .rename_i h1;have:=(qdw h0).1 h1;exact ⟨by simp only;omega,by simp only;omega⟩
 .exact ⟨Int.le_refl _,h⟩
theorem zpq (h0:0<=i):qop (fr w i)=((qke w i).1,fr w (qke w i).2):=by
 unfold qop qke
 rw [qe9 (c:=98) (k:=98) h0 rfl,qe9 (c:=35) (k:=35) h0 rfl,qe9 (c:=110) (k:=110) h0 rfl]
 unfold qdm
 cases h1:tk w i 98<;>cases h2:tk w i 35<;>cases h3:tk w i 110<;>simp
theorem zg6 (h0:0<=i) (h:i<=ln w):i<=(qke w i).2/\(qke w i).2<=ln w:=by
 unfold qke
 (repeat' split)<;>(simp only)<;>first | omega | (rename_i h1;have:=(qdw h0).1 h1;omega)
theorem zrx (h0:0<=i):qsy (fr w i)=((qko w i).1,fr w (qko w i).2):=by
 unfold qsy qko
 rw [qe9 (c:=94) (k:=94) h0 rfl,qe9 (c:=118) (k:=118) h0 rfl,qe9 (c:=62) (k:=62) h0 rfl]
 unfold qdm
 cases h1:tk w i 94<;>cases h2:tk w i 118<;>cases h3:tk w i 62<;>simp
theorem zrw (h0:0<=i) (h:i<=ln w):i<=(qko w i).2/\(qko w i).2<=ln w:=by
 unfold qko
 (repeat' split)<;>(simp only)<;>first | omega | (rename_i h1;have:=(qdw h0).1 h1;omega)
theorem zij (h0:0<=i) (h:i<=ln w):fr w i=[]↔i=ln w:=by
 constructor
 .intro h1
  have:=qmu h0 h
  rw [h1,qhv] at this
  omega
 .intro h1;exact qla (by omega)
theorem ziq:∀ (m:Nat) (s:ZB) (j:Int),1<=j->(ln s-j).toNat=m->hdE s j=zg qeo s j:=by
 intro m
 induction m with
 | zero=>intro s j h1 hm;rw [qh7 (.inl (by omega)),qbl (.inl (by omega))]
 | succ m ih=>
  intro s j h1 hm
  by_cases hd:48<=bx s j/\bx s j<=57
  .rw [q5t (by omega) (by omega) (.inl hd),qb6 (by omega) (by omega) (by simp [qeo,hd.1,hd.2])]
   exact ih s (j+1) (by omega) (by omega)
  .rw [qh7 (.inr ⟨hd,by omega⟩),qbl (.inr (by simp only [qeo,Bool.and_eq_false_iff,decide_eq_false_iff_not];omega))]
theorem zky {j:Int} (h0:0<=i) (hi:i<=ln w) (hj:0<=j) (h:i+j<=ln w):zg qeo w (i+j)=i+zg qeo (fr w i) j:=by
 have hl:=qmu h0 hi
 have g1:j<=zg qeo (fr w i) j:=qbo
 have g2:zg qeo (fr w i) j<=ln (fr w i):=qez (by omega)
 refine qq1 (by omega) (by omega) (by omega) ?_ ?_
 .intro x h1 h2
  have:=qst (p:=qeo) (s:=fr w i) (i:=j) (x-i) (by omega) (by omega)
  rw [qmc h0 (by omega)] at this
  rw [show x=i+(x-i) by omega];exact this
 .by_cases he:zg qeo (fr w i) j<ln (fr w i)
  .right
   have:=qsu (p:=qeo) hj he
   rw [qmc h0 (by omega)] at this
   exact this
  .left;omega
theorem zo5 (h0:0<=i) (hi:i<=ln w):i+hdE (fr w i) 0=dgE w (qg7 w i).2:=by
 have e:bx (fr w i) 0=bx w i:=by rw [qmc h0 (Int.le_refl _),Int.add_zero]
 cases h:tk w i 45 with
 | true=>
  have h1:=(qdw h0).1 h
  have hl:=qmu h0 hi
  rw [qg7,if_pos h,q5t (Int.le_refl _) (by omega) (.inr ⟨rfl,by rw [e];exact h1.2⟩),ziq _ _ _ (by omega) rfl,dgE]
  exact (zky h0 hi (by omega) (by omega)).symm
 | false=>
  rw [qg7,if_neg (by rw [h];simp),dgE]
  have h1:¬ (0<ln (fr w i)/\bx (fr w i) 0=45):=by
   rw [e,zby h0];intro h1
   rw [(qdw (c:=45) h0).2 h1] at h;cases h
  have h2:=zky (w:=w) (j:=0) h0 hi (Int.le_refl _) (by omega)
  rw [Int.add_zero] at h2
  rw [h2]
  congr 1
  by_cases hd:0<ln (fr w i)/\48<=bx (fr w i) 0/\bx (fr w i) 0<=57
  .rw [q5t (Int.le_refl _) hd.1 (.inl hd.2),qb6 (Int.le_refl _) hd.1 (by simp [qeo,hd.2.1,hd.2.2])]
   exact ziq _ _ _ (by decide) rfl
  .by_cases hl:ln (fr w i)<=0
   .rw [qh7 (.inl hl),qbl (.inl hl)]
   .rw [qh7 (.inr ⟨fun x=>hd ⟨by omega,x⟩,fun x=>h1 ⟨by omega,x.2⟩⟩),qbl (.inr (by simp only [qeo,Bool.and_eq_false_iff,decide_eq_false_iff_not];omega))]
theorem zqw (h0:0<=i) (h:i<=ln w):i<=(qg7 w i).2/\(qg7 w i).2<=ln w:=by
 unfold qg7
 split
 .rename_i h1;have:=(qdw h0).1 h1;exact ⟨by simp only;omega,by simp only;omega⟩
 .exact ⟨Int.le_refl _,h⟩
theorem zkz (h0:0<=i) (h:i<=ln w):i<=(qlx w i).2/\(qlx w i).2<=ln w:=by
 have h1:=zqw h0 h
 have h2:(qg7 w i).2<=dgE w (qg7 w i).2:=qbo
 have h3:dgE w (qg7 w i).2<=ln w:=qez h1.2
 exact ⟨by simp only [qlx];omega,h3⟩
theorem zro (h0:0<=i) (hi:i<=ln w):k8 (upto (fr w i) (hdE (fr w i) 0))=(qlx w i).1:=by
 have e:=zo5 h0 hi
 have e':hdE (fr w i) 0=dgE w (qg7 w i).2-i:=by omega
 rw [e',qlx]
 congr 1
 have h2:(qg7 w i).2<=dgE w (qg7 w i).2:=qbo
 cases h:tk w i 45 with
 | true=>
  have h1:=(qdw h0).1 h
  have hm:qg7 w i=([45],i+1):=by rw [qg7,if_pos h]
  rw [hm] at h2 ⊢
  simp only at h2 ⊢
  rw [qjy h0 h1.1,qpk (by omega) h2]
  have hx:ix w i=45:=qgv (by rw [<-qn3];exact h1.2)
  rw [hx]
  have:(dgE w (i+1)-i).toNat=(dgE w (i+1)-(i+1)).toNat+1:=by omega
  unfold upto
  rw [this];rfl
 | false=>
  have hm:qg7 w i=([],i):=by rw [qg7,if_neg (by rw [h];simp)]
  rw [hm] at h2 ⊢
  simp only at h2 ⊢
  rw [List.nil_append,qpk h0 h2]
theorem zio (h0:0<=i) (hi:i<=ln w):hdF (fr w i)=(((qfi w i).1,(qfi w i).2.2.2.1),(qfi w i).2.1,(qfi w i).2.2.1,fr w (qfi w i).2.2.2.2):=by
 have h1:=zkz h0 hi
 have h2:=zg6 (w:=w) (i:=(qlx w i).2) (by omega) h1.2
 have e:fr (fr w i) (hdE (fr w i) 0)=fr w (qlx w i).2:=by
  have:=zo5 h0 hi
  have hg:0<=hdE (fr w i) 0:=by
   have h3:(qlx w i).2=dgE w (qg7 w i).2:=rfl
   omega
  rw [q5m h0 hg,this];rfl
 simp only [hdF,e,zro h0 hi,zpq (w:=w) (i:=(qlx w i).2) (by omega),qe9 (w:=w) (c:=42) (k:=42) (i:=(qke w (qlx w i).2).2) (by omega) rfl]
 rfl
theorem zke (h0:0<=i) (h:i<=ln w):i<=(qfi w i).2.2.2.2/\(qfi w i).2.2.2.2<=ln w:=by
 have h1:=zkz h0 h
 have h2:=zg6 (w:=w) (i:=(qlx w i).2) (by omega) h1.2
 have h3:=zaq (w:=w) (i:=(qke w (qlx w i).2).2) (c:=42) (by omega) h2.2
 exact ⟨by simp only [qfi];omega,h3.2⟩
theorem znv {s:ZB}:∀ {i n:Int},0<=i->(qc7 s i n).2=true->∀ j,i<=j->j<ln s->qeo (bx s j)=true:=by
 intro i n
 fun_induction qc7 s i n with
 | case1 i n h hd hb=>intro _ h1;simp at h1
 | case2 i n h hd hb ih=>
  intro h0 h1 j h2 h3
  by_cases hj:j=i
  .rw [hj];exact hd
  .exact ih (by omega) h1 j (by omega) h3
 | case3 i n h hd=>intro _ h1;simp at h1
 | case4 i n h=>intro h0 _ j h2 h3;omega
theorem qqs {s:ZB} (h:(qi s).2=true):0<ln s/\∀ j,0<=j->j<ln s->qeo (bx s j)=true:=by
 unfold qi at h
 split at h
 .simp at h
 .rename_i h1
  have:=zb s
  exact ⟨by omega,znv (Int.le_refl _) h⟩
theorem qxk (h0:0<=i) (hi:i<=ln w):((qfz w i).1.2=true/\(qfz w i).2=ln w)↔(qi (fr w i)).2=true:=by
 have hf:sub w i (ln w)=fr w i:=by rw [qpk h0 hi,qq9 (by rw [qmu h0 hi];omega)]
 constructor
 .rintro ⟨h1,h2⟩
  simp only [qfz] at h1 h2
  rw [h2,hf] at h1;exact h1
 .intro h
  have hl:=qmu h0 hi
  have h1:=qqs h
  have h2:dgE w i=ln w:=qq1 h0 hi (Int.le_refl _) (fun j a b=>by
   have:=h1.2 (j-i) (by omega) (by omega)
   rw [qmc h0 (by omega)] at this
   rw [show j=i+(j-i) by omega];exact this) (.inl rfl)
  simp only [qfz,h2,hf]
  exact ⟨h,trivial⟩
theorem q2z (h0:0<=i) (hi:i<=ln w) (h:(qi (fr w i)).2=true):(qfz w i).1.1=(qi (fr w i)).1:=by
 have hf:sub w i (ln w)=fr w i:=by rw [qpk h0 hi,qq9 (by rw [qmu h0 hi];omega)]
 have:=((qxk h0 hi).2 h).2
 simp only [qfz] at this ⊢
 rw [this,hf]
end
theorem za4 (c:UInt8) (t:ZB):bx (c::t) 0=(c.toNat:Int):=rfl
theorem qfa (c d:UInt8) (t:ZB):tk (c::t) 0 d=decide (c=d):=by
 rw [Bool.eq_iff_iff,qdw (Int.le_refl _),za4,qa5]
 have:=zb t
 simp only [decide_eq_true_eq]
 constructor
 .rintro ⟨_,h⟩;exact qgv h
 .rintro rfl;exact ⟨by omega,rfl⟩
theorem qna (d:UInt8):tk [] 0 d=false:=by
 rw [<-Bool.not_eq_true,qdw (Int.le_refl _),qhv];omega
theorem q3l (w:ZB) (i:Int):qs2 w i=if tk w i 88=true then some 1 else if tk w i 76=true then some 2 else if tk w i 66=true then some 3 else if tk w i 83=true then some 4 else if tk w i 77=true then some 5 else if tk w i 81=true then some 6 else if tk w i 70=true then some 7 else if tk w i 90=true then some 8 else none:=by
 unfold qs2
 iterate 8 (rw [qun,dif_pos (by decide)])
 rw [qun,dif_neg (by decide)]
 rfl
theorem qra (c:UInt8) (t:ZB):qs2 (c::t) 0=if (jy [c]).2=0 then some (jy [c]).1 else none:=by
 rw [q3l]
 simp only [qfa,decide_eq_true_eq,jy,List.cons.injEq,and_true]
 by_cases h1:c=88
 .simp [h1]
 by_cases h2:c=76
 .simp [h2]
 by_cases h3:c=66
 .simp [h3]
 by_cases h4:c=83
 .simp [h4]
 by_cases h5:c=77
 .simp [h5]
 by_cases h6:c=81
 .simp [h6]
 by_cases h7:c=70
 .simp [h7]
 by_cases h8:c=90
 .simp [h8]
 simp [h1,h2,h3,h4,h5,h6,h7,h8]
theorem zc5:qs2 [] 0=none:=by rw [q3l];simp only [qna];rfl
theorem val_two (c d:UInt8) (t:ZB):jy (c::d::t)=(0,3):=by simp [jy]
theorem zri (c:UInt8) (t:ZB) (h:(jy [c]).2=0):rdK (c::t) 1=q6b (c::t):=by
 have hl:1<=ln (c::t):=by rw [qa5];have:=zb t;omega
 have hb:=zke (w:=c::t) (i:=1) (by decide) hl
 have e:rdK (c::t) 1=rd1 (c::t):=rfl
 rw [e,rd1,qra,if_pos h]
 simp only [q6b,zio (w:=c::t) (i:=1) (by decide) hl]
 simp only [zij (w:=c::t) (by omega) hb.2]
 rfl
theorem qjh (c:UInt8) (t:ZB) (h:(jy [c]).2≠0):rdK (c::t) 1=none:=by
 have e:rdK (c::t) 1=rd1 (c::t):=rfl
 rw [e,rd1,qra,if_neg h]
theorem zrj (t:ZB):rdK (114::t) 2=q65 t:=by
 have e:rdK (114::t) 2=rd2 (114::t):=rfl
 have hv:qs2 (114::t) 1=qs2 t 0:=by rw [q3l,q3l];rfl
 rw [e,rd2,qfa,if_pos (by decide),hv]
 match t with
 | []=>rw [zc5];rfl
 | [d]=>
  rw [qra,q65]
  by_cases h:(jy [d]).2=0
  .rw [if_pos h,if_pos h];rfl
  .rw [if_neg h,if_neg h]
 | d::a::u=>
  have h2:¬ (2:Int)=ln (114::d::a::u):=by simp only [qa5];have:=zb u;omega
  have hr:q65 (d::a::u)=none:=by rw [q65,val_two];rfl
  rw [qra,hr]
  by_cases h:(jy [d]).2=0
  .rw [if_pos h];exact if_neg h2
  .rw [if_neg h]
theorem qhw {w:ZB} (h:w≠[46]):rdK w 3=none:=by
 have e:rdK w 3=rd3 w:=rfl
 rw [e,rd3,if_neg]
 rintro ⟨h1,h2⟩
 match w with
 | []=>rw [qna] at h1;cases h1
 | [c]=>rw [qfa,decide_eq_true_eq] at h1;exact h (by rw [h1])
 | c::d::t=>simp only [qa5] at h2;have:=zb t;omega
theorem zkl (t:ZB):rdK (116::t) 4=qzd t:=by
 have e:rdK (116::t) 4=rd4 (116::t):=rfl
 have hl:1<=ln ((116:UInt8)::t):=by rw [qa5];have:=zb t;omega
 have h1:=zke (w:=116::t) (i:=1) (by decide) hl
 have h2:=zrw (w:=116::t) (i:=(qfi (116::t) 1).2.2.2.2) (by omega) h1.2
 have h3:=zaq (w:=116::t) (c:=126) (i:=(qko (116::t) (qfi (116::t) 1).2.2.2.2).2) (by omega) h2.2
 have h4:=zaq (w:=116::t) (c:=33) (i:=(qdm (116::t) (qko (116::t) (qfi (116::t) 1).2.2.2.2).2 126).2) (by omega) h3.2
 have ht:qzd t=qzd (fr (116::t) 1):=rfl
 rw [e,ht,rd4,qfa,qzd]
 simp only [zio (w:=116::t) (i:=1) (by decide) hl,zrx (w:=116::t) (i:=(qfi (116::t) 1).2.2.2.2) (by omega),qe9 (w:=116::t) (c:=126) (k:=126) (i:=(qko (116::t) (qfi (116::t) 1).2.2.2.2).2) (by omega) rfl,
  qe9 (w:=116::t) (c:=33) (k:=33) (i:=(qdm (116::t) (qko (116::t) (qfi (116::t) 1).2.2.2.2).2 126).2) (by omega) rfl,zat,decide_true,true_and]
 simp only [zij (w:=116::t) (by omega) h4.2]
theorem zkm:rdK [116,117,114,110] 4=none:=by
 rw [zkl,qzd]
 have h:hdE [117,114,110] 0=0:=qh7 (.inr ⟨by decide,by decide⟩)
 have:(hdF [117,114,110]).1.2=false:=by rw [hdF,h];rfl
 simp only [this]
 rfl
theorem zae {w p:ZB} {k:Int} (h:w≠p):rdW w p k=none:=by
 rw [rdW,if_neg]
 rintro ⟨h1,h2⟩
 simp only [preB,zA,decide_eq_true_eq] at h1
 rw [qq9 (by omega)] at h1
 exact h h1.2
theorem zko (c:UInt8) (t:ZB) (k:Int):rdN (c::t) c k=qy2 k t:=by
 have hl:1<=ln (c::t):=by rw [qa5];have:=zb t;omega
 have hf:fr (c::t) 1=t:=rfl
 have h1:=qxk (w:=c::t) (i:=1) (by decide) hl
 have h2:=q2z (w:=c::t) (i:=1) (by decide) hl
 rw [hf] at h1 h2
 rw [rdN,qfa,qy2]
 by_cases h:(qi t).2=true
 .rw [if_pos ⟨by simp,h1.2 h⟩,if_pos h,h2 h]
 .rw [if_neg (fun x=>h (h1.1 x.2)),if_neg h]
theorem zrn (t:ZB):rdK (64::t) 7=qwg t:=by
 have e:rdK (64::t) 7=rd7 (64::t):=rfl
 have h67:=qe9 (w:=64::t) (i:=1) (c:=67) (k:=67) (by decide) rfl
 have h70:=qe9 (w:=64::t) (i:=1) (c:=70) (k:=70) (by decide) rfl
 have h71:=qe9 (w:=64::t) (i:=1) (c:=71) (k:=71) (by decide) rfl
 have hf:fr ((64:UInt8)::t) 1=t:=rfl
 rw [hf] at h67 h70 h71
 have key:∀ (k:Int),2<=ln ((64:UInt8)::t)->(if (qfz (64::t) 2).1.2=true/\(qfz (64::t) 2).2=ln ((64:UInt8)::t) then some (Sign.mk 7 0 0 0 false 0 false false 0 0 0 0 false 0 0 k (qfz (64::t) 2).1.1) else none)
   = (if (qi (fr ((64:UInt8)::t) 2)).2=true then some (Sign.mk 7 0 0 0 false 0 false false 0 0 0 0 false 0 0 k (qi (fr ((64:UInt8)::t) 2)).1) else none):=by
  intro k hk
  have h1:=qxk (w:=64::t) (i:=2) (by decide) hk
  by_cases h:(qi (fr ((64:UInt8)::t) 2)).2=true
  .rw [if_pos (h1.2 h),if_pos h,q2z (w:=64::t) (i:=2) (by decide) hk h]
  .rw [if_neg (fun x=>h (h1.1 x)),if_neg h]
 rw [e,rd7,qfa,if_pos (by decide),qwg,q7i,h67,h70,h71]
 unfold qdm
 cases a1:tk (64::t) 1 67 with
 | true=>
  have:=((qdw (by decide)).1 a1).1
  exact key 0 (by omega)
 | false=>
  cases a2:tk (64::t) 1 70 with
  | true=>
   have:=((qdw (by decide)).1 a2).1
   exact key 3 (by omega)
  | false=>
   cases a3:tk (64::t) 1 71 with
   | true=>
    have:=((qdw (by decide)).1 a3).1
    exact key 4 (by omega)
   | false=>rfl
def M5 (t:ZB) (b:Bool):ZB:=40::(t++41::q52 b 124)
theorem q90:∀ {l:List M4} {t:ZB},(qgp t l).2=0->∃ m ∈ l,txM m=t:=by
 intro l t
 induction l with
 | nil=>intro h;simp [qgp] at h
 | cons m l ih=>
  intro h
  by_cases hm:txM m=t
  .exact ⟨m,zC,hm⟩
  .rw [qgp,if_neg hm] at h
   obtain ⟨x,hx,hy⟩:=ih h
   exact ⟨x,List.mem_cons_of_mem _ hx,hy⟩
theorem zjb:∀ m ∈ allM,∀ b,rdK (M5 (txM m) b) 5=qy1 (txM m++41::q52 b 124):=by
 intro m hm b
 simp only [allM,zD,List.not_mem_nil,or_false] at hm
 rcases hm with h | h | h | h | h | h | h | h | h | h | h | h | h | h | h | h<;>subst h<;>cases b<;>rfl
theorem qo8 {u:ZB} {c:UInt8} (h:0<ln u) (hc:bx u (ln u-1)=c.toNat):u=upto u (ln u-1)++[c]:=by
 have:=zf8 (l:=u) (i:=ln u-1) (by omega) (by omega)
 rw [show ln u-1+1=ln u by omega,qq9 (Int.le_refl _),qgv (a:=ix u (ln u-1)) (b:=c) (by rw [<-qn3];exact hc)] at this
 exact this
theorem zb0 {w:ZB} {i:Int} {c:UInt8} (h0:0<=i) (h:tk w i c=true):fr w i=c::fr w (i+1):=by
 have h1:=(qdw h0).1 h
 rw [qjy h0 h1.1,qgv (a:=ix w i) (b:=c) (by rw [<-qn3];exact h1.2)]
theorem zrl {t:ZB} {s:Sign} (h:rdK (40::t) 5=some s):∃ m ∈ allM,∃ b,t=txM m++41::q52 b 124:=by
 have e:rdK (40::t) 5=rd5 (40::t):=rfl
 rw [e,rd5] at h
 split at h
 .rename_i hc
  obtain ⟨_,h2,h3,h4⟩:=hc
  have hg:=zjf (40::t)
  have ht:upto t (qex (40::t))=sub (40::t) 1 (1+qex (40::t)):=by
   rw [qpk (by decide) (by omega)]
   congr 1
   omega
  obtain ⟨m,hm,hx⟩:=q90 (l:=allM) (t:=sub (40::t) 1 (1+qex (40::t))) h2
  refine ⟨m,hm,(qdm (40::t) (1+qex (40::t)+1) 124).1,?_⟩
  rw [hx,<-ht]
  have hs:t=upto t (qex (40::t))++fr t (qex (40::t)):=(List.take_append_drop _ _).symm
  have hf:fr t (qex (40::t))=fr (40::t) (1+qex (40::t)):=by rw [<-q5m (by decide) hg];rfl
  have h5:=zb0 (by omega) h3
  have h6:fr (40::t) (1+qex (40::t)+1)=q52 (qdm (40::t) (1+qex (40::t)+1) 124).1 124:=by
   unfold qdm at h4 ⊢
   cases hb:tk (40::t) (1+qex (40::t)+1) 124 with
   | true=>
    rw [hb,if_pos rfl] at h4
    rw [zb0 (by omega) hb,qla (by simp only at h4;omega)]
    rfl
   | false=>
    rw [hb,if_neg (by decide)] at h4
    exact qla (by simp only at h4;omega)
  rw [<-h6,<-h5,<-hf]
  exact hs
 .cases h
theorem znm {t:ZB} {s:Sign} (h:qy1 t=some s):∃ m ∈ allM,∃ b,t=txM m++41::q52 b 124:=by
 by_cases hb:0<ln t/\bx t (ln t-1)=124
 .rw [qy1] at h
  simp only [decide_eq_true hb,if_true] at h
  split at h
  .rename_i hc
   obtain ⟨m,hm,hx⟩:=q90 (l:=allM) hc.2.2
   refine ⟨m,hm,true,?_⟩
   rw [hx]
   have h1:=qo8 (c:=124) hb.1 hb.2
   have h2:=qo8 (c:=41) hc.1 hc.2.1
   conv=>lhs;rw [h1,h2]
   rw [List.append_assoc];rfl
  .cases h
 .rw [qy1] at h
  simp only [decide_eq_false hb,Bool.false_eq_true,if_false] at h
  split at h
  .rename_i hc
   obtain ⟨m,hm,hx⟩:=q90 (l:=allM) hc.2.2
   refine ⟨m,hm,false,?_⟩
   rw [hx]
   exact qo8 (c:=41) hc.1 hc.2.1
  .cases h
theorem zrk (t:ZB):rdK (40::t) 5=qy1 t:=by
 cases h:rdK (40::t) 5 with
 | some s=>
  obtain ⟨m,hm,b,ht⟩:=zrl h
  rw [<-h,ht];exact zjb m hm b
 | none=>
  cases h':qy1 t with
  | none=>rfl
  | some s=>
   obtain ⟨m,hm,b,ht⟩:=znm h'
   rw [<-h,<-h',ht];exact zjb m hm b
theorem q6u {s:ZB} {c k m:Int}:∀ (n:Nat) (i j:Int),0<=i->i<=j->j<=ln s->(∀ x,i<=x->x<j->bx s x≠c)->(j-i).toNat=n->qcb s c i k m=qcb s c j k m:=by
 intro n
 induction n with
 | zero=>intro i j h0 h1 h2 h3 hn;rw [show i=j by omega]
 | succ n ih=>
  intro i j h0 h1 h2 h3 hn
  rw [q00 h0 (by omega) (h3 i (Int.le_refl _) (by omega))]
  exact ih (i+1) j (by omega) (by omega) h2 (fun x a b=>h3 x (by omega) b) (by omega)
theorem zn6 {s:ZB} {c i k m:Int} (h:(qcb s c i k m).2.2=true) (h0:0<=i) (hk:m=1->0<=k/\k<ln s/\bx s k=c) (hm:0<=m):∃ k',0<=k'/\k'<ln s/\bx s k'=c/\qcb s c i k m=(upto s k',fr s (k'+1),true):=by
 fun_induction qcb s c i k m with
 | case1 i k m hi hc ih=>exact ih h (by omega) (fun _=>⟨by omega,by omega,hc⟩) (by omega)
 | case2 i k m hi hc ih=>exact ih h (by omega) hk hm
 | case3 i k hi=>exact ⟨k,(hk rfl).1,(hk rfl).2.1,(hk rfl).2.2,rfl⟩
 | case4 i k m hi hm=>simp at h
theorem q16 {a l:ZB} {j:Int} (h0:0<=j) (h:j<ln a):bx (a++l) j=bx a j:=by rw [qn3,qn3,qxe h0 h]
theorem q1k (a l:ZB):upto (a++l) (ln a)=a:=by unfold upto ln;exact List.take_left' (by omega)
theorem zbz (a l:ZB):fr (a++l) (ln a)=l:=by unfold fr ln;exact List.drop_left' (by omega)
theorem q80 (a l:ZB) (c:UInt8):bx (a++c::l) (ln a)=c.toNat:=by
 have:=qmc (s:=a++c::l) (i:=ln a) (j:=0) (zb a) (Int.le_refl _)
 rw [zbz,Int.add_zero] at this
 exact this.symm
theorem q9c (a l:ZB) (c:UInt8):fr (a++c::l) (ln a+1)=l:=by
 rw [<-q5m (zb a) (by decide),zbz];rfl
def S6 (n d:Int):Sign:=Sign.mk 6 0 0 0 false 0 false false 0 0 0 0 false n d 0 0
theorem zkn {a b:ZB} (ha:(qi a).2=true) (hb:(qi b).2=true):rdK (a++47::b) 6=some (S6 (qi a).1 (qi b).1):=by
 have e:rdK (a++47::b) 6=rd6 (a++47::b):=rfl
 have hl:ln (a++47::b)=ln a+(ln b+1):=by rw [q0f,qa5]
 have n1:=zb a
 have n2:=zb b
 have hd:dgE (a++47::b) 0=ln a:=qq1 (Int.le_refl _) n1 (by omega) (fun j h1 h2=>by rw [q16 h1 h2];exact (qqs ha).2 j h1 h2) (.inr (by rw [q80];rfl))
 have h0:qfz (a++47::b) 0=(qi a,ln a):=by
  rw [qfz,hd]
  have:sub (a++47::b) 0 (ln a)=a:=q1k a (47::b)
  rw [this]
 have ht:tk (a++47::b) (ln a) 47=true:=(qdw n1).2 ⟨by omega,by rw [q80]⟩
 have hf:=q9c a b 47
 have h2:=qxk (w:=a++47::b) (i:=ln a+1) (by omega) (by omega)
 have h3:=q2z (w:=a++47::b) (i:=ln a+1) (by omega) (by omega)
 rw [hf] at h2 h3
 rw [e,rd6]
 simp only [h0]
 rw [if_pos ⟨ha,ht,h2.2 hb⟩,h3 hb]
 rfl
theorem zki {a b:ZB} (ha:(qi a).2=true) (hb:(qi b).2=true):qsn (a++47::b)=some (S6 (qi a).1 (qi b).1):=by
 have hl:ln (a++47::b)=ln a+(ln b+1):=by rw [q0f,qa5]
 have n1:=zb a
 have n2:=zb b
 have hn:∀ {x:Int},qeo x=true->x≠47:=by
  intro x h hx
  rw [hx] at h;cases h
 have h1:qa1 (a++47::b) 47=(a,b,true):=by
  rw [qa1,q6u (s:=a++47::b) (c:=47) _ 0 (ln a) (Int.le_refl _) n1 (by omega) (fun x h1 h2=>by rw [q16 h1 h2];exact hn ((qqs ha).2 x h1 h2)) rfl,
   q6s n1 (by omega) (by rw [q80];rfl),
   q6u (s:=a++47::b) (c:=47) _ (ln a+1) (ln (a++47::b)) (by omega) (by omega) (Int.le_refl _) (fun x h1 h2=>by
    have:=qmc (s:=a++47::b) (i:=ln a+1) (j:=x-(ln a+1)) (by omega) (by omega)
    rw [q9c,show ln a+1+(x-(ln a+1))=x by omega] at this
    rw [<-this]
    exact hn ((qqs hb).2 _ (by omega) (by omega))) rfl,
   show (0:Int)+1=1 from rfl,q6t (Int.le_refl _),q1k,q9c]
 simp only [qsn,h1]
 rw [if_pos ⟨trivial,ha,hb⟩]
 rfl
theorem zad {w:ZB} {s:Sign} (h:rdK w 6=some s):∃ a b,(qi a).2=true/\(qi b).2=true/\w=a++47::b:=by
 have e:rdK w 6=rd6 w:=rfl
 rw [e,rd6] at h
 split at h
 .rename_i hc
  obtain ⟨h1,h2,h3⟩:=hc
  have hg:0<=(qfz w 0).2:=qbo
  have h4:=(qdw hg).1 h2
  refine ⟨upto w (qfz w 0).2,fr w ((qfz w 0).2+1),h1,?_,?_⟩
  .exact (qxk (by omega) (by omega)).1 h3
  .rw [<-zb0 hg h2];exact (List.take_append_drop _ _).symm
 .cases h
theorem zq9 {w:ZB} {s:Sign} (h:qsn w=some s):∃ a b,(qi a).2=true/\(qi b).2=true/\w=a++47::b:=by
 simp only [qsn] at h
 split at h
 .rename_i hc
  obtain ⟨h1,h2,h3⟩:=hc
  obtain ⟨k,k0,k1,k2,k3⟩:=zn6 h1 (Int.le_refl _) (fun h=>by omega) (Int.le_refl _)
  have k4:qa1 w 47=(upto w k,fr w (k+1),true):=k3
  rw [k4] at h2 h3
  refine ⟨_,_,h2,h3,?_⟩
  have h5:tk w k 47=true:=(qdw k0).2 ⟨k1,k2⟩
  rw [<-zb0 k0 h5];exact (List.take_append_drop _ _).symm
 .cases h
theorem zrm (w:ZB):rdK w 6=qsn w:=by
 cases h:rdK w 6 with
 | some s=>
  obtain ⟨a,b,ha,hb,hw⟩:=zad h
  rw [<-h,hw,zkn ha hb,zki ha hb]
 | none=>
  cases h':qsn w with
  | none=>rfl
  | some s=>
   obtain ⟨a,b,ha,hb,hw⟩:=zq9 h'
   rw [<-h,<-h',hw,zkn ha hb,zki ha hb]
theorem qji {c:UInt8} {t:ZB} (hd:qeo c.toNat=false):rdK (c::t) 6=none:=by
 cases h:rdK (c::t) 6 with
 | none=>rfl
 | some s=>
  obtain ⟨a,b,ha,hb,hw⟩:=zad h
  obtain ⟨h1,h2⟩:=qqs ha
  have h3:=h2 0 (Int.le_refl _) h1
  rw [<-q16 (l:=47::b) (Int.le_refl _) h1,<-hw,za4,hd] at h3
  cases h3
theorem zm5 {w:ZB}:∀ (m:Nat) (i:Int),1<=i->(13-i).toNat=m->(∀ j,i<=j->j<=12->rdK w j=none)->qlw w i=none:=by
 intro m
 induction m with
 | zero=>intro i h0 hm _;rw [qlw,dif_neg (by omega)]
 | succ m ih=>
  intro i h0 hm h
  rw [qlw,dif_pos ⟨h0,by omega⟩,h i (Int.le_refl _) (by omega)]
  exact ih (i+1) (by omega) (by omega) (fun j a b=>h j (by omega) b)
theorem zqg {w:ZB} (k:Int) (h1:1<=k) (h2:k<=12) (h:∀ j,1<=j->j<=12->j≠k->rdK w j=none):qlw w 1=rdK w k:=by
 rw [zkp h1 h2 (fun j a b=>h j a (by omega) (by omega)) _ 1 (by decide) h1 rfl,qlw,dif_pos ⟨h1,h2⟩]
 cases he:rdK w k with
 | some s=>rfl
 | none=>exact zm5 _ (k+1) (by omega) rfl (fun j a b=>h j (by omega) b (by omega))
theorem qb1 {w:ZB} (k:Int) (h1:1<=k) (h2:k<=12) (r1:1≠k->rdK w 1=none) (r2:2≠k->rdK w 2=none) (r3:3≠k->rdK w 3=none) (r4:4≠k->rdK w 4=none) (r5:5≠k->rdK w 5=none) (r6:6≠k->rdK w 6=none)
  (r7:7≠k->rdK w 7=none) (r8:8≠k->rdK w 8=none) (r9:9≠k->rdK w 9=none) (r10:10≠k->rdK w 10=none) (r11:11≠k->rdK w 11=none) (r12:12≠k->rdK w 12=none):qlw w 1=rdK w k:=by
 refine zqg k h1 h2 fun j a b c=>?_
 have:j=1∨j=2∨j=3∨j=4∨j=5∨j=6∨j=7∨j=8∨j=9∨j=10∨j=11∨j=12:=by omega
 rcases this with h | h | h | h | h | h | h | h | h | h | h | h<;>subst h
 .exact r1 c
 .exact r2 c
 .exact r3 c
 .exact r4 c
 .exact r5 c
 .exact r6 c
 .exact r7 c
 .exact r8 c
 .exact r9 c
 .exact r10 c
 .exact r11 c
 .exact r12 c
theorem qi9 {c:UInt8} {t:ZB} (h:c≠114):rdK (c::t) 2=none:=zqn (by rw [qfa,decide_eq_false h])
theorem qkh {c:UInt8} {t:ZB} (h:c≠116):rdK (c::t) 4=none:=zqo (by rw [qfa,decide_eq_false h])
theorem qja {c:UInt8} {t:ZB} (h:c≠40):rdK (c::t) 5=none:=zne (.inl (by rw [qfa,decide_eq_false h]))
theorem qjb {c:UInt8} {t:ZB} (h:c≠64):rdK (c::t) 7=none:=zqp (by rw [qfa,decide_eq_false h])
theorem qjc {c:UInt8} {t:ZB} (h:c≠38):rdK (c::t) 8=none:=zex q0d (by rw [qfa,decide_eq_false h])
theorem qga {c:UInt8} {t:ZB} (h:c≠93):rdK (c::t) 10=none:=zex qr7 (by rw [qfa,decide_eq_false h])
theorem qht {w:ZB} (h:w≠[91]):rdK w 9=none:=zae (k:=9) h
theorem qe7 {w:ZB} (h:w≠[116,117,114,110]):rdK w 11=none:=zae (k:=11) h
theorem qe8 {w:ZB} (h:w≠[115,105,103]):rdK w 12=none:=zae (k:=12) h
theorem zow {c:UInt8} (h:(jy [c]).2=0):qeo c.toNat=false:=by
 simp only [jy,List.cons.injEq,and_true] at h
 by_cases h1:c=88
 .subst h1;rfl
 by_cases h2:c=76
 .subst h2;rfl
 by_cases h3:c=66
 .subst h3;rfl
 by_cases h4:c=83
 .subst h4;rfl
 by_cases h5:c=77
 .subst h5;rfl
 by_cases h6:c=81
 .subst h6;rfl
 by_cases h7:c=70
 .subst h7;rfl
 by_cases h8:c=90
 .subst h8;rfl
 simp [h1,h2,h3,h4,h5,h6,h7,h8] at h
theorem zkr (w:ZB):qlw w 1=qd0 w:=by
 by_cases e0:w=[]
 .subst e0
  rw [qb1 9 (by decide) (by decide) (fun _=>by show rd1 []=none;rw [rd1,zc5]) (fun _=>zqn (qna _)) (fun _=>qhw (by simp)) (fun _=>zqo (qna _)) (fun _=>zne (.inl (qna _)))
   (fun _=>by
     cases h:rdK [] 6 with
     | none=>rfl
     | some s=>obtain ⟨a,b,_,_,hw⟩:=zad h;simp at hw)
   (fun _=>zqp (qna _)) (fun _=>zex q0d (qna _)) (fun h=>absurd rfl h) (fun _=>zex qr7 (qna _)) (fun _=>qe7 (by simp)) (fun _=>qe8 (by simp)),qht (by simp)]
  rfl
 obtain ⟨c,t,rfl⟩:∃ c t,w=c::t:=by
  cases w with
  | nil=>exact absurd rfl e0
  | cons c t=>exact ⟨c,t,rfl⟩
 have hx:∀ d:UInt8,c≠d->bx (c::t) 0≠d.toNat:=fun d h h'=>h (qgv h')
 by_cases e1:c::t=[46]
 .injection e1 with ec et
  subst ec;subst et
  rw [qb1 3 (by decide) (by decide) (fun _=>qjh _ _ (by decide)) (fun _=>qi9 (by decide)) (fun h=>absurd rfl h) (fun _=>qkh (by decide)) (fun _=>qja (by decide)) (fun _=>qji rfl) (fun _=>qjb (by decide)) (fun _=>qjc (by decide)) (fun _=>qht (by decide)) (fun _=>qga (by decide)) (fun _=>qe7 (by decide)) (fun _=>qe8 (by decide))]
  rfl
 by_cases e2:c::t=[91]
 .injection e2 with ec et
  subst ec;subst et
  rw [qb1 9 (by decide) (by decide) (fun _=>qjh _ _ (by decide)) (fun _=>qi9 (by decide)) (fun _=>qhw e1) (fun _=>qkh (by decide)) (fun _=>qja (by decide)) (fun _=>qji rfl) (fun _=>qjb (by decide)) (fun _=>qjc (by decide)) (fun h=>absurd rfl h) (fun _=>qga (by decide)) (fun _=>qe7 (by decide)) (fun _=>qe8 (by decide))]
  rfl
 by_cases e3:c::t=[116,117,114,110]
 .injection e3 with ec et
  subst ec;subst et
  rw [qb1 11 (by decide) (by decide) (fun _=>qjh _ _ (by decide)) (fun _=>qi9 (by decide)) (fun _=>qhw e1) (fun _=>zkm) (fun _=>qja (by decide)) (fun _=>qji rfl) (fun _=>qjb (by decide)) (fun _=>qjc (by decide)) (fun _=>qht e2) (fun _=>qga (by decide)) (fun h=>absurd rfl h) (fun _=>qe8 (by decide))]
  rfl
 by_cases e4:c::t=[115,105,103]
 .injection e4 with ec et
  subst ec;subst et
  rw [qb1 12 (by decide) (by decide) (fun _=>qjh _ _ (by decide)) (fun _=>qi9 (by decide)) (fun _=>qhw e1) (fun _=>qkh (by decide)) (fun _=>qja (by decide)) (fun _=>qji rfl) (fun _=>qjb (by decide)) (fun _=>qjc (by decide)) (fun _=>qht e2) (fun _=>qga (by decide)) (fun _=>qe7 e3) (fun h=>absurd rfl h)]
  rfl
 by_cases c1:c=114
 .subst c1
  rw [zku e0 e1 e2 e3 e4 rfl,qb1 2 (by decide) (by decide) (fun _=>qjh _ _ (by decide)) (fun h=>absurd rfl h) (fun _=>qhw e1) (fun _=>qkh (by decide)) (fun _=>qja (by decide)) (fun _=>qji rfl) (fun _=>qjb (by decide)) (fun _=>qjc (by decide)) (fun _=>qht e2) (fun _=>qga (by decide)) (fun _=>qe7 e3) (fun _=>qe8 e4)]
  exact zrj t
 by_cases c2:c=116
 .subst c2
  rw [zkv e0 e1 e2 e3 e4 rfl,qb1 4 (by decide) (by decide) (fun _=>qjh _ _ (by decide)) (fun _=>qi9 (by decide)) (fun _=>qhw e1) (fun h=>absurd rfl h) (fun _=>qja (by decide)) (fun _=>qji rfl) (fun _=>qjb (by decide)) (fun _=>qjc (by decide)) (fun _=>qht e2) (fun _=>qga (by decide)) (fun _=>qe7 e3) (fun _=>qe8 e4)]
  exact zkl t
 by_cases c3:c=40
 .subst c3
  rw [zkt e0 e1 e2 e3 e4 rfl,qb1 5 (by decide) (by decide) (fun _=>qjh _ _ (by decide)) (fun _=>qi9 (by decide)) (fun _=>qhw e1) (fun _=>qkh (by decide)) (fun h=>absurd rfl h) (fun _=>qji rfl) (fun _=>qjb (by decide)) (fun _=>qjc (by decide)) (fun _=>qht e2) (fun _=>qga (by decide)) (fun _=>qe7 e3) (fun _=>qe8 e4)]
  exact zrk t
 by_cases c4:c=64
 .subst c4
  rw [zks e0 e1 e2 e3 e4 rfl,qb1 7 (by decide) (by decide) (fun _=>qjh _ _ (by decide)) (fun _=>qi9 (by decide)) (fun _=>qhw e1) (fun _=>qkh (by decide)) (fun _=>qja (by decide)) (fun _=>qji rfl) (fun h=>absurd rfl h) (fun _=>qjc (by decide)) (fun _=>qht e2) (fun _=>qga (by decide)) (fun _=>qe7 e3) (fun _=>qe8 e4)]
  exact zrn t
 by_cases c5:c=38
 .subst c5
  rw [zkq e0 e1 e2 e3 e4 rfl,qb1 8 (by decide) (by decide) (fun _=>qjh _ _ (by decide)) (fun _=>qi9 (by decide)) (fun _=>qhw e1) (fun _=>qkh (by decide)) (fun _=>qja (by decide)) (fun _=>qji rfl) (fun _=>qjb (by decide)) (fun h=>absurd rfl h) (fun _=>qht e2) (fun _=>qga (by decide)) (fun _=>qe7 e3) (fun _=>qe8 e4)]
  exact zko 38 t 8
 by_cases c6:c=93
 .subst c6
  rw [zcw e0 e1 e2 e3 e4 rfl,qb1 10 (by decide) (by decide) (fun _=>qjh _ _ (by decide)) (fun _=>qi9 (by decide)) (fun _=>qhw e1) (fun _=>qkh (by decide)) (fun _=>qja (by decide)) (fun _=>qji rfl) (fun _=>qjb (by decide)) (fun _=>qjc (by decide)) (fun _=>qht e2) (fun h=>absurd rfl h) (fun _=>qe7 e3) (fun _=>qe8 e4)]
  exact zko 93 t 10
 rw [zaf e0 e1 e2 e3 e4 (hx 114 c1) (hx 116 c2) (hx 40 c3) (hx 64 c4) (hx 38 c5) (hx 93 c6)]
 have hu:upto (c::t) 1=[c]:=rfl
 rw [hu]
 by_cases hv:(jy [c]).2=0
 .rw [if_pos hv,qb1 1 (by decide) (by decide) (fun h=>absurd rfl h) (fun _=>qi9 c1) (fun _=>qhw e1) (fun _=>qkh c2) (fun _=>qja c3) (fun _=>qji (zow hv)) (fun _=>qjb c4) (fun _=>qjc c5) (fun _=>qht e2) (fun _=>qga c6) (fun _=>qe7 e3) (fun _=>qe8 e4)]
  exact zri c t hv
 .rw [if_neg hv,qb1 6 (by decide) (by decide) (fun _=>qjh _ _ hv) (fun _=>qi9 c1) (fun _=>qhw e1) (fun _=>qkh c2) (fun _=>qja c3) (fun h=>absurd rfl h) (fun _=>qjb c4) (fun _=>qjc c5) (fun _=>qht e2) (fun _=>qga c6) (fun _=>qe7 e3) (fun _=>qe8 e4)]
  exact zrm (c::t)
theorem zk0 (w:ZB):zj w=zc w:=by rw [zj,zc,zkr]
end Go.Proofs.YtbopmiclcimjgaaGreatDoor
