/- THE PLAIN LAW: the program's reading of a word, kind by kind, and the specification's, by the first byte, are one. -/
import Derived.Test.YtbopmiclcimjgaaGreatDoorOksF
import Derived.Test.YtbopmiclcimjgaaGreatDoorOksN
namespace Go.Proofs.YtbopmiclcimjgaaGreatDoor
open Go Go.E2 Go.E3
set_option maxRecDepth 100000

section
variable {w:List UInt8} {i:Int} {c:UInt8}
theorem q6g (h0:0<=i):0<ln (fr w i)↔i<ln w:=by simp only [ln,fr,List.length_drop];omega
theorem qc0 (h0:0<=i):tk w i c=true↔i<ln w/\bx w i=c.toNat:=by
  have e:bx (fr w i) 0=bx w i:=by rw [qqw h0 (Int.le_refl _),Int.add_zero]
  simp only [tk,preB,Bool.and_eq_true,decide_eq_true_eq]
  rw [zi9,e,q6g h0]
  constructor
  . exact fun h=>h.2
  . intro h
    refine ⟨?_,h⟩
    have:=(q6g (w:=w) h0).2 h.1
    rw [zh0];omega
theorem qea {k:Int} (h0:0<=i) (hk:k=c.toNat):qe (fr w i) k=(fr w (qcr w i c).2,(qcr w i c).1):=by
  have e:bx (fr w i) 0=bx w i:=by rw [qqw h0 (Int.le_refl _),Int.add_zero]
  rw [qe,e]
  simp only [q6g (w:=w) h0]
  cases h:tk w i c with
  | true=>
    rw [if_pos (by rw [hk];exact (qc0 h0).1 h),qcr,if_pos h,q6f h0 (by decide)]
  | false=>
    rw [if_neg (by rw [hk,<-qc0 h0,h];simp),qcr,if_neg (by rw [h];simp)]
theorem q46 (h0:0<=i) (h:i<=ln w):i<=(qcr w i c).2/\(qcr w i c).2<=ln w:=by
  unfold qcr
  split
  . rename_i h1;have:=(qc0 h0).1 h1;exact ⟨by simp only;omega,by simp only;omega⟩
  . exact ⟨Int.le_refl _,h⟩
theorem zh8 (h0:0<=i):qmq (fr w i)=((qiw w i).1,fr w (qiw w i).2):=by
  unfold qmq qiw
  rw [qea (c:=98) (k:=98) h0 rfl,qea (c:=35) (k:=35) h0 rfl,qea (c:=110) (k:=110) h0 rfl]
  unfold qcr
  cases h1:tk w i 98<;>cases h2:tk w i 35<;>cases h3:tk w i 110<;>simp
theorem zar (h0:0<=i) (h:i<=ln w):i<=(qiw w i).2/\(qiw w i).2<=ln w:=by
  unfold qiw
  (repeat' split)<;>(simp only)<;>first | omega | (rename_i h1;have:=(qc0 h0).1 h1;omega)
theorem zjr (h0:0<=i):qqd (fr w i)=((qi5 w i).1,fr w (qi5 w i).2):=by
  unfold qqd qi5
  rw [qea (c:=94) (k:=94) h0 rfl,qea (c:=118) (k:=118) h0 rfl,qea (c:=62) (k:=62) h0 rfl]
  unfold qcr
  cases h1:tk w i 94<;>cases h2:tk w i 118<;>cases h3:tk w i 62<;>simp
theorem zjq (h0:0<=i) (h:i<=ln w):i<=(qi5 w i).2/\(qi5 w i).2<=ln w:=by
  unfold qi5
  (repeat' split)<;>(simp only)<;>first | omega | (rename_i h1;have:=(qc0 h0).1 h1;omega)
theorem zbj (h0:0<=i) (h:i<=ln w):fr w i=[]↔i=ln w:=by
  constructor
  . intro h1
    have:=qt7 h0 h
    rw [h1,zcc] at this
    omega
  . intro h1;exact qx8 (by omega)

/-! ### Numbers -/
theorem zbp:∀ (m:Nat) (s:List UInt8) (j:Int),1<=j->(ln s-j).toNat=m->hdE s j=qc5 qdr s j:=by
  intro m
  induction m with
  | zero=>intro s j h1 hm;rw [qgy (.inl (by omega)),qh7 (.inl (by omega))]
  | succ m ih=>
    intro s j h1 hm
    by_cases hd:48<=bx s j/\bx s j<=57
    . rw [q0x (by omega) (by omega) (.inl hd),qnf (by omega) (by omega) (by simp [qdr,hd.1,hd.2])]
      exact ih s (j+1) (by omega) (by omega)
    . rw [qgy (.inr ⟨hd,by omega⟩),qh7 (.inr (by simp only [qdr,Bool.and_eq_false_iff,decide_eq_false_iff_not];omega))]
theorem zdx {j:Int} (h0:0<=i) (hi:i<=ln w) (hj:0<=j) (h:i+j<=ln w):qc5 qdr w (i+j)=i+qc5 qdr (fr w i) j:=by
  have hl:=qt7 h0 hi
  have g1:j<=qc5 qdr (fr w i) j:=qot
  have g2:qc5 qdr (fr w i) j<=ln (fr w i):=q15 (by omega)
  refine qul (by omega) (by omega) (by omega) ?_ ?_
  . intro x h1 h2
    have:=q9p (p:=qdr) (s:=fr w i) (i:=j) (x-i) (by omega) (by omega)
    rw [qqw h0 (by omega)] at this
    rw [show x=i+(x-i) by omega];exact this
  . by_cases he:qc5 qdr (fr w i) j<ln (fr w i)
    . right
      have:=q9q (p:=qdr) hj he
      rw [qqw h0 (by omega)] at this
      exact this
    . left;omega
theorem zhq (h0:0<=i) (hi:i<=ln w):i+hdE (fr w i) 0=dgE w (qf2 w i).2:=by
  have e:bx (fr w i) 0=bx w i:=by rw [qqw h0 (Int.le_refl _),Int.add_zero]
  cases h:tk w i 45 with
  | true=>
    have h1:=(qc0 h0).1 h
    have hl:=qt7 h0 hi
    rw [qf2,if_pos h,q0x (Int.le_refl _) (by omega) (.inr ⟨rfl,by rw [e];exact h1.2⟩),zbp _ _ _ (by omega) rfl,dgE]
    exact (zdx h0 hi (by omega) (by omega)).symm
  | false=>
    rw [qf2,if_neg (by rw [h];simp),dgE]
    have h1:¬ (0<ln (fr w i)/\bx (fr w i) 0=45):=by
      rw [e,q6g h0];intro h1
      rw [(qc0 (c:=45) h0).2 h1] at h;cases h
    have h2:=zdx (w:=w) (j:=0) h0 hi (Int.le_refl _) (by omega)
    rw [Int.add_zero] at h2
    rw [h2]
    congr 1
    by_cases hd:0<ln (fr w i)/\48<=bx (fr w i) 0/\bx (fr w i) 0<=57
    . rw [q0x (Int.le_refl _) hd.1 (.inl hd.2),qnf (Int.le_refl _) hd.1 (by simp [qdr,hd.2.1,hd.2.2])]
      exact zbp _ _ _ (by decide) rfl
    . by_cases hl:ln (fr w i)<=0
      . rw [qgy (.inl hl),qh7 (.inl hl)]
      . rw [qgy (.inr ⟨fun x=>hd ⟨by omega,x⟩,fun x=>h1 ⟨by omega,x.2⟩⟩),qh7 (.inr (by simp only [qdr,Bool.and_eq_false_iff,decide_eq_false_iff_not];omega))]
theorem zi3 (h0:0<=i) (h:i<=ln w):i<=(qf2 w i).2/\(qf2 w i).2<=ln w:=by
  unfold qf2
  split
  . rename_i h1;have:=(qc0 h0).1 h1;exact ⟨by simp only;omega,by simp only;omega⟩
  . exact ⟨Int.le_refl _,h⟩
theorem zdy (h0:0<=i) (h:i<=ln w):i<=(qka w i).2/\(qka w i).2<=ln w:=by
  have h1:=zi3 h0 h
  have h2:(qf2 w i).2<=dgE w (qf2 w i).2:=qot
  have h3:dgE w (qf2 w i).2<=ln w:=q15 h1.2
  exact ⟨by simp only [qka];omega,h3⟩
theorem zjj (h0:0<=i) (hi:i<=ln w):z7 (upto (fr w i) (hdE (fr w i) 0))=(qka w i).1:=by
  have e:=zhq h0 hi
  have e':hdE (fr w i) 0=dgE w (qf2 w i).2-i:=by omega
  rw [e',qka]
  congr 1
  have h2:(qf2 w i).2<=dgE w (qf2 w i).2:=qot
  cases h:tk w i 45 with
  | true=>
    have h1:=(qc0 h0).1 h
    have hm:qf2 w i=([45],i+1):=by rw [qf2,if_pos h]
    rw [hm] at h2 ⊢
    simp only at h2 ⊢
    rw [q6e h0 h1.1,quv (by omega) h2]
    have hx:ix w i=45:=qfq (by rw [<-qz1];exact h1.2)
    rw [hx]
    have:(dgE w (i+1)-i).toNat=(dgE w (i+1)-(i+1)).toNat+1:=by omega
    unfold upto
    rw [this];rfl
  | false=>
    have hm:qf2 w i=([],i):=by rw [qf2,if_neg (by rw [h];simp)]
    rw [hm] at h2 ⊢
    simp only at h2 ⊢
    rw [List.nil_append,quv h0 h2]
theorem zbo (h0:0<=i) (hi:i<=ln w):hdF (fr w i)=(((qek w i).1,(qek w i).2.2.2.1),(qek w i).2.1,(qek w i).2.2.1,fr w (qek w i).2.2.2.2):=by
  have h1:=zdy h0 hi
  have h2:=zar (w:=w) (i:=(qka w i).2) (by omega) h1.2
  have e:fr (fr w i) (hdE (fr w i) 0)=fr w (qka w i).2:=by
    have:=zhq h0 hi
    have hg:0<=hdE (fr w i) 0:=by
      have h3:(qka w i).2=dgE w (qf2 w i).2:=rfl
      omega
    rw [q6f h0 hg,this];rfl
  simp only [hdF,e,zjj h0 hi,zh8 (w:=w) (i:=(qka w i).2) (by omega),qea (w:=w) (c:=42) (k:=42) (i:=(qiw w (qka w i).2).2) (by omega) rfl]
  rfl
theorem zdf (h0:0<=i) (h:i<=ln w):i<=(qek w i).2.2.2.2/\(qek w i).2.2.2.2<=ln w:=by
  have h1:=zdy h0 h
  have h2:=zar (w:=w) (i:=(qka w i).2) (by omega) h1.2
  have h3:=q46 (w:=w) (i:=(qiw w (qka w i).2).2) (c:=42) (by omega) h2.2
  exact ⟨by simp only [qek];omega,h3.2⟩
theorem zgj {s:List UInt8}:∀ {i n:Int},0<=i->(qcd s i n).2=true->∀ j,i<=j->j<ln s->qdr (bx s j)=true:=by
  intro i n
  fun_induction qcd s i n with
  | case1 i n h hd hb=>intro _ h1;simp at h1
  | case2 i n h hd hb ih=>
    intro h0 h1 j h2 h3
    by_cases hj:j=i
    . rw [hj];exact hd
    . exact ih (by omega) h1 j (by omega) h3
  | case3 i n h hd=>intro _ h1;simp at h1
  | case4 i n h=>intro h0 _ j h2 h3;omega
theorem qol {s:List UInt8} (h:(qd s).2=true):0<ln s/\∀ j,0<=j->j<ln s->qdr (bx s j)=true:=by
  unfold qd at h
  split at h
  . simp at h
  . rename_i h1
    have:=kb s
    exact ⟨by omega,zgj (Int.le_refl _) h⟩
theorem qt9 (h0:0<=i) (hi:i<=ln w):((qe0 w i).1.2=true/\(qe0 w i).2=ln w)↔(qd (fr w i)).2=true:=by
  have hf:sub w i (ln w)=fr w i:=by rw [quv h0 hi,qo0 (by rw [qt7 h0 hi];omega)]
  constructor
  . rintro ⟨h1,h2⟩
    simp only [qe0] at h1 h2
    rw [h2,hf] at h1;exact h1
  . intro h
    have hl:=qt7 h0 hi
    have h1:=qol h
    have h2:dgE w i=ln w:=qul h0 hi (Int.le_refl _) (fun j a b=>by
      have:=h1.2 (j-i) (by omega) (by omega)
      rw [qqw h0 (by omega)] at this
      rw [show j=i+(j-i) by omega];exact this) (.inl rfl)
    simp only [qe0,h2,hf]
    exact ⟨h,trivial⟩
theorem qyn (h0:0<=i) (hi:i<=ln w) (h:(qd (fr w i)).2=true):(qe0 w i).1.1=(qd (fr w i)).1:=by
  have hf:sub w i (ln w)=fr w i:=by rw [quv h0 hi,qo0 (by rw [qt7 h0 hi];omega)]
  have:=((qt9 h0 hi).2 h).2
  simp only [qe0] at this ⊢
  rw [this,hf]
end

/-! ### Kind by kind -/
theorem q5m (c:UInt8) (t:List UInt8):bx (c::t) 0=(c.toNat:Int):=rfl
theorem qeb (c d:UInt8) (t:List UInt8):tk (c::t) 0 d=decide (c=d):=by
  rw [Bool.eq_iff_iff,qc0 (Int.le_refl _),q5m,qg1]
  have:=kb t
  simp only [decide_eq_true_eq]
  constructor
  . rintro ⟨_,h⟩;exact qfq h
  . rintro rfl;exact ⟨by omega,rfl⟩
theorem qlg (d:UInt8):tk [] 0 d=false:=by
  rw [<-Bool.not_eq_true,qc0 (Int.le_refl _),zcc];omega
theorem qy7 (w:List UInt8) (i:Int):qqh w i=if tk w i 88=true then some 1 else if tk w i 76=true then some 2 else if tk w i 66=true then some 3 else if tk w i 83=true then some 4 else if tk w i 77=true then some 5 else if tk w i 81=true then some 6 else if tk w i 70=true then some 7 else if tk w i 90=true then some 8 else none:=by
  unfold qqh
  iterate 8 (rw [qrr,dif_pos (by decide)])
  rw [qrr,dif_neg (by decide)]
  rfl
theorem qo1 (c:UInt8) (t:List UInt8):qqh (c::t) 0=if (jf [c]).2=0 then some (jf [c]).1 else none:=by
  rw [qy7]
  simp only [qeb,decide_eq_true_eq,jf,List.cons.injEq,and_true]
  by_cases h1:c=88
  . simp [h1]
  by_cases h2:c=76
  . simp [h2]
  by_cases h3:c=66
  . simp [h3]
  by_cases h4:c=83
  . simp [h4]
  by_cases h5:c=77
  . simp [h5]
  by_cases h6:c=81
  . simp [h6]
  by_cases h7:c=70
  . simp [h7]
  by_cases h8:c=90
  . simp [h8]
  simp [h1,h2,h3,h4,h5,h6,h7,h8]
theorem q7k:qqh [] 0=none:=by rw [qy7];simp only [qlg];rfl
theorem val_two (c d:UInt8) (t:List UInt8):jf (c::d::t)=(0,3):=by simp [jf]
theorem zjd (c:UInt8) (t:List UInt8) (h:(jf [c]).2=0):rdK (c::t) 1=q1d (c::t):=by
  have hl:1<=ln (c::t):=by rw [qg1];have:=kb t;omega
  have hb:=zdf (w:=c::t) (i:=1) (by decide) hl
  have e:rdK (c::t) 1=rd1 (c::t):=rfl
  rw [e,rd1,qo1,if_pos h]
  simp only [q1d,zbo (w:=c::t) (i:=1) (by decide) hl]
  simp only [zbj (w:=c::t) (by omega) hb.2]
  rfl
theorem qh3 (c:UInt8) (t:List UInt8) (h:(jf [c]).2≠0):rdK (c::t) 1=none:=by
  have e:rdK (c::t) 1=rd1 (c::t):=rfl
  rw [e,rd1,qo1,if_neg h]
theorem zje (t:List UInt8):rdK (114::t) 2=q14 t:=by
  have e:rdK (114::t) 2=rd2 (114::t):=rfl
  have hv:qqh (114::t) 1=qqh t 0:=by rw [qy7,qy7];rfl
  rw [e,rd2,qeb,if_pos (by decide),hv]
  match t with
  | []=>rw [q7k];rfl
  | [d]=>
    rw [qo1,q14]
    by_cases h:(jf [d]).2=0
    . rw [if_pos h,if_pos h];rfl
    . rw [if_neg h,if_neg h]
  | d::a::u=>
    have h2:¬ (2:Int)=ln (114::d::a::u):=by simp only [qg1];have:=kb u;omega
    have hr:q14 (d::a::u)=none:=by rw [q14,val_two];rfl
    rw [qo1,hr]
    by_cases h:(jf [d]).2=0
    . rw [if_pos h];exact if_neg h2
    . rw [if_neg h]
theorem qgo {w:List UInt8} (h:w≠[46]):rdK w 3=none:=by
  have e:rdK w 3=rd3 w:=rfl
  rw [e,rd3,if_neg]
  rintro ⟨h1,h2⟩
  match w with
  | []=>rw [qlg] at h1;cases h1
  | [c]=>rw [qeb,decide_eq_true_eq] at h1;exact h (by rw [h1])
  | c::d::t=>simp only [qg1] at h2;have:=kb t;omega
theorem zdl (t:List UInt8):rdK (116::t) 4=qvy t:=by
  have e:rdK (116::t) 4=rd4 (116::t):=rfl
  have hl:1<=ln ((116:UInt8)::t):=by rw [qg1];have:=kb t;omega
  have h1:=zdf (w:=116::t) (i:=1) (by decide) hl
  have h2:=zjq (w:=116::t) (i:=(qek (116::t) 1).2.2.2.2) (by omega) h1.2
  have h3:=q46 (w:=116::t) (c:=126) (i:=(qi5 (116::t) (qek (116::t) 1).2.2.2.2).2) (by omega) h2.2
  have h4:=q46 (w:=116::t) (c:=33) (i:=(qcr (116::t) (qi5 (116::t) (qek (116::t) 1).2.2.2.2).2 126).2) (by omega) h3.2
  have ht:qvy t=qvy (fr (116::t) 1):=rfl
  rw [e,ht,rd4,qeb,qvy]
  simp only [zbo (w:=116::t) (i:=1) (by decide) hl,zjr (w:=116::t) (i:=(qek (116::t) 1).2.2.2.2) (by omega),qea (w:=116::t) (c:=126) (k:=126) (i:=(qi5 (116::t) (qek (116::t) 1).2.2.2.2).2) (by omega) rfl,
    qea (w:=116::t) (c:=33) (k:=33) (i:=(qcr (116::t) (qi5 (116::t) (qek (116::t) 1).2.2.2.2).2 126).2) (by omega) rfl,q49,decide_true,true_and]
  simp only [zbj (w:=116::t) (by omega) h4.2]
theorem zdm:rdK [116,117,114,110] 4=none:=by
  rw [zdl,qvy]
  have h:hdE [117,114,110] 0=0:=qgy (.inr ⟨by decide,by decide⟩)
  have:(hdF [117,114,110]).1.2=false:=by rw [hdF,h];rfl
  simp only [this]
  rfl
theorem q4w {w p:List UInt8} {k:Int} (h:w≠p):rdW w p k=none:=by
  rw [rdW,if_neg]
  rintro ⟨h1,h2⟩
  simp only [preB,Bool.and_eq_true,decide_eq_true_eq] at h1
  rw [qo0 (by omega)] at h1
  exact h h1.2
theorem zdo (c:UInt8) (t:List UInt8) (k:Int):rdN (c::t) c k=qvn k t:=by
  have hl:1<=ln (c::t):=by rw [qg1];have:=kb t;omega
  have hf:fr (c::t) 1=t:=rfl
  have h1:=qt9 (w:=c::t) (i:=1) (by decide) hl
  have h2:=qyn (w:=c::t) (i:=1) (by decide) hl
  rw [hf] at h1 h2
  rw [rdN,qeb,qvn]
  by_cases h:(qd t).2=true
  . rw [if_pos ⟨by simp,h1.2 h⟩,if_pos h,h2 h]
  . rw [if_neg (fun x=>h (h1.1 x.2)),if_neg h]
theorem zji (t:List UInt8):rdK (64::t) 7=qs8 t:=by
  have e:rdK (64::t) 7=rd7 (64::t):=rfl
  have h67:=qea (w:=64::t) (i:=1) (c:=67) (k:=67) (by decide) rfl
  have h70:=qea (w:=64::t) (i:=1) (c:=70) (k:=70) (by decide) rfl
  have h71:=qea (w:=64::t) (i:=1) (c:=71) (k:=71) (by decide) rfl
  have hf:fr ((64:UInt8)::t) 1=t:=rfl
  rw [hf] at h67 h70 h71
  have key:∀ (k:Int),2<=ln ((64:UInt8)::t)->(if (qe0 (64::t) 2).1.2=true/\(qe0 (64::t) 2).2=ln ((64:UInt8)::t) then some (Sign.mk 7 0 0 0 false 0 false false 0 0 0 0 false 0 0 k (qe0 (64::t) 2).1.1) else none)
      = (if (qd (fr ((64:UInt8)::t) 2)).2=true then some (Sign.mk 7 0 0 0 false 0 false false 0 0 0 0 false 0 0 k (qd (fr ((64:UInt8)::t) 2)).1) else none):=by
    intro k hk
    have h1:=qt9 (w:=64::t) (i:=2) (by decide) hk
    by_cases h:(qd (fr ((64:UInt8)::t) 2)).2=true
    . rw [if_pos (h1.2 h),if_pos h,qyn (w:=64::t) (i:=2) (by decide) hk h]
    . rw [if_neg (fun x=>h (h1.1 x)),if_neg h]
  rw [e,rd7,qeb,if_pos (by decide),qs8,q2h,h67,h70,h71]
  unfold qcr
  cases a1:tk (64::t) 1 67 with
  | true=>
    have:=((qc0 (by decide)).1 a1).1
    exact key 0 (by omega)
  | false=>
    cases a2:tk (64::t) 1 70 with
    | true=>
      have:=((qc0 (by decide)).1 a2).1
      exact key 3 (by omega)
    | false=>
      cases a3:tk (64::t) 1 71 with
      | true=>
        have:=((qc0 (by decide)).1 a3).1
        exact key 4 (by omega)
      | false=>rfl

/-! ### Mensurations -/
def M5 (t:List UInt8) (b:Bool):List UInt8:=40::(t++41::ju b 124)
theorem q4o:∀ {l:List M4} {t:List UInt8},(qfn t l).2=0->∃ m ∈ l,txM m=t:=by
  intro l t
  induction l with
  | nil=>intro h;simp [qfn] at h
  | cons m l ih=>
    intro h
    by_cases hm:txM m=t
    . exact ⟨m,List.mem_cons_self,hm⟩
    . rw [qfn,if_neg hm] at h
      obtain ⟨x,hx,hy⟩:=ih h
      exact ⟨x,List.mem_cons_of_mem _ hx,hy⟩
theorem zcg:∀ m ∈ allM,∀ b,rdK (M5 (txM m) b) 5=qvm (txM m++41::ju b 124):=by
  intro m hm b
  simp only [allM,List.mem_cons,List.not_mem_nil,or_false] at hm
  rcases hm with h | h | h | h | h | h | h | h | h | h | h | h | h | h | h | h<;>subst h<;>cases b<;>rfl
theorem qm9 {u:List UInt8} {c:UInt8} (h:0<ln u) (hc:bx u (ln u-1)=c.toNat):u=upto u (ln u-1)++[c]:=by
  have:=q93 (l:=u) (i:=ln u-1) (by omega) (by omega)
  rw [show ln u-1+1=ln u by omega,qo0 (Int.le_refl _),qfq (a:=ix u (ln u-1)) (b:=c) (by rw [<-qz1];exact hc)] at this
  exact this
theorem q6i {w:List UInt8} {i:Int} {c:UInt8} (h0:0<=i) (h:tk w i c=true):fr w i=c::fr w (i+1):=by
  have h1:=(qc0 h0).1 h
  rw [q6e h0 h1.1,qfq (a:=ix w i) (b:=c) (by rw [<-qz1];exact h1.2)]
theorem zjg {t:List UInt8} {s:Sign} (h:rdK (40::t) 5=some s):∃ m ∈ allM,∃ b,t=txM m++41::ju b 124:=by
  have e:rdK (40::t) 5=rd5 (40::t):=rfl
  rw [e,rd5] at h
  split at h
  . rename_i hc
    obtain ⟨_,h2,h3,h4⟩:=hc
    have hg:=zcl (40::t)
    have ht:upto t (qdz (40::t))=sub (40::t) 1 (1+qdz (40::t)):=by
      rw [quv (by decide) (by omega)]
      congr 1
      omega
    obtain ⟨m,hm,hx⟩:=q4o (l:=allM) (t:=sub (40::t) 1 (1+qdz (40::t))) h2
    refine ⟨m,hm,(qcr (40::t) (1+qdz (40::t)+1) 124).1,?_⟩
    rw [hx,<-ht]
    have hs:t=upto t (qdz (40::t))++fr t (qdz (40::t)):=(List.take_append_drop _ _).symm
    have hf:fr t (qdz (40::t))=fr (40::t) (1+qdz (40::t)):=by rw [<-q6f (by decide) hg];rfl
    have h5:=q6i (by omega) h3
    have h6:fr (40::t) (1+qdz (40::t)+1)=ju (qcr (40::t) (1+qdz (40::t)+1) 124).1 124:=by
      unfold qcr at h4 ⊢
      cases hb:tk (40::t) (1+qdz (40::t)+1) 124 with
      | true=>
        rw [hb,if_pos rfl] at h4
        rw [q6i (by omega) hb,qx8 (by simp only at h4;omega)]
        rfl
      | false=>
        rw [hb,if_neg (by decide)] at h4
        exact qx8 (by simp only at h4;omega)
    rw [<-h6,<-h5,<-hf]
    exact hs
  . cases h
theorem zgb {t:List UInt8} {s:Sign} (h:qvm t=some s):∃ m ∈ allM,∃ b,t=txM m++41::ju b 124:=by
  by_cases hb:0<ln t/\bx t (ln t-1)=124
  . rw [qvm] at h
    simp only [decide_eq_true hb,if_true] at h
    split at h
    . rename_i hc
      obtain ⟨m,hm,hx⟩:=q4o (l:=allM) hc.2.2
      refine ⟨m,hm,true,?_⟩
      rw [hx]
      have h1:=qm9 (c:=124) hb.1 hb.2
      have h2:=qm9 (c:=41) hc.1 hc.2.1
      conv=>lhs;rw [h1,h2]
      rw [List.append_assoc];rfl
    . cases h
  . rw [qvm] at h
    simp only [decide_eq_false hb,Bool.false_eq_true,if_false] at h
    split at h
    . rename_i hc
      obtain ⟨m,hm,hx⟩:=q4o (l:=allM) hc.2.2
      refine ⟨m,hm,false,?_⟩
      rw [hx]
      exact qm9 (c:=41) hc.1 hc.2.1
    . cases h
theorem zjf (t:List UInt8):rdK (40::t) 5=qvm t:=by
  cases h:rdK (40::t) 5 with
  | some s=>
    obtain ⟨m,hm,b,ht⟩:=zjg h
    rw [<-h,ht];exact zcg m hm b
  | none=>
    cases h':qvm t with
    | none=>rfl
    | some s=>
      obtain ⟨m,hm,b,ht⟩:=zgb h'
      rw [<-h,<-h',ht];exact zcg m hm b

/-! ### Proportions -/
theorem q1w {s:List UInt8} {c k m:Int}:∀ (n:Nat) (i j:Int),0<=i->i<=j->j<=ln s->(∀ x,i<=x->x<j->bx s x≠c)->(j-i).toNat=n->qbe s c i k m=qbe s c j k m:=by
  intro n
  induction n with
  | zero=>intro i j h0 h1 h2 h3 hn;rw [show i=j by omega]
  | succ n ih=>
    intro i j h0 h1 h2 h3 hn
    rw [qw9 h0 (by omega) (h3 i (Int.le_refl _) (by omega))]
    exact ih (i+1) j (by omega) (by omega) h2 (fun x a b=>h3 x (by omega) b) (by omega)
theorem zgu {s:List UInt8} {c i k m:Int} (h:(qbe s c i k m).2.2=true) (h0:0<=i) (hk:m=1->0<=k/\k<ln s/\bx s k=c) (hm:0<=m):∃ k',0<=k'/\k'<ln s/\bx s k'=c/\qbe s c i k m=(upto s k',fr s (k'+1),true):=by
  fun_induction qbe s c i k m with
  | case1 i k m hi hc ih=>exact ih h (by omega) (fun _=>⟨by omega,by omega,hc⟩) (by omega)
  | case2 i k m hi hc ih=>exact ih h (by omega) hk hm
  | case3 i k hi=>exact ⟨k,(hk rfl).1,(hk rfl).2.1,(hk rfl).2.2,rfl⟩
  | case4 i k m hi hm=>simp at h
theorem qx2 {a l:List UInt8} {j:Int} (h0:0<=j) (h:j<ln a):bx (a++l) j=bx a j:=by rw [qz1,qz1,qt4 h0 h]
theorem qxq (a l:List UInt8):upto (a++l) (ln a)=a:=by unfold upto ln;exact List.take_left' (by omega)
theorem q6h (a l:List UInt8):fr (a++l) (ln a)=l:=by unfold fr ln;exact List.drop_left' (by omega)
theorem q3u (a l:List UInt8) (c:UInt8):bx (a++c::l) (ln a)=c.toNat:=by
  have:=qqw (s:=a++c::l) (i:=ln a) (j:=0) (kb a) (Int.le_refl _)
  rw [q6h,Int.add_zero] at this
  exact this.symm
theorem q34 (a l:List UInt8) (c:UInt8):fr (a++c::l) (ln a+1)=l:=by
  rw [<-q6f (kb a) (by decide),q6h];rfl
def S6 (n d:Int):Sign:=Sign.mk 6 0 0 0 false 0 false false 0 0 0 0 false n d 0 0
theorem zdn {a b:List UInt8} (ha:(qd a).2=true) (hb:(qd b).2=true):rdK (a++47::b) 6=some (S6 (qd a).1 (qd b).1):=by
  have e:rdK (a++47::b) 6=rd6 (a++47::b):=rfl
  have hl:ln (a++47::b)=ln a+(ln b+1):=by rw [qwu,qg1]
  have n1:=kb a
  have n2:=kb b
  have hd:dgE (a++47::b) 0=ln a:=qul (Int.le_refl _) n1 (by omega) (fun j h1 h2=>by rw [qx2 h1 h2];exact (qol ha).2 j h1 h2) (.inr (by rw [q3u];rfl))
  have h0:qe0 (a++47::b) 0=(qd a,ln a):=by
    rw [qe0,hd]
    have:sub (a++47::b) 0 (ln a)=a:=qxq a (47::b)
    rw [this]
  have ht:tk (a++47::b) (ln a) 47=true:=(qc0 n1).2 ⟨by omega,by rw [q3u]⟩
  have hf:=q34 a b 47
  have h2:=qt9 (w:=a++47::b) (i:=ln a+1) (by omega) (by omega)
  have h3:=qyn (w:=a++47::b) (i:=ln a+1) (by omega) (by omega)
  rw [hf] at h2 h3
  rw [e,rd6]
  simp only [h0]
  rw [if_pos ⟨ha,ht,h2.2 hb⟩,h3 hb]
  rfl
theorem zdj {a b:List UInt8} (ha:(qd a).2=true) (hb:(qd b).2=true):qp5 (a++47::b)=some (S6 (qd a).1 (qd b).1):=by
  have hl:ln (a++47::b)=ln a+(ln b+1):=by rw [qwu,qg1]
  have n1:=kb a
  have n2:=kb b
  have hn:∀ {x:Int},qdr x=true->x≠47:=by
    intro x h hx
    rw [hx] at h;cases h
  have h1:qad (a++47::b) 47=(a,b,true):=by
    rw [qad,q1w (s:=a++47::b) (c:=47) _ 0 (ln a) (Int.le_refl _) n1 (by omega) (fun x h1 h2=>by rw [qx2 h1 h2];exact hn ((qol ha).2 x h1 h2)) rfl,
      q1u n1 (by omega) (by rw [q3u];rfl),
      q1w (s:=a++47::b) (c:=47) _ (ln a+1) (ln (a++47::b)) (by omega) (by omega) (Int.le_refl _) (fun x h1 h2=>by
        have:=qqw (s:=a++47::b) (i:=ln a+1) (j:=x-(ln a+1)) (by omega) (by omega)
        rw [q34,show ln a+1+(x-(ln a+1))=x by omega] at this
        rw [<-this]
        exact hn ((qol hb).2 _ (by omega) (by omega))) rfl,
      show (0:Int)+1=1 from rfl,q1v (Int.le_refl _),qxq,q34]
  simp only [qp5,h1]
  rw [if_pos ⟨trivial,ha,hb⟩]
  rfl
theorem q4v {w:List UInt8} {s:Sign} (h:rdK w 6=some s):∃ a b,(qd a).2=true/\(qd b).2=true/\w=a++47::b:=by
  have e:rdK w 6=rd6 w:=rfl
  rw [e,rd6] at h
  split at h
  . rename_i hc
    obtain ⟨h1,h2,h3⟩:=hc
    have hg:0<=(qe0 w 0).2:=qot
    have h4:=(qc0 hg).1 h2
    refine ⟨upto w (qe0 w 0).2,fr w ((qe0 w 0).2+1),h1,?_,?_⟩
    . exact (qt9 (by omega) (by omega)).1 h3
    . rw [<-q6i hg h2];exact (List.take_append_drop _ _).symm
  . cases h
theorem zja {w:List UInt8} {s:Sign} (h:qp5 w=some s):∃ a b,(qd a).2=true/\(qd b).2=true/\w=a++47::b:=by
  simp only [qp5] at h
  split at h
  . rename_i hc
    obtain ⟨h1,h2,h3⟩:=hc
    obtain ⟨k,k0,k1,k2,k3⟩:=zgu h1 (Int.le_refl _) (fun h=>by omega) (Int.le_refl _)
    have k4:qad w 47=(upto w k,fr w (k+1),true):=k3
    rw [k4] at h2 h3
    refine ⟨_,_,h2,h3,?_⟩
    have h5:tk w k 47=true:=(qc0 k0).2 ⟨k1,k2⟩
    rw [<-q6i k0 h5];exact (List.take_append_drop _ _).symm
  . cases h
theorem zjh (w:List UInt8):rdK w 6=qp5 w:=by
  cases h:rdK w 6 with
  | some s=>
    obtain ⟨a,b,ha,hb,hw⟩:=q4v h
    rw [<-h,hw,zdn ha hb,zdj ha hb]
  | none=>
    cases h':qp5 w with
    | none=>rfl
    | some s=>
      obtain ⟨a,b,ha,hb,hw⟩:=zja h'
      rw [<-h,<-h',hw,zdn ha hb,zdj ha hb]
theorem qh4 {c:UInt8} {t:List UInt8} (hd:qdr c.toNat=false):rdK (c::t) 6=none:=by
  cases h:rdK (c::t) 6 with
  | none=>rfl
  | some s=>
    obtain ⟨a,b,ha,hb,hw⟩:=q4v h
    obtain ⟨h1,h2⟩:=qol ha
    have h3:=h2 0 (Int.le_refl _) h1
    rw [<-qx2 (l:=47::b) (Int.le_refl _) h1,<-hw,q5m,hd] at h3
    cases h3

/-! ### All kinds -/
theorem zfw {w:List UInt8}:∀ (m:Nat) (i:Int),1<=i->(13-i).toNat=m->(∀ j,i<=j->j<=12->rdK w j=none)->qj9 w i=none:=by
  intro m
  induction m with
  | zero=>intro i h0 hm _;rw [qj9,dif_neg (by omega)]
  | succ m ih=>
    intro i h0 hm h
    rw [qj9,dif_pos ⟨h0,by omega⟩,h i (Int.le_refl _) (by omega)]
    exact ih (i+1) (by omega) (by omega) (fun j a b=>h j (by omega) b)
theorem zio {w:List UInt8} (k:Int) (h1:1<=k) (h2:k<=12) (h:∀ j,1<=j->j<=12->j≠k->rdK w j=none):qj9 w 1=rdK w k:=by
  rw [zdp h1 h2 (fun j a b=>h j a (by omega) (by omega)) _ 1 (by decide) h1 rfl,qj9,dif_pos ⟨h1,h2⟩]
  cases he:rdK w k with
  | some s=>rfl
  | none=>exact zfw _ (k+1) (by omega) rfl (fun j a b=>h j (by omega) b (by omega))
theorem qa2 {w:List UInt8} (k:Int) (h1:1<=k) (h2:k<=12) (r1:1≠k->rdK w 1=none) (r2:2≠k->rdK w 2=none) (r3:3≠k->rdK w 3=none) (r4:4≠k->rdK w 4=none) (r5:5≠k->rdK w 5=none) (r6:6≠k->rdK w 6=none)
    (r7:7≠k->rdK w 7=none) (r8:8≠k->rdK w 8=none) (r9:9≠k->rdK w 9=none) (r10:10≠k->rdK w 10=none) (r11:11≠k->rdK w 11=none) (r12:12≠k->rdK w 12=none):qj9 w 1=rdK w k:=by
  refine zio k h1 h2 fun j a b c=>?_
  have:j=1∨j=2∨j=3∨j=4∨j=5∨j=6∨j=7∨j=8∨j=9∨j=10∨j=11∨j=12:=by omega
  rcases this with h | h | h | h | h | h | h | h | h | h | h | h<;>subst h
  . exact r1 c
  . exact r2 c
  . exact r3 c
  . exact r4 c
  . exact r5 c
  . exact r6 c
  . exact r7 c
  . exact r8 c
  . exact r9 c
  . exact r10 c
  . exact r11 c
  . exact r12 c
theorem qhv {c:UInt8} {t:List UInt8} (h:c≠114):rdK (c::t) 2=none:=ziv (by rw [qeb,decide_eq_false h])
theorem qiz {c:UInt8} {t:List UInt8} (h:c≠116):rdK (c::t) 4=none:=ziw (by rw [qeb,decide_eq_false h])
theorem qhw {c:UInt8} {t:List UInt8} (h:c≠40):rdK (c::t) 5=none:=zf3 (.inl (by rw [qeb,decide_eq_false h]))
theorem qhx {c:UInt8} {t:List UInt8} (h:c≠64):rdK (c::t) 7=none:=zix (by rw [qeb,decide_eq_false h])
theorem qhy {c:UInt8} {t:List UInt8} (h:c≠38):rdK (c::t) 8=none:=q8u qwr (by rw [qeb,decide_eq_false h])
theorem qfa {c:UInt8} {t:List UInt8} (h:c≠93):rdK (c::t) 10=none:=q8u qps (by rw [qeb,decide_eq_false h])
theorem qgm {w:List UInt8} (h:w≠[91]):rdK w 9=none:=q4w (k:=9) h
theorem qd8 {w:List UInt8} (h:w≠[116,117,114,110]):rdK w 11=none:=q4w (k:=11) h
theorem qd9 {w:List UInt8} (h:w≠[115,105,103]):rdK w 12=none:=q4w (k:=12) h
theorem zhg {c:UInt8} (h:(jf [c]).2=0):qdr c.toNat=false:=by
  simp only [jf,List.cons.injEq,and_true] at h
  by_cases h1:c=88
  . subst h1;rfl
  by_cases h2:c=76
  . subst h2;rfl
  by_cases h3:c=66
  . subst h3;rfl
  by_cases h4:c=83
  . subst h4;rfl
  by_cases h5:c=77
  . subst h5;rfl
  by_cases h6:c=81
  . subst h6;rfl
  by_cases h7:c=70
  . subst h7;rfl
  by_cases h8:c=90
  . subst h8;rfl
  simp [h1,h2,h3,h4,h5,h6,h7,h8] at h
theorem zdr (w:List UInt8):qj9 w 1=qc4 w:=by
  by_cases e0:w=[]
  . subst e0
    rw [qa2 9 (by decide) (by decide) (fun _=>by show rd1 []=none;rw [rd1,q7k]) (fun _=>ziv (qlg _)) (fun _=>qgo (by simp)) (fun _=>ziw (qlg _)) (fun _=>zf3 (.inl (qlg _)))
      (fun _=>by
        cases h:rdK [] 6 with
        | none=>rfl
        | some s=>obtain ⟨a,b,_,_,hw⟩:=q4v h;simp at hw)
      (fun _=>zix (qlg _)) (fun _=>q8u qwr (qlg _)) (fun h=>absurd rfl h) (fun _=>q8u qps (qlg _)) (fun _=>qd8 (by simp)) (fun _=>qd9 (by simp)),qgm (by simp)]
    rfl
  obtain ⟨c,t,rfl⟩:∃ c t,w=c::t:=by
    cases w with
    | nil=>exact absurd rfl e0
    | cons c t=>exact ⟨c,t,rfl⟩
  have hx:∀ d:UInt8,c≠d->bx (c::t) 0≠d.toNat:=fun d h h'=>h (qfq h')
  by_cases e1:c::t=[46]
  . injection e1 with ec et
    subst ec;subst et
    rw [qa2 3 (by decide) (by decide) (fun _=>qh3 _ _ (by decide)) (fun _=>qhv (by decide)) (fun h=>absurd rfl h) (fun _=>qiz (by decide)) (fun _=>qhw (by decide)) (fun _=>qh4 rfl) (fun _=>qhx (by decide)) (fun _=>qhy (by decide)) (fun _=>qgm (by decide)) (fun _=>qfa (by decide)) (fun _=>qd8 (by decide)) (fun _=>qd9 (by decide))]
    rfl
  by_cases e2:c::t=[91]
  . injection e2 with ec et
    subst ec;subst et
    rw [qa2 9 (by decide) (by decide) (fun _=>qh3 _ _ (by decide)) (fun _=>qhv (by decide)) (fun _=>qgo e1) (fun _=>qiz (by decide)) (fun _=>qhw (by decide)) (fun _=>qh4 rfl) (fun _=>qhx (by decide)) (fun _=>qhy (by decide)) (fun h=>absurd rfl h) (fun _=>qfa (by decide)) (fun _=>qd8 (by decide)) (fun _=>qd9 (by decide))]
    rfl
  by_cases e3:c::t=[116,117,114,110]
  . injection e3 with ec et
    subst ec;subst et
    rw [qa2 11 (by decide) (by decide) (fun _=>qh3 _ _ (by decide)) (fun _=>qhv (by decide)) (fun _=>qgo e1) (fun _=>zdm) (fun _=>qhw (by decide)) (fun _=>qh4 rfl) (fun _=>qhx (by decide)) (fun _=>qhy (by decide)) (fun _=>qgm e2) (fun _=>qfa (by decide)) (fun h=>absurd rfl h) (fun _=>qd9 (by decide))]
    rfl
  by_cases e4:c::t=[115,105,103]
  . injection e4 with ec et
    subst ec;subst et
    rw [qa2 12 (by decide) (by decide) (fun _=>qh3 _ _ (by decide)) (fun _=>qhv (by decide)) (fun _=>qgo e1) (fun _=>qiz (by decide)) (fun _=>qhw (by decide)) (fun _=>qh4 rfl) (fun _=>qhx (by decide)) (fun _=>qhy (by decide)) (fun _=>qgm e2) (fun _=>qfa (by decide)) (fun _=>qd8 e3) (fun h=>absurd rfl h)]
    rfl
  by_cases c1:c=114
  . subst c1
    rw [zdu e0 e1 e2 e3 e4 rfl,qa2 2 (by decide) (by decide) (fun _=>qh3 _ _ (by decide)) (fun h=>absurd rfl h) (fun _=>qgo e1) (fun _=>qiz (by decide)) (fun _=>qhw (by decide)) (fun _=>qh4 rfl) (fun _=>qhx (by decide)) (fun _=>qhy (by decide)) (fun _=>qgm e2) (fun _=>qfa (by decide)) (fun _=>qd8 e3) (fun _=>qd9 e4)]
    exact zje t
  by_cases c2:c=116
  . subst c2
    rw [zdv e0 e1 e2 e3 e4 rfl,qa2 4 (by decide) (by decide) (fun _=>qh3 _ _ (by decide)) (fun _=>qhv (by decide)) (fun _=>qgo e1) (fun h=>absurd rfl h) (fun _=>qhw (by decide)) (fun _=>qh4 rfl) (fun _=>qhx (by decide)) (fun _=>qhy (by decide)) (fun _=>qgm e2) (fun _=>qfa (by decide)) (fun _=>qd8 e3) (fun _=>qd9 e4)]
    exact zdl t
  by_cases c3:c=40
  . subst c3
    rw [zdt e0 e1 e2 e3 e4 rfl,qa2 5 (by decide) (by decide) (fun _=>qh3 _ _ (by decide)) (fun _=>qhv (by decide)) (fun _=>qgo e1) (fun _=>qiz (by decide)) (fun h=>absurd rfl h) (fun _=>qh4 rfl) (fun _=>qhx (by decide)) (fun _=>qhy (by decide)) (fun _=>qgm e2) (fun _=>qfa (by decide)) (fun _=>qd8 e3) (fun _=>qd9 e4)]
    exact zjf t
  by_cases c4:c=64
  . subst c4
    rw [zds e0 e1 e2 e3 e4 rfl,qa2 7 (by decide) (by decide) (fun _=>qh3 _ _ (by decide)) (fun _=>qhv (by decide)) (fun _=>qgo e1) (fun _=>qiz (by decide)) (fun _=>qhw (by decide)) (fun _=>qh4 rfl) (fun h=>absurd rfl h) (fun _=>qhy (by decide)) (fun _=>qgm e2) (fun _=>qfa (by decide)) (fun _=>qd8 e3) (fun _=>qd9 e4)]
    exact zji t
  by_cases c5:c=38
  . subst c5
    rw [zdq e0 e1 e2 e3 e4 rfl,qa2 8 (by decide) (by decide) (fun _=>qh3 _ _ (by decide)) (fun _=>qhv (by decide)) (fun _=>qgo e1) (fun _=>qiz (by decide)) (fun _=>qhw (by decide)) (fun _=>qh4 rfl) (fun _=>qhx (by decide)) (fun h=>absurd rfl h) (fun _=>qgm e2) (fun _=>qfa (by decide)) (fun _=>qd8 e3) (fun _=>qd9 e4)]
    exact zdo 38 t 8
  by_cases c6:c=93
  . subst c6
    rw [q7c e0 e1 e2 e3 e4 rfl,qa2 10 (by decide) (by decide) (fun _=>qh3 _ _ (by decide)) (fun _=>qhv (by decide)) (fun _=>qgo e1) (fun _=>qiz (by decide)) (fun _=>qhw (by decide)) (fun _=>qh4 rfl) (fun _=>qhx (by decide)) (fun _=>qhy (by decide)) (fun _=>qgm e2) (fun h=>absurd rfl h) (fun _=>qd8 e3) (fun _=>qd9 e4)]
    exact zdo 93 t 10
  rw [q4x e0 e1 e2 e3 e4 (hx 114 c1) (hx 116 c2) (hx 40 c3) (hx 64 c4) (hx 38 c5) (hx 93 c6)]
  have hu:upto (c::t) 1=[c]:=rfl
  rw [hu]
  by_cases hv:(jf [c]).2=0
  . rw [if_pos hv,qa2 1 (by decide) (by decide) (fun h=>absurd rfl h) (fun _=>qhv c1) (fun _=>qgo e1) (fun _=>qiz c2) (fun _=>qhw c3) (fun _=>qh4 (zhg hv)) (fun _=>qhx c4) (fun _=>qhy c5) (fun _=>qgm e2) (fun _=>qfa c6) (fun _=>qd8 e3) (fun _=>qd9 e4)]
    exact zjd c t hv
  . rw [if_neg hv,qa2 6 (by decide) (by decide) (fun _=>qh3 _ _ hv) (fun _=>qhv c1) (fun _=>qgo e1) (fun _=>qiz c2) (fun _=>qhw c3) (fun h=>absurd rfl h) (fun _=>qhx c4) (fun _=>qhy c5) (fun _=>qgm e2) (fun _=>qfa c6) (fun _=>qd8 e3) (fun _=>qd9 e4)]
    exact zjh (c::t)
theorem zdz (w:List UInt8):qw w=qu w:=by rw [qw,qu,zdr]
end Go.Proofs.YtbopmiclcimjgaaGreatDoor
