/- THE PLAIN LAW: the program's reading of a word, kind by kind, and the specification's, by the first byte, are one. -/
import Derived.Test.YtbopmiclcimjgaaGreatDoorOksA
import Derived.Test.YtbopmiclcimjgaaGreatDoorVcs
import Derived.Test.YtbopmiclcimjgaaGreatDoorDall
namespace Go.Proofs.YtbopmiclcimjgaaGreatDoor
open Go Go.E2 Go.E3
set_option maxRecDepth 100000
section
variable {w:ZB} {i:Int} {c:UInt8}
theorem zbz (h0:0<=i):0<ln (fr w i)↔i<ln w:=by simp only [ln,fr,List.length_drop];omega
theorem qdo (h0:0<=i):tk w i c=true↔i<ln w/\bx w i=c.toNat:=by
 have e:bx (fr w i) 0=bx w i:=by rw [qjv h0 (zK _),Int.add_zero]
 simp only [tk,preB,zA,decide_eq_true_eq]
 rw [zsd,e,zbz h0]
 constructor
 .exact fun h=>h.2
 .intro h
  refine ⟨?_,h⟩
  have:=(zbz (w:=w) h0).2 h.1
  rw [zp5];omega
theorem qe5 {k:Int} (h0:0<=i) (hk:k=c.toNat):qbx (fr w i) k=(fr w (qde w i c).2,(qde w i c).1):=by
 have e:bx (fr w i) 0=bx w i:=by rw [qjv h0 (zK _),Int.add_zero]
 rw [qbx,e]
 simp only [zbz (w:=w) h0]
 cases h:tk w i c with
 | true=>
  rw [zT (by rw [hk];exact (qdo h0).1 h),qde,zT h,q57 h0 (by decide)]
 | false=>
  rw [zF (by rw [hk,<-qdo h0,h];simp),qde,zF (by rw [h];simp)]
theorem zav (h0:0<=i) (h:i<=ln w):i<=(qde w i c).2/\(qde w i c).2<=ln w:=by
 unfold qde
 split
 .rename_i h1;have:=(qdo h0).1 h1;exact ⟨by simp only;omega,by simp only;omega⟩
 .exact ⟨zK _,h⟩
theorem zqk (h0:0<=i):qqg (fr w i)=((qko w i).1,fr w (qko w i).2):=by
 unfold qqg qko
 rw [qe5 (c:=98) (k:=98) h0 rfl,qe5 (c:=35) (k:=35) h0 rfl,qe5 (c:=110) (k:=110) h0 rfl]
 unfold qde
 cases h1:tk w i 98<;>cases h2:tk w i 35<;>cases h3:tk w i 110<;>simp
theorem zhk (h0:0<=i) (h:i<=ln w):i<=(qko w i).2/\(qko w i).2<=ln w:=by
 unfold qko
 (repeat' split)<;>(simp only)<;>first | omega | (rename_i h1;have:=(qdo h0).1 h1;omega)
theorem zs0 (h0:0<=i):qvk (fr w i)=((qkv w i).1,fr w (qkv w i).2):=by
 unfold qvk qkv
 rw [qe5 (c:=94) (k:=94) h0 rfl,qe5 (c:=118) (k:=118) h0 rfl,qe5 (c:=62) (k:=62) h0 rfl]
 unfold qde
 cases h1:tk w i 94<;>cases h2:tk w i 118<;>cases h3:tk w i 62<;>simp
theorem zsz (h0:0<=i) (h:i<=ln w):i<=(qkv w i).2/\(qkv w i).2<=ln w:=by
 unfold qkv
 (repeat' split)<;>(simp only)<;>first | omega | (rename_i h1;have:=(qdo h0).1 h1;omega)
theorem zir (h0:0<=i) (h:i<=ln w):fr w i=[]↔i=ln w:=by
 constructor
 .intro h1
  have:=qov h0 h
  rw [h1,qdn] at this
  omega
 .intro h1;exact qm2 (by omega)
theorem ziz:∀ (m:Nat) (s:ZB) (j:Int),1<=j->(ln s-j).toNat=m->hdE s j=zj qdw s j:=by
 intro m
 induction m with
 | zero=>intro s j h1 hm;rw [qn3 (.inl (by omega)),qd6 (.inl (by omega))]
 | succ m ih=>
  intro s j h1 hm
  by_cases hd:48<=bx s j/\bx s j<=57
  .rw [zb4 (by omega) (by omega) (.inl hd),qd5 (by omega) (by omega) (by simp [qdw,hd.1,hd.2])]
   exact ih s (j+1) (by omega) (by omega)
  .rw [qn3 (.inr ⟨hd,by omega⟩),qd6 (.inr (by simp only [qdw,Bool.and_eq_false_iff,decide_eq_false_iff_not];omega))]
theorem zln {j:Int} (h0:0<=i) (hi:i<=ln w) (hj:0<=j) (h:i+j<=ln w):zj qdw w (i+j)=i+zj qdw (fr w i) j:=by
 have hl:=qov h0 hi
 have g1:j<=zj qdw (fr w i) j:=qcm
 have g2:zj qdw (fr w i) j<=ln (fr w i):=qjq (by omega)
 refine qnq (by omega) (by omega) (by omega) ?_ ?_
 .intro x h1 h2
  have:=q1w (p:=qdw) (s:=fr w i) (i:=j) (x-i) (by omega) (by omega)
  rw [qjv h0 (by omega)] at this
  rw [show x=i+(x-i) by omega];exact this
 .by_cases he:zj qdw (fr w i) j<ln (fr w i)
  .right
   have:=q1x (p:=qdw) hj he
   rw [qjv h0 (by omega)] at this
   exact this
  .left;omega
theorem zpw (h0:0<=i) (hi:i<=ln w):i+hdE (fr w i) 0=dgE w (qg5 w i).2:=by
 have e:bx (fr w i) 0=bx w i:=by rw [qjv h0 (zK _),Int.add_zero]
 cases h:tk w i 45 with
 | true=>
  have h1:=(qdo h0).1 h
  have hl:=qov h0 hi
  rw [qg5,zT h,zb4 (zK _) (by omega) (.inr ⟨rfl,by rw [e];exact h1.2⟩),ziz _ _ _ (by omega) rfl,dgE]
  exact (zln h0 hi (by omega) (by omega)).symm
 | false=>
  rw [qg5,zF (by rw [h];simp),dgE]
  have h1:¬ (0<ln (fr w i)/\bx (fr w i) 0=45):=by
   rw [e,zbz h0];intro h1
   rw [(qdo (c:=45) h0).2 h1] at h;cases h
  have h2:=zln (w:=w) (j:=0) h0 hi (zK _) (by omega)
  rw [Int.add_zero] at h2
  rw [h2]
  congr 1
  by_cases hd:0<ln (fr w i)/\48<=bx (fr w i) 0/\bx (fr w i) 0<=57
  .rw [zb4 (zK _) hd.1 (.inl hd.2),qd5 (zK _) hd.1 (by simp [qdw,hd.2.1,hd.2.2])]
   exact ziz _ _ _ (by decide) rfl
  .by_cases hl:ln (fr w i)<=0
   .rw [qn3 (.inl hl),qd6 (.inl hl)]
   .rw [qn3 (.inr ⟨fun x=>hd ⟨by omega,x⟩,fun x=>h1 ⟨by omega,x.2⟩⟩),qd6 (.inr (by simp only [qdw,Bool.and_eq_false_iff,decide_eq_false_iff_not];omega))]
theorem zry (h0:0<=i) (h:i<=ln w):i<=(qg5 w i).2/\(qg5 w i).2<=ln w:=by
 unfold qg5
 split
 .rename_i h1;have:=(qdo h0).1 h1;exact ⟨by simp only;omega,by simp only;omega⟩
 .exact ⟨zK _,h⟩
theorem zlp (h0:0<=i) (h:i<=ln w):i<=(qmd w i).2/\(qmd w i).2<=ln w:=by
 have h1:=zry h0 h
 have h2:(qg5 w i).2<=dgE w (qg5 w i).2:=qcm
 have h3:dgE w (qg5 w i).2<=ln w:=qjq h1.2
 exact ⟨by simp only [qmd];omega,h3⟩
theorem zsq (h0:0<=i) (hi:i<=ln w):qbg (upto (fr w i) (hdE (fr w i) 0))=(qmd w i).1:=by
 have e:=zpw h0 hi
 have e':hdE (fr w i) 0=dgE w (qg5 w i).2-i:=by omega
 rw [e',qmd]
 congr 1
 have h2:(qg5 w i).2<=dgE w (qg5 w i).2:=qcm
 cases h:tk w i 45 with
 | true=>
  have h1:=(qdo h0).1 h
  have hm:qg5 w i=([45],i+1):=by rw [qg5,zT h]
  rw [hm] at h2 ⊢
  simp only at h2 ⊢
  rw [qj2 h0 h1.1,qnu (by omega) h2]
  have hx:ix w i=45:=qe8 (by rw [<-ql4];exact h1.2)
  rw [hx]
  have:(dgE w (i+1)-i).toNat=(dgE w (i+1)-(i+1)).toNat+1:=by omega
  unfold upto
  rw [this];rfl
 | false=>
  have hm:qg5 w i=([],i):=by rw [qg5,zF (by rw [h];simp)]
  rw [hm] at h2 ⊢
  simp only at h2 ⊢
  rw [List.nil_append,qnu h0 h2]
theorem ziy (h0:0<=i) (hi:i<=ln w):hdF (fr w i)=(((qff w i).1,(qff w i).2.2.2.1),(qff w i).2.1,(qff w i).2.2.1,fr w (qff w i).2.2.2.2):=by
 have h1:=zlp h0 hi
 have h2:=zhk (w:=w) (i:=(qmd w i).2) (by omega) h1.2
 have e:fr (fr w i) (hdE (fr w i) 0)=fr w (qmd w i).2:=by
  have:=zpw h0 hi
  have hg:0<=hdE (fr w i) 0:=by
   have h3:(qmd w i).2=dgE w (qg5 w i).2:=rfl
   omega
  rw [q57 h0 hg,this];rfl
 simp only [hdF,e,zsq h0 hi,zqk (w:=w) (i:=(qmd w i).2) (by omega),qe5 (w:=w) (c:=42) (k:=42) (i:=(qko w (qmd w i).2).2) (by omega) rfl]
 rfl
theorem zkx (h0:0<=i) (h:i<=ln w):i<=(qff w i).2.2.2.2/\(qff w i).2.2.2.2<=ln w:=by
 have h1:=zlp h0 h
 have h2:=zhk (w:=w) (i:=(qmd w i).2) (by omega) h1.2
 have h3:=zav (w:=w) (i:=(qko w (qmd w i).2).2) (c:=42) (by omega) h2.2
 exact ⟨by simp only [qff];omega,h3.2⟩
theorem zoj {s:ZB}:∀ {i n:Int},0<=i->(qda s i n).2=true->∀ j,i<=j->j<ln s->qdw (bx s j)=true:=by
 intro i n
 fun_induction qda s i n with
 | case1 i n h hd hb=>intro _ h1;simp at h1
 | case2 i n h hd hb ih=>
  intro h0 h1 j h2 h3
  by_cases hj:j=i
  .rw [hj];exact hd
  .exact ih (by omega) h1 j (by omega) h3
 | case3 i n h hd=>intro _ h1;simp at h1
 | case4 i n h=>intro h0 _ j h2 h3;omega
theorem qke {s:ZB} (h:(qx s).2=true):0<ln s/\∀ j,0<=j->j<ln s->qdw (bx s j)=true:=by
 unfold qx at h
 split at h
 .simp at h
 .rename_i h1
  have:=qt s
  exact ⟨by omega,zoj (zK _) h⟩
theorem qyd (h0:0<=i) (hi:i<=ln w):((qfx w i).1.2=true/\(qfx w i).2=ln w)↔(qx (fr w i)).2=true:=by
 have hf:sub w i (ln w)=fr w i:=by rw [qnu h0 hi,qrz (by rw [qov h0 hi];omega)]
 constructor
 .rintro ⟨h1,h2⟩
  simp only [qfx] at h1 h2
  rw [h2,hf] at h1;exact h1
 .intro h
  have hl:=qov h0 hi
  have h1:=qke h
  have h2:dgE w i=ln w:=qnq h0 hi (zK _) (fun j a b=>by
   have:=h1.2 (j-i) (by omega) (by omega)
   rw [qjv h0 (by omega)] at this
   rw [show j=i+(j-i) by omega];exact this) (.inl rfl)
  simp only [qfx,h2,hf]
  exact ⟨h,trivial⟩
theorem q3l (h0:0<=i) (hi:i<=ln w) (h:(qx (fr w i)).2=true):(qfx w i).1.1=(qx (fr w i)).1:=by
 have hf:sub w i (ln w)=fr w i:=by rw [qnu h0 hi,qrz (by rw [qov h0 hi];omega)]
 have:=((qyd h0 hi).2 h).2
 simp only [qfx] at this ⊢
 rw [this,hf]
end
theorem zbd (c:UInt8) (t:ZB):bx (c::t) 0=(c.toNat:Int):=rfl
theorem qe6 (c d:UInt8) (t:ZB):tk (c::t) 0 d=decide (c=d):=by
 rw [Bool.eq_iff_iff,qdo (zK _),zbd,jo]
 have:=qt t
 simp only [decide_eq_true_eq]
 constructor
 .rintro ⟨_,h⟩;exact qe8 h
 .rintro rfl;exact ⟨by omega,rfl⟩
theorem qnv (d:UInt8):tk [] 0 d=false:=by
 rw [<-Bool.not_eq_true,qdo (zK _),qdn];omega
theorem q39 (w:ZB) (i:Int):qtn w i=if tk w i 88=true then some 1 else if tk w i 76=true then some 2 else if tk w i 66=true then some 3 else if tk w i 83=true then some 4 else if tk w i 77=true then some 5 else if tk w i 81=true then some 6 else if tk w i 70=true then some 7 else if tk w i 90=true then some 8 else none:=by
 unfold qtn
 iterate 8 (rw [qu6,dif_pos (by decide)])
 rw [qu6,dif_neg (by decide)]
 rfl
theorem qr0 (c:UInt8) (t:ZB):qtn (c::t) 0=if (qdt [c]).2=0 then some (qdt [c]).1 else none:=by
 rw [q39]
 simp only [qe6,decide_eq_true_eq,qdt,List.cons.injEq,and_true]
 by_cases h1:c=88
 .simp [h1]
 by_cases h2:c=76
 .simp [h2]
 by_cases h3:c=66
 .simp [h3]
 by_cases h4:c=83
 .simp [h4]
 by_cases h5:c=77
 .simp [h5]
 by_cases h6:c=81
 .simp [h6]
 by_cases h7:c=70
 .simp [h7]
 by_cases h8:c=90
 .simp [h8]
 simp [h1,h2,h3,h4,h5,h6,h7,h8]
theorem zdk:qtn [] 0=none:=by rw [q39];simp only [qnv];rfl
theorem val_two (c d:UInt8) (t:ZB):qdt (c::d::t)=(0,3):=by simp [qdt]
theorem zsg (c:UInt8) (t:ZB) (h:(qdt [c]).2=0):rdK (c::t) 1=zfk (c::t):=by
 have hl:1<=ln (c::t):=by rw [jo];have:=qt t;omega
 have hb:=zkx (w:=c::t) (i:=1) (by decide) hl
 have e:rdK (c::t) 1=rd1 (c::t):=rfl
 rw [e,rd1,qr0,zT h]
 simp only [zfk,ziy (w:=c::t) (i:=1) (by decide) hl]
 simp only [zir (w:=c::t) (by omega) hb.2]
 rfl
theorem qjm (c:UInt8) (t:ZB) (h:(qdt [c]).2≠0):rdK (c::t) 1=none:=by
 have e:rdK (c::t) 1=rd1 (c::t):=rfl
 rw [e,rd1,qr0,zF h]
theorem zsh (t:ZB):rdK (114::t) 2=q7m t:=by
 have e:rdK (114::t) 2=rd2 (114::t):=rfl
 have hv:qtn (114::t) 1=qtn t 0:=by rw [q39,q39];rfl
 rw [e,rd2,qe6,zT (by decide),hv]
 match t with
 | []=>rw [zdk];rfl
 | [d]=>
  rw [qr0,q7m]
  by_cases h:(qdt [d]).2=0
  .rw [zT h,zT h];rfl
  .rw [zF h,zF h]
 | d::a::u=>
  have h2:¬ (2:Int)=ln (114::d::a::u):=by simp only [jo];have:=qt u;omega
  have hr:q7m (d::a::u)=none:=by rw [q7m,val_two];rfl
  rw [qr0,hr]
  by_cases h:(qdt [d]).2=0
  .rw [zT h];exact zF h2
  .rw [zF h]
theorem qhy {w:ZB} (h:w≠[46]):rdK w 3=none:=by
 have e:rdK w 3=rd3 w:=rfl
 rw [e,rd3,zF]
 rintro ⟨h1,h2⟩
 match w with
 | []=>rw [qnv] at h1;cases h1
 | [c]=>rw [qe6,decide_eq_true_eq] at h1;exact h (by rw [h1])
 | c::d::t=>simp only [jo] at h2;have:=qt t;omega
theorem zk4 (t:ZB):rdK (116::t) 4=q38 t:=by
 have e:rdK (116::t) 4=rd4 (116::t):=rfl
 have hl:1<=ln ((116:UInt8)::t):=by rw [jo];have:=qt t;omega
 have h1:=zkx (w:=116::t) (i:=1) (by decide) hl
 have h2:=zsz (w:=116::t) (i:=(qff (116::t) 1).2.2.2.2) (by omega) h1.2
 have h3:=zav (w:=116::t) (c:=126) (i:=(qkv (116::t) (qff (116::t) 1).2.2.2.2).2) (by omega) h2.2
 have h4:=zav (w:=116::t) (c:=33) (i:=(qde (116::t) (qkv (116::t) (qff (116::t) 1).2.2.2.2).2 126).2) (by omega) h3.2
 have ht:q38 t=q38 (fr (116::t) 1):=rfl
 rw [e,ht,rd4,qe6,q38]
 simp only [ziy (w:=116::t) (i:=1) (by decide) hl,zs0 (w:=116::t) (i:=(qff (116::t) 1).2.2.2.2) (by omega),qe5 (w:=116::t) (c:=126) (k:=126) (i:=(qkv (116::t) (qff (116::t) 1).2.2.2.2).2) (by omega) rfl,
  qe5 (w:=116::t) (c:=33) (k:=33) (i:=(qde (116::t) (qkv (116::t) (qff (116::t) 1).2.2.2.2).2 126).2) (by omega) rfl,zay,decide_true,true_and]
 simp only [zir (w:=116::t) (by omega) h4.2]
theorem zk5:rdK [116,117,114,110] 4=none:=by
 rw [zk4,q38]
 have h:hdE [117,114,110] 0=0:=qn3 (.inr ⟨by decide,by decide⟩)
 have:(hdF [117,114,110]).1.2=false:=by rw [hdF,h];rfl
 simp only [this]
 rfl
theorem zag {w p:ZB} {k:Int} (h:w≠p):rdW w p k=none:=by
 rw [rdW,zF]
 rintro ⟨h1,h2⟩
 simp only [preB,zA,decide_eq_true_eq] at h1
 rw [qrz (by omega)] at h1
 exact h h1.2
theorem zk7 (c:UInt8) (t:ZB) (k:Int):rdN (c::t) c k=q6y k t:=by
 have hl:1<=ln (c::t):=by rw [jo];have:=qt t;omega
 have hf:fr (c::t) 1=t:=rfl
 have h1:=qyd (w:=c::t) (i:=1) (by decide) hl
 have h2:=q3l (w:=c::t) (i:=1) (by decide) hl
 rw [hf] at h1 h2
 rw [rdN,qe6,q6y]
 by_cases h:(qx t).2=true
 .rw [zT ⟨by simp,h1.2 h⟩,zT h,h2 h]
 .rw [zF (fun x=>h (h1.1 x.2)),zF h]
theorem zsl (t:ZB):rdK (64::t) 7=qwz t:=by
 have e:rdK (64::t) 7=rd7 (64::t):=rfl
 have h67:=qe5 (w:=64::t) (i:=1) (c:=67) (k:=67) (by decide) rfl
 have h70:=qe5 (w:=64::t) (i:=1) (c:=70) (k:=70) (by decide) rfl
 have h71:=qe5 (w:=64::t) (i:=1) (c:=71) (k:=71) (by decide) rfl
 have hf:fr ((64:UInt8)::t) 1=t:=rfl
 rw [hf] at h67 h70 h71
 have key:∀ (k:Int),2<=ln ((64:UInt8)::t)->(if (qfx (64::t) 2).1.2=true/\(qfx (64::t) 2).2=ln ((64:UInt8)::t) then some (Sign.mk 7 0 0 0 false 0 false false 0 0 0 0 false 0 0 k (qfx (64::t) 2).1.1) else none)
   = (if (qx (fr ((64:UInt8)::t) 2)).2=true then some (Sign.mk 7 0 0 0 false 0 false false 0 0 0 0 false 0 0 k (qx (fr ((64:UInt8)::t) 2)).1) else none):=by
  intro k hk
  have h1:=qyd (w:=64::t) (i:=2) (by decide) hk
  by_cases h:(qx (fr ((64:UInt8)::t) 2)).2=true
  .rw [zT (h1.2 h),zT h,q3l (w:=64::t) (i:=2) (by decide) hk h]
  .rw [zF (fun x=>h (h1.1 x)),zF h]
 rw [e,rd7,qe6,zT (by decide),qwz,q70,h67,h70,h71]
 unfold qde
 cases a1:tk (64::t) 1 67 with
 | true=>
  have:=((qdo (by decide)).1 a1).1
  exact key 0 (by omega)
 | false=>
  cases a2:tk (64::t) 1 70 with
  | true=>
   have:=((qdo (by decide)).1 a2).1
   exact key 3 (by omega)
  | false=>
   cases a3:tk (64::t) 1 71 with
   | true=>
    have:=((qdo (by decide)).1 a3).1
    exact key 4 (by omega)
   | false=>rfl
def M5 (t:ZB) (b:Bool):ZB:=40::(t++41::zm b 124)
theorem q95:∀ {l:List M4} {t:ZB},(qnk t l).2=0->∃ m ∈ l,txM m=t:=by
 intro l t
 induction l with
 | nil=>intro h;simp [qnk] at h
 | cons m l ih=>
  intro h
  by_cases hm:txM m=t
  .exact ⟨m,zC,hm⟩
  .rw [qnk,zF hm] at h
   obtain ⟨x,hx,hy⟩:=ih h
   exact ⟨x,zG _ hx,hy⟩
theorem zjm:∀ m ∈ allM,∀ b,rdK (M5 (txM m) b) 5=q3h (txM m++41::zm b 124):=by
 intro m hm b
 simp only [allM,zD,List.not_mem_nil,or_false] at hm
 rcases hm with h | h | h | h | h | h | h | h | h | h | h | h | h | h | h | h<;>subst h<;>cases b<;>rfl
theorem qpu {u:ZB} {c:UInt8} (h:0<ln u) (hc:bx u (ln u-1)=c.toNat):u=upto u (ln u-1)++[c]:=by
 have:=zgh (l:=u) (i:=ln u-1) (by omega) (by omega)
 rw [show ln u-1+1=ln u by omega,qrz (zK _),qe8 (a:=ix u (ln u-1)) (b:=c) (by rw [<-ql4];exact hc)] at this
 exact this
theorem zb0 {w:ZB} {i:Int} {c:UInt8} (h0:0<=i) (h:tk w i c=true):fr w i=c::fr w (i+1):=by
 have h1:=(qdo h0).1 h
 rw [qj2 h0 h1.1,qe8 (a:=ix w i) (b:=c) (by rw [<-ql4];exact h1.2)]
theorem zsj {t:ZB} {s:Sign} (h:rdK (40::t) 5=some s):∃ m ∈ allM,∃ b,t=txM m++41::zm b 124:=by
 have e:rdK (40::t) 5=rd5 (40::t):=rfl
 rw [e,rd5] at h
 split at h
 .rename_i hc
  obtain ⟨_,h2,h3,h4⟩:=hc
  have hg:=zjr (40::t)
  have ht:upto t (qet (40::t))=sub (40::t) 1 (1+qet (40::t)):=by
   rw [qnu (by decide) (by omega)]
   congr 1
   omega
  obtain ⟨m,hm,hx⟩:=q95 (l:=allM) (t:=sub (40::t) 1 (1+qet (40::t))) h2
  refine ⟨m,hm,(qde (40::t) (1+qet (40::t)+1) 124).1,?_⟩
  rw [hx,<-ht]
  have hs:t=upto t (qet (40::t))++fr t (qet (40::t)):=(List.take_append_drop _ _).symm
  have hf:fr t (qet (40::t))=fr (40::t) (1+qet (40::t)):=by rw [<-q57 (by decide) hg];rfl
  have h5:=zb0 (by omega) h3
  have h6:fr (40::t) (1+qet (40::t)+1)=zm (qde (40::t) (1+qet (40::t)+1) 124).1 124:=by
   unfold qde at h4 ⊢
   cases hb:tk (40::t) (1+qet (40::t)+1) 124 with
   | true=>
    rw [hb,zT rfl] at h4
    rw [zb0 (by omega) hb,qm2 (by simp only at h4;omega)]
    rfl
   | false=>
    rw [hb,zF (by decide)] at h4
    exact qm2 (by simp only at h4;omega)
  rw [<-h6,<-h5,<-hf]
  exact hs
 .cases h
theorem zn8 {t:ZB} {s:Sign} (h:q3h t=some s):∃ m ∈ allM,∃ b,t=txM m++41::zm b 124:=by
 by_cases hb:0<ln t/\bx t (ln t-1)=124
 .rw [q3h] at h
  simp only [decide_eq_true hb,if_true] at h
  split at h
  .rename_i hc
   obtain ⟨m,hm,hx⟩:=q95 (l:=allM) hc.2.2
   refine ⟨m,hm,true,?_⟩
   rw [hx]
   have h1:=qpu (c:=124) hb.1 hb.2
   have h2:=qpu (c:=41) hc.1 hc.2.1
   conv=>lhs;rw [h1,h2]
   rw [List.append_assoc];rfl
  .cases h
 .rw [q3h] at h
  simp only [decide_eq_false hb,Bool.false_eq_true,if_false] at h
  split at h
  .rename_i hc
   obtain ⟨m,hm,hx⟩:=q95 (l:=allM) hc.2.2
   refine ⟨m,hm,false,?_⟩
   rw [hx]
   exact qpu (c:=41) hc.1 hc.2.1
  .cases h
theorem zsi (t:ZB):rdK (40::t) 5=q3h t:=by
 cases h:rdK (40::t) 5 with
 | some s=>
  obtain ⟨m,hm,b,ht⟩:=zsj h
  rw [<-h,ht];exact zjm m hm b
 | none=>
  cases h':q3h t with
  | none=>rfl
  | some s=>
   obtain ⟨m,hm,b,ht⟩:=zn8 h'
   rw [<-h,<-h',ht];exact zjm m hm b
theorem q7a {s:ZB} {c k m:Int}:∀ (n:Nat) (i j:Int),0<=i->i<=j->j<=ln s->(∀ x,i<=x->x<j->bx s x≠c)->(j-i).toNat=n->qek s c i k m=qek s c j k m:=by
 intro n
 induction n with
 | zero=>intro i j h0 h1 h2 h3 hn;rw [show i=j by omega]
 | succ n ih=>
  intro i j h0 h1 h2 h3 hn
  rw [zfv h0 (by omega) (h3 i (zK _) (by omega))]
  exact ih (i+1) j (by omega) (by omega) h2 (fun x a b=>h3 x (by omega) b) (by omega)
theorem zot {s:ZB} {c i k m:Int} (h:(qek s c i k m).2.2=true) (h0:0<=i) (hk:m=1->0<=k/\k<ln s/\bx s k=c) (hm:0<=m):∃ k',0<=k'/\k'<ln s/\bx s k'=c/\qek s c i k m=(upto s k',fr s (k'+1),true):=by
 fun_induction qek s c i k m with
 | case1 i k m hi hc ih=>exact ih h (by omega) (fun _=>⟨by omega,by omega,hc⟩) (by omega)
 | case2 i k m hi hc ih=>exact ih h (by omega) hk hm
 | case3 i k hi=>exact ⟨k,(hk rfl).1,(hk rfl).2.1,(hk rfl).2.2,rfl⟩
 | case4 i k m hi hm=>simp at h
theorem qn1 {a l:ZB} {j:Int} (h0:0<=j) (h:j<ln a):bx (a++l) j=bx a j:=by rw [ql4,ql4,qx5 h0 h]
theorem qom (a l:ZB):upto (a++l) (ln a)=a:=by unfold upto ln;exact List.take_left' (by omega)
theorem qvq (a l:ZB):fr (a++l) (ln a)=l:=by unfold fr ln;exact List.drop_left' (by omega)
theorem qpd (a l:ZB) (c:UInt8):bx (a++c::l) (ln a)=c.toNat:=by
 have:=qjv (s:=a++c::l) (i:=ln a) (j:=0) (qt a) (zK _)
 rw [qvq,Int.add_zero] at this
 exact this.symm
theorem q9c (a l:ZB) (c:UInt8):fr (a++c::l) (ln a+1)=l:=by
 rw [<-q57 (qt a) (by decide),qvq];rfl
def S6 (n d:Int):Sign:=Sign.mk 6 0 0 0 false 0 false false 0 0 0 0 false n d 0 0
theorem zk6 {a b:ZB} (ha:(qx a).2=true) (hb:(qx b).2=true):rdK (a++47::b) 6=some (S6 (qx a).1 (qx b).1):=by
 have e:rdK (a++47::b) 6=rd6 (a++47::b):=rfl
 have hl:ln (a++47::b)=ln a+(ln b+1):=by rw [kz,jo]
 have n1:=qt a
 have n2:=qt b
 have hd:dgE (a++47::b) 0=ln a:=qnq (zK _) n1 (by omega) (fun j h1 h2=>by rw [qn1 h1 h2];exact (qke ha).2 j h1 h2) (.inr (by rw [qpd];rfl))
 have h0:qfx (a++47::b) 0=(qx a,ln a):=by
  rw [qfx,hd]
  have:sub (a++47::b) 0 (ln a)=a:=qom a (47::b)
  rw [this]
 have ht:tk (a++47::b) (ln a) 47=true:=(qdo n1).2 ⟨by omega,by rw [qpd]⟩
 have hf:=q9c a b 47
 have h2:=qyd (w:=a++47::b) (i:=ln a+1) (by omega) (by omega)
 have h3:=q3l (w:=a++47::b) (i:=ln a+1) (by omega) (by omega)
 rw [hf] at h2 h3
 rw [e,rd6]
 simp only [h0]
 rw [zT ⟨ha,ht,h2.2 hb⟩,h3 hb]
 rfl
theorem q99 {a b:ZB} (ha:(qx a).2=true) (hb:(qx b).2=true):qzw (a++47::b)=some (S6 (qx a).1 (qx b).1):=by
 have hl:ln (a++47::b)=ln a+(ln b+1):=by rw [kz,jo]
 have n1:=qt a
 have n2:=qt b
 have hn:∀ {x:Int},qdw x=true->x≠47:=by
  intro x h hx
  rw [hx] at h;cases h
 have h1:zc2 (a++47::b) 47=(a,b,true):=by
  rw [zc2,q7a (s:=a++47::b) (c:=47) _ 0 (ln a) (zK _) n1 (by omega) (fun x h1 h2=>by rw [qn1 h1 h2];exact hn ((qke ha).2 x h1 h2)) rfl,
   zks n1 (by omega) (by rw [qpd];rfl),
   q7a (s:=a++47::b) (c:=47) _ (ln a+1) (ln (a++47::b)) (by omega) (by omega) (zK _) (fun x h1 h2=>by
    have:=qjv (s:=a++47::b) (i:=ln a+1) (j:=x-(ln a+1)) (by omega) (by omega)
    rw [q9c,show ln a+1+(x-(ln a+1))=x by omega] at this
    rw [<-this]
    exact hn ((qke hb).2 _ (by omega) (by omega))) rfl,
   show (0:Int)+1=1 from rfl,zkt (zK _),qom,q9c]
 simp only [qzw,h1]
 rw [zT ⟨trivial,ha,hb⟩]
 rfl
theorem zaf {w:ZB} {s:Sign} (h:rdK w 6=some s):∃ a b,(qx a).2=true/\(qx b).2=true/\w=a++47::b:=by
 have e:rdK w 6=rd6 w:=rfl
 rw [e,rd6] at h
 split at h
 .rename_i hc
  obtain ⟨h1,h2,h3⟩:=hc
  have hg:0<=(qfx w 0).2:=qcm
  have h4:=(qdo hg).1 h2
  refine ⟨upto w (qfx w 0).2,fr w ((qfx w 0).2+1),h1,?_,?_⟩
  .exact (qyd (by omega) (by omega)).1 h3
  .rw [<-zb0 hg h2];exact (List.take_append_drop _ _).symm
 .cases h
theorem zk2 {w:ZB} {s:Sign} (h:qzw w=some s):∃ a b,(qx a).2=true/\(qx b).2=true/\w=a++47::b:=by
 simp only [qzw] at h
 split at h
 .rename_i hc
  obtain ⟨h1,h2,h3⟩:=hc
  obtain ⟨k,k0,k1,k2,k3⟩:=zot h1 (zK _) (fun h=>by omega) (zK _)
  have k4:zc2 w 47=(upto w k,fr w (k+1),true):=k3
  rw [k4] at h2 h3
  refine ⟨_,_,h2,h3,?_⟩
  have h5:tk w k 47=true:=(qdo k0).2 ⟨k1,k2⟩
  rw [<-zb0 k0 h5];exact (List.take_append_drop _ _).symm
 .cases h
theorem zsk (w:ZB):rdK w 6=qzw w:=by
 cases h:rdK w 6 with
 | some s=>
  obtain ⟨a,b,ha,hb,hw⟩:=zaf h
  rw [<-h,hw,zk6 ha hb,q99 ha hb]
 | none=>
  cases h':qzw w with
  | none=>rfl
  | some s=>
   obtain ⟨a,b,ha,hb,hw⟩:=zk2 h'
   rw [<-h,<-h',hw,zk6 ha hb,q99 ha hb]
theorem qjn {c:UInt8} {t:ZB} (hd:qdw c.toNat=false):rdK (c::t) 6=none:=by
 cases h:rdK (c::t) 6 with
 | none=>rfl
 | some s=>
  obtain ⟨a,b,ha,hb,hw⟩:=zaf h
  obtain ⟨h1,h2⟩:=qke ha
  have h3:=h2 0 (zK _) h1
  rw [<-qn1 (l:=47::b) (zK _) h1,<-hw,zbd,hd] at h3
  cases h3
theorem znq {w:ZB}:∀ (m:Nat) (i:Int),1<=i->(13-i).toNat=m->(∀ j,i<=j->j<=12->rdK w j=none)->qmc w i=none:=by
 intro m
 induction m with
 | zero=>intro i h0 hm _;rw [qmc,dif_neg (by omega)]
 | succ m ih=>
  intro i h0 hm h
  rw [qmc,dif_pos ⟨h0,by omega⟩,h i (zK _) (by omega)]
  exact ih (i+1) (by omega) (by omega) (fun j a b=>h j (by omega) b)
theorem zq1 {w:ZB} (k:Int) (h1:1<=k) (h2:k<=12) (h:∀ j,1<=j->j<=12->j≠k->rdK w j=none):qmc w 1=rdK w k:=by
 rw [zk8 h1 h2 (fun j a b=>h j a (by omega) (by omega)) _ 1 (by decide) h1 rfl,qmc,dif_pos ⟨h1,h2⟩]
 cases he:rdK w k with
 | some s=>rfl
 | none=>exact znq _ (k+1) (by omega) rfl (fun j a b=>h j (by omega) b (by omega))
theorem qbn {w:ZB} (k:Int) (h1:1<=k) (h2:k<=12) (r1:1≠k->rdK w 1=none) (r2:2≠k->rdK w 2=none) (r3:3≠k->rdK w 3=none) (r4:4≠k->rdK w 4=none) (r5:5≠k->rdK w 5=none) (r6:6≠k->rdK w 6=none)
  (r7:7≠k->rdK w 7=none) (r8:8≠k->rdK w 8=none) (r9:9≠k->rdK w 9=none) (r10:10≠k->rdK w 10=none) (r11:11≠k->rdK w 11=none) (r12:12≠k->rdK w 12=none):qmc w 1=rdK w k:=by
 refine zq1 k h1 h2 fun j a b c=>?_
 have:j=1∨j=2∨j=3∨j=4∨j=5∨j=6∨j=7∨j=8∨j=9∨j=10∨j=11∨j=12:=by omega
 rcases this with h | h | h | h | h | h | h | h | h | h | h | h<;>subst h
 .exact r1 c
 .exact r2 c
 .exact r3 c
 .exact r4 c
 .exact r5 c
 .exact r6 c
 .exact r7 c
 .exact r8 c
 .exact r9 c
 .exact r10 c
 .exact r11 c
 .exact r12 c
theorem qjb {c:UInt8} {t:ZB} (h:c≠114):rdK (c::t) 2=none:=zrp (by rw [qe6,decide_eq_false h])
theorem qkr {c:UInt8} {t:ZB} (h:c≠116):rdK (c::t) 4=none:=zrq (by rw [qe6,decide_eq_false h])
theorem qjc {c:UInt8} {t:ZB} (h:c≠40):rdK (c::t) 5=none:=zn0 (.inl (by rw [qe6,decide_eq_false h]))
theorem qjd {c:UInt8} {t:ZB} (h:c≠64):rdK (c::t) 7=none:=zrr (by rw [qe6,decide_eq_false h])
theorem qje {c:UInt8} {t:ZB} (h:c≠38):rdK (c::t) 8=none:=ze6 q01 (by rw [qe6,decide_eq_false h])
theorem qga {c:UInt8} {t:ZB} (h:c≠93):rdK (c::t) 10=none:=ze6 qsx (by rw [qe6,decide_eq_false h])
theorem qhv {w:ZB} (h:w≠[91]):rdK w 9=none:=zag (k:=9) h
theorem qe2 {w:ZB} (h:w≠[116,117,114,110]):rdK w 11=none:=zag (k:=11) h
theorem qe3 {w:ZB} (h:w≠[115,105,103]):rdK w 12=none:=zag (k:=12) h
theorem zdj {c:UInt8} (h:(qdt [c]).2=0):qdw c.toNat=false:=by
 simp only [qdt,List.cons.injEq,and_true] at h
 by_cases h1:c=88
 .subst h1;rfl
 by_cases h2:c=76
 .subst h2;rfl
 by_cases h3:c=66
 .subst h3;rfl
 by_cases h4:c=83
 .subst h4;rfl
 by_cases h5:c=77
 .subst h5;rfl
 by_cases h6:c=81
 .subst h6;rfl
 by_cases h7:c=70
 .subst h7;rfl
 by_cases h8:c=90
 .subst h8;rfl
 simp [h1,h2,h3,h4,h5,h6,h7,h8] at h
theorem zla (w:ZB):qmc w 1=qcg w:=by
 by_cases e0:w=[]
 .subst e0
  rw [qbn 9 (by decide) (by decide) (fun _=>by show rd1 []=none;rw [rd1,zdk]) (fun _=>zrp (qnv _)) (fun _=>qhy (by simp)) (fun _=>zrq (qnv _)) (fun _=>zn0 (.inl (qnv _)))
   (fun _=>by
     cases h:rdK [] 6 with
     | none=>rfl
     | some s=>obtain ⟨a,b,_,_,hw⟩:=zaf h;simp at hw)
   (fun _=>zrr (qnv _)) (fun _=>ze6 q01 (qnv _)) (fun h=>absurd rfl h) (fun _=>ze6 qsx (qnv _)) (fun _=>qe2 (by simp)) (fun _=>qe3 (by simp)),qhv (by simp)]
  rfl
 obtain ⟨c,t,rfl⟩:∃ c t,w=c::t:=by
  cases w with
  | nil=>exact absurd rfl e0
  | cons c t=>exact ⟨c,t,rfl⟩
 have hx:∀ d:UInt8,c≠d->bx (c::t) 0≠d.toNat:=fun d h h'=>h (qe8 h')
 by_cases e1:c::t=[46]
 .injection e1 with ec et
  subst ec;subst et
  rw [qbn 3 (by decide) (by decide) (fun _=>qjm _ _ (by decide)) (fun _=>qjb (by decide)) (fun h=>absurd rfl h) (fun _=>qkr (by decide)) (fun _=>qjc (by decide)) (fun _=>qjn rfl) (fun _=>qjd (by decide)) (fun _=>qje (by decide)) (fun _=>qhv (by decide)) (fun _=>qga (by decide)) (fun _=>qe2 (by decide)) (fun _=>qe3 (by decide))]
  rfl
 by_cases e2:c::t=[91]
 .injection e2 with ec et
  subst ec;subst et
  rw [qbn 9 (by decide) (by decide) (fun _=>qjm _ _ (by decide)) (fun _=>qjb (by decide)) (fun _=>qhy e1) (fun _=>qkr (by decide)) (fun _=>qjc (by decide)) (fun _=>qjn rfl) (fun _=>qjd (by decide)) (fun _=>qje (by decide)) (fun h=>absurd rfl h) (fun _=>qga (by decide)) (fun _=>qe2 (by decide)) (fun _=>qe3 (by decide))]
  rfl
 by_cases e3:c::t=[116,117,114,110]
 .injection e3 with ec et
  subst ec;subst et
  rw [qbn 11 (by decide) (by decide) (fun _=>qjm _ _ (by decide)) (fun _=>qjb (by decide)) (fun _=>qhy e1) (fun _=>zk5) (fun _=>qjc (by decide)) (fun _=>qjn rfl) (fun _=>qjd (by decide)) (fun _=>qje (by decide)) (fun _=>qhv e2) (fun _=>qga (by decide)) (fun h=>absurd rfl h) (fun _=>qe3 (by decide))]
  rfl
 by_cases e4:c::t=[115,105,103]
 .injection e4 with ec et
  subst ec;subst et
  rw [qbn 12 (by decide) (by decide) (fun _=>qjm _ _ (by decide)) (fun _=>qjb (by decide)) (fun _=>qhy e1) (fun _=>qkr (by decide)) (fun _=>qjc (by decide)) (fun _=>qjn rfl) (fun _=>qjd (by decide)) (fun _=>qje (by decide)) (fun _=>qhv e2) (fun _=>qga (by decide)) (fun _=>qe2 e3) (fun h=>absurd rfl h)]
  rfl
 by_cases c1:c=114
 .subst c1
  rw [zld e0 e1 e2 e3 e4 rfl,qbn 2 (by decide) (by decide) (fun _=>qjm _ _ (by decide)) (fun h=>absurd rfl h) (fun _=>qhy e1) (fun _=>qkr (by decide)) (fun _=>qjc (by decide)) (fun _=>qjn rfl) (fun _=>qjd (by decide)) (fun _=>qje (by decide)) (fun _=>qhv e2) (fun _=>qga (by decide)) (fun _=>qe2 e3) (fun _=>qe3 e4)]
  exact zsh t
 by_cases c2:c=116
 .subst c2
  rw [zle e0 e1 e2 e3 e4 rfl,qbn 4 (by decide) (by decide) (fun _=>qjm _ _ (by decide)) (fun _=>qjb (by decide)) (fun _=>qhy e1) (fun h=>absurd rfl h) (fun _=>qjc (by decide)) (fun _=>qjn rfl) (fun _=>qjd (by decide)) (fun _=>qje (by decide)) (fun _=>qhv e2) (fun _=>qga (by decide)) (fun _=>qe2 e3) (fun _=>qe3 e4)]
  exact zk4 t
 by_cases c3:c=40
 .subst c3
  rw [zlc e0 e1 e2 e3 e4 rfl,qbn 5 (by decide) (by decide) (fun _=>qjm _ _ (by decide)) (fun _=>qjb (by decide)) (fun _=>qhy e1) (fun _=>qkr (by decide)) (fun h=>absurd rfl h) (fun _=>qjn rfl) (fun _=>qjd (by decide)) (fun _=>qje (by decide)) (fun _=>qhv e2) (fun _=>qga (by decide)) (fun _=>qe2 e3) (fun _=>qe3 e4)]
  exact zsi t
 by_cases c4:c=64
 .subst c4
  rw [zlb e0 e1 e2 e3 e4 rfl,qbn 7 (by decide) (by decide) (fun _=>qjm _ _ (by decide)) (fun _=>qjb (by decide)) (fun _=>qhy e1) (fun _=>qkr (by decide)) (fun _=>qjc (by decide)) (fun _=>qjn rfl) (fun h=>absurd rfl h) (fun _=>qje (by decide)) (fun _=>qhv e2) (fun _=>qga (by decide)) (fun _=>qe2 e3) (fun _=>qe3 e4)]
  exact zsl t
 by_cases c5:c=38
 .subst c5
  rw [zk9 e0 e1 e2 e3 e4 rfl,qbn 8 (by decide) (by decide) (fun _=>qjm _ _ (by decide)) (fun _=>qjb (by decide)) (fun _=>qhy e1) (fun _=>qkr (by decide)) (fun _=>qjc (by decide)) (fun _=>qjn rfl) (fun _=>qjd (by decide)) (fun h=>absurd rfl h) (fun _=>qhv e2) (fun _=>qga (by decide)) (fun _=>qe2 e3) (fun _=>qe3 e4)]
  exact zk7 38 t 8
 by_cases c6:c=93
 .subst c6
  rw [zc5 e0 e1 e2 e3 e4 rfl,qbn 10 (by decide) (by decide) (fun _=>qjm _ _ (by decide)) (fun _=>qjb (by decide)) (fun _=>qhy e1) (fun _=>qkr (by decide)) (fun _=>qjc (by decide)) (fun _=>qjn rfl) (fun _=>qjd (by decide)) (fun _=>qje (by decide)) (fun _=>qhv e2) (fun h=>absurd rfl h) (fun _=>qe2 e3) (fun _=>qe3 e4)]
  exact zk7 93 t 10
 rw [q3v e0 e1 e2 e3 e4 (hx 114 c1) (hx 116 c2) (hx 40 c3) (hx 64 c4) (hx 38 c5) (hx 93 c6)]
 have hu:upto (c::t) 1=[c]:=rfl
 rw [hu]
 by_cases hv:(qdt [c]).2=0
 .rw [zT hv,qbn 1 (by decide) (by decide) (fun h=>absurd rfl h) (fun _=>qjb c1) (fun _=>qhy e1) (fun _=>qkr c2) (fun _=>qjc c3) (fun _=>qjn (zdj hv)) (fun _=>qjd c4) (fun _=>qje c5) (fun _=>qhv e2) (fun _=>qga c6) (fun _=>qe2 e3) (fun _=>qe3 e4)]
  exact zsg c t hv
 .rw [zF hv,qbn 6 (by decide) (by decide) (fun _=>qjm _ _ hv) (fun _=>qjb c1) (fun _=>qhy e1) (fun _=>qkr c2) (fun _=>qjc c3) (fun h=>absurd rfl h) (fun _=>qjd c4) (fun _=>qje c5) (fun _=>qhv e2) (fun _=>qga c6) (fun _=>qe2 e3) (fun _=>qe3 e4)]
  exact zsk (c::t)
theorem zlr (w:ZB):zg w=qlb w:=by rw [zg,qlb,zla]
end Go.Proofs.YtbopmiclcimjgaaGreatDoor
namespace Go.Proofs.YtbopmiclcimjgaaGreatDoor
open Go Go.E2 Go.E3
set_option maxRecDepth 100000
theorem sub_le (l:ZB) (i j:Int):ln (sub l i j)<=ln l:=by simp only [ln,sub,List.length_drop,List.length_take];omega
theorem zem (l:ZB) (f i:Int):∀ w ∈ (jf l f i).1,ln w.Text<=ln l:=by
 fun_induction jf l f i with
 | case1 i h1=>intro w hw;cases hw
 | case2 i h1 h2 h3 h4 ih=>
  intro w hw
  rcases zD.1 hw with rfl | hw
  .exact sub_le _ _ _
  .exact ih w hw
 | case3 i h1 h2 h3 h4 ih=>intro w hw;cases hw
 | case4 i h1 h2 h3=>intro w hw;cases hw
 | case5 i h1 h2 h3 h4 h5 ih=>
  intro w hw
  rcases zD.1 hw with rfl | hw
  .exact sub_le _ _ _
  .exact ih w hw
 | case6 i h1 h2 h3 h4 h5 ih=>intro w hw;cases hw
 | case7 i h1 h2 h3 h4=>intro w hw;cases hw
 | case8 i h1 h2 h3=>intro w hw;cases hw
theorem q7l:∀ (L:List ZB) (x:Int),∀ r ∈ (qau L x).1,1<=ln r.Words/\∀ w ∈ r.Words,ln w.Text<=1000
 | [],x=>fun r h=>by cases h
 | l::L,x=>by
  have ih:=q7l L (x+ln l+1)
  unfold qau
  split
  .intro r h;cases h
  .rename_i hl
   split
   .intro r h;cases h
   .split
    .split
     .exact ih
     .rename_i hne
      intro r hr
      rcases zD.1 hr with rfl | hr
      .refine ⟨?_,fun w hw=>?_⟩
       .show 1<=ln (jf l x 0).1
        cases hc:(jf l x 0).1 with
        | nil=>exact absurd hc hne
        | cons a b=>rw [jo];have:=qt b;omega
       .have:=zem l x 0 w hw;omega
      .exact ih r hr
    .intro r h;cases h
theorem zlg (t:ZB):∀ r ∈ (qd t).1,1<=ln r.Words/\ln r.Words<=1000/\∀ w ∈ r.Words,ln w.Text<=1000:=by
 intro r hr
 have h1:=(q7j t).2 r hr
 unfold qd at hr
 split at hr
 .cases hr
 .have:=q7l _ _ r hr
  exact ⟨this.1,h1,this.2⟩
section
variable {t:ZB} {x:List Sign} {y:List Word} {z:List Int} {i k:Int} {Q:Prop}
theorem zt3 {α:Type} [Inhabited α] {l:List α} {i j:Int} (h0:0<=i) (h1:0<=j):ix (fr l i) j=ix l (i+j):=by
 unfold ix fr
 rw [List.getD_eq_getElem?_getD,List.getD_eq_getElem?_getD,List.getElem?_drop,show (i+j).toNat=i.toNat+j.toNat by omega]
theorem q3y (h0:0<=i) (h:i<ln (qd t).1):1<=ln (ix (qd t).1 i).Words/\ln (ix (qd t).1 i).Words<=1000/\∀ w ∈ (ix (qd t).1 i).Words,ln w.Text<=1000:=zlg t _ (qg0 h0 h)
theorem q7i (h0:0<=i) (h:i<ln (qd t).1) (k0:0<=k) (k1:k<ln (ix (qd t).1 i).Words):ln (ix (ix (qd t).1 i).Words k).Text<=1000:=(q3y h0 h).2.2 _ (qg0 k0 k1)
theorem zhq (y:List Word) (w:Word):ats (y++[w])=ats y++[w.At]:=by simp [ats]
theorem zro (h0:0<=i) (h:i<ln y):ix (ats y) i=(ix y i).At:=by
 have hi:i.toNat<y.length:=by simp only [ln] at h;omega
 unfold ix ats
 rw [List.getD_eq_getElem?_getD,List.getD_eq_getElem?_getD,List.getElem?_map,List.getElem?_eq_getElem hi]
 rfl
def qkn (P:Res) (e x:Int):Prop:=P=qva e x
theorem zid {P:Res} {e x:Int}:(([]:ZB)=P.1.1/\([]:List Sign)=P.1.2/\(e:Int)=P.2.1/\(x:Int)=P.2.2/\True)↔qkn P e x:=by
 obtain ⟨⟨a,b⟩,c,d⟩:=P
 simp only [qkn,qva,zP,and_true]
 constructor
 .rintro ⟨rfl,rfl,rfl,rfl⟩;simp
 .rintro ⟨⟨rfl,rfl⟩,rfl,rfl⟩;simp
theorem zkw (h:(qd t).2.1≠0):qkn (zr t) (qd t).2.1 (qd t).2.2:=by rw [qkn,zr,zT h]
theorem zkv (h:(qd t).2.1=0) (h1:ln (qd t).1=0):qkn (zr t) 9 (ln t):=by rw [qkn,zr,zF (by omega),zT h1]
theorem q94 (h:(qd t).2.1=0) (h1:pv (ln (qd t).1≠0)) (h2:(ix (ix (qd t).1 0).Words 0).Text≠[112,97,114,116]∨(ix (ix (qd t).1 0).Words 0).Quoted=true∨ln (ix (qd t).1 0).Words≠2):qkn (zr t) 3 (ix (ix (qd t).1 0).Words 0).At:=by
 have he:qf8 t=3:=by rw [qf8];exact zT h2
 rw [qkn,zr,zF (by omega),zF (pv.out h1),zT (by rw [he];decide),q9i,zT he,he];rfl
theorem zb7 (h3:(ix (ix (qd t).1 0).Words 0).Text=[112,97,114,116]) (h4:(ix (ix (qd t).1 0).Words 0).Quoted=false) (h5:ln (ix (qd t).1 0).Words=2):¬ ((ix (hd0 t).Words 0).Text≠[112,97,114,116]∨(ix (hd0 t).Words 0).Quoted=true∨ln (hd0 t).Words≠2):=by
 rintro (h | h | h)
 .exact h h3
 .have h4':(ix (hd0 t).Words 0).Quoted=false:=h4
  rw [h4'] at h;cases h
 .exact h h5
theorem zku (h:(qd t).2.1=0) (h1:pv (ln (qd t).1≠0)) (h3:(ix (ix (qd t).1 0).Words 0).Text=[112,97,114,116]) (h4:(ix (ix (qd t).1 0).Words 0).Quoted=false) (h5:ln (ix (qd t).1 0).Words=2)
  (h2:(ix (ix (qd t).1 0).Words 1).Quoted=true∨qaj (ix (ix (qd t).1 0).Words 1).Text=false):qkn (zr t) 7 (ix (ix (qd t).1 0).Words 1).At:=by
 have he:qf8 t=7:=by rw [qf8,zF (zb7 h3 h4 h5)];exact zT h2
 rw [qkn,zr,zF (by omega),zF (pv.out h1),zT (by rw [he];decide),q9i,zF (by rw [he];decide),he];rfl
theorem zsb (h:(qd t).2.1=0) (h1:ln (qd t).1≠0) (h3:(ix (ix (qd t).1 0).Words 0).Text=[112,97,114,116]) (h4:(ix (ix (qd t).1 0).Words 0).Quoted=false) (h5:ln (ix (qd t).1 0).Words=2)
  (h6:(ix (ix (qd t).1 0).Words 1).Quoted=false) (h7:qaj (ix (ix (qd t).1 0).Words 1).Text=true):rws (nmB t) (ln t) (fr (qd t).1 1) [] []=zr t:=by
 have he:qf8 t=0:=by
  rw [qf8,zF (zb7 h3 h4 h5),zF]
  rintro (h | h)
  .have h6':(ix (hd0 t).Words 1).Quoted=false:=h6
   rw [h6'] at h;cases h
  .have h7':qaj (nmB t)=true:=h7
   rw [h7'] at h;cases h
 rw [zr,zF (by omega),zF h1,zF (by omega)]
theorem zeg {l:List Sign}:∀ (m:Nat) (i:Int),0<=i->i<=ln l->(ln l-i).toNat=m->(qi2 l i).1≠0->0<=(qi2 l i).2/\(qi2 l i).2<ln l:=by
 intro m
 induction m with
 | zero=>intro i h0 h1 hm h;rw [q2p (by omega)] at h;exact absurd rfl h
 | succ m ih=>
  intro i h0 h1 hm h
  by_cases he:qqy l i=0
  .rw [qwy (by omega) he] at h ⊢;exact ih (i+1) (by omega) (by omega) (by omega) h
  .rw [zbe (by omega) he];exact ⟨h0,by show i<ln l;omega⟩
theorem q81 {nm:ZB} {l:List Sign} (hn:qaj nm=true) (h:(zy nm l).1≠0):0<=(zy nm l).2/\(zy nm l).2<ln l:=by
 unfold zy at h ⊢
 rw [zF (by rw [hn];decide)] at h ⊢
 split
 .exact ⟨zK _,by show (0:Int)<ln l;omega⟩
 .rename_i hl
  rw [zF hl] at h
  exact zeg _ 0 (zK _) (qt l) rfl h
variable {nm:ZB} {len:Int} {rs:List Row} {P:Res}
theorem zo7 (h:rws nm len (fr rs i) x z=P) (h0:0<=i) (h1:i<ln rs) (h2:(ix (ix rs i).Words 0).Text=[101,110,100]) (h3:(ix (ix rs i).Words 0).Quoted=false):qsk nm (ix rs i) (fr rs (i+1)) x z=P:=by
 rw [qj2 h0 h1,rws,zT ⟨h2,h3⟩] at h;exact h
theorem zo8 (h:rws nm len (fr rs i) x z=P) (h0:0<=i) (h1:i<ln rs) (h2:(ix (ix rs i).Words 0).Text≠[101,110,100]∨(ix (ix rs i).Words 0).Quoted=true):qqr nm len (fr rs (i+1)) (wds (fr (ix rs i).Words 0) x z)=P:=by
 rw [qj2 h0 h1,rws,zF] at h
 .exact h
 .rintro ⟨a,b⟩
  rcases h2 with h2 | h2
  .exact h2 a
  .rw [h2] at b;cases b
theorem zlo (h:rws nm len (fr rs i) x z=P) (h1:ln rs<=i):qkn P 9 len:=by rw [qm2 h1] at h;exact h.symm
theorem zij (h:qsk nm (ix rs i) (fr rs (i+1)) x z=P) (h1:1<ln (ix rs i).Words):qkn P 3 (ix (ix rs i).Words 1).At:=by rw [qsk,zT h1] at h;exact h.symm
theorem zik (h:qsk nm (ix rs i) (fr rs (i+1)) x z=P) (h0:0<=i) (h1:ln (ix rs i).Words<=1) (h2:i+1<ln rs):qkn P 3 (ix (ix rs (i+1)).Words 0).At:=by
 have e:ix (fr rs (i+1)) 0=ix rs (i+1):=by rw [zt3 (by omega) (zK _),Int.add_zero]
 rw [qsk,zF (by omega),zT (by rw [qov (by omega) (by omega)];omega),e] at h;exact h.symm
theorem q55 (h:qsk nm (ix rs i) (fr rs (i+1)) x z=P) (h1:ln (ix rs i).Words<=1) (h2:ln rs<=i+1):(if (zy nm x).1≠0 then qva (zy nm x).1 (ix z (zy nm x).2) else ((nm,x),(0,0)))=P:=by
 rw [qsk,zF (by omega),zF (by rw [qm2 h2,qdn];omega)] at h;exact h
theorem znn (h:qsk nm (ix rs i) (fr rs (i+1)) x z=P) (h1:ln (ix rs i).Words<=1) (h2:ln rs<=i+1) (h3:(zy nm x).1≠0):qkn P (zy nm x).1 (ix z (zy nm x).2):=by
 have:=q55 h h1 h2
 rw [zT h3] at this;exact this.symm
theorem zii (h:qsk nm (ix rs i) (fr rs (i+1)) x z=P) (h1:ln (ix rs i).Words<=1) (h2:ln rs<=i+1) (h3:(zy nm x).1=0):P=((nm,x),(0,0)):=by
 have:=q55 h h1 h2
 rw [zF (by omega)] at this;exact this.symm
theorem zs4 {ws:List Word} (h:qqr nm len rs (wds (fr ws k) x z)=P) (h0:0<=k) (h1:k<ln ws) (h2:qr2 (ix ws k)≠0):qkn P (qr2 (ix ws k)) (ix ws k).At:=by
 rw [qj2 h0 h1,wds,zT h2,qqr,zT h2] at h;exact h.symm
theorem zpn {ws:List Word} (h:qqr nm len rs (wds (fr ws k) x z)=P) (h0:0<=k) (h1:k<ln ws) (h2:qr2 (ix ws k)=0):qqr nm len rs (wds (fr ws (k+1)) (x++[(qlb (ix ws k).Text).1]) (z++[(ix ws k).At]))=P:=by
 rw [qj2 h0 h1,wds,zF (by omega)] at h;exact h
theorem zpo {ws:List Word} (h:qqr nm len rs (wds (fr ws k) x z)=P) (h1:ln ws<=k):rws nm len rs x z=P:=by
 rw [qm2 h1,wds,qqr,zF (by simp)] at h;exact h
theorem zpt {w:Word} (h:w.Quoted=true):qr2 w=3:=by rw [qr2,zT h]
theorem zig {w:Word} (h:w.Quoted=false):qr2 w=(qlb w.Text).2:=by rw [qr2,zF (by rw [h];simp)]
end
def zqf (P:Res) (n:ZB) (l:List Sign):Prop:=P=((n,l),(0,0))
theorem zie {P:Res} {n:ZB} {l:List Sign}:(n=P.1.1/\l=P.1.2/\(0:Int)=P.2.1/\(0:Int)=P.2.2/\True)↔zqf P n l:=by
 obtain ⟨⟨a,b⟩,c,d⟩:=P
 simp only [zqf,zP,and_true]
 constructor
 .rintro ⟨rfl,rfl,rfl,rfl⟩;simp
 .rintro ⟨⟨rfl,rfl⟩,rfl,rfl⟩;simp
theorem zmc (w:Word):Word.mk w.At w.Text w.Quoted=w:=rfl
section
variable {t:ZB} {x:List Sign} {y:List Word} {z:List Int} {i k:Int} {Q:Prop}
theorem v0:(jh t x y i->Q)↔(pv (jh t x y i)->0<=i->i<=ln (fr (qd t).1 1)->ln y=ln x->ln x<=1000 * i->Q):=⟨fun h a _ _ _ _=>h a,fun h a=>h a a.out.1 a.out.2.1 a.out.2.2.1 a.out.2.2.2.1⟩
theorem v1:(kx t x y k i->Q)↔(pv (kx t x y k i)->0<=k->k<=ln (ix (fr (qd t).1 1) i).Words->ln y=ln x->ln x<=1000 * i+k->Q):=⟨fun h a _ _ _ _=>h a,fun h a=>h a a.out.1 a.out.2.1 a.out.2.2.1 a.out.2.2.2.1⟩
theorem v2:(qrb t x z i->Q)↔(pv (qrb t x z i)->1<=i->i<=ln (qd t).1->ln z=ln x->ln x<=1000 * i->Q):=⟨fun h a _ _ _ _=>h a,fun h a=>h a a.out.1 a.out.2.1 a.out.2.2.1 a.out.2.2.2.1⟩
theorem v3:(qrc t x z k i->Q)↔(pv (qrc t x z k i)->0<=k->k<=ln (ix (qd t).1 i).Words->ln z=ln x->ln x<=1000 * i+k->Q):=⟨fun h a _ _ _ _=>h a,fun h a=>h a a.out.1 a.out.2.1 a.out.2.2.1 a.out.2.2.2.1⟩
theorem v4:(i<ln (fr (qd t).1 1)->Q)↔(i+1<=ln (fr (qd t).1 1)->(0<=i->1<=ln (ix (fr (qd t).1 1) i).Words/\ln (ix (fr (qd t).1 1) i).Words<=1000)->(0<=i->i+2<=ln (qd t).1)->Q):=by
 constructor
 .intro h a _ _;exact h (by omega)
 .intro h a
  have hl:0<=i->i+2<=ln (qd t).1:=fun h0=>by
   have:ln (fr (qd t).1 1)=(ln (qd t).1-1).toNat:=by simp only [ln,fr,List.length_drop];omega
   omega
  refine h (by omega) (fun h0=>?_) hl
  rw [zi6 (by decide) h0]
  have:=q3y (t:=t) (i:=1+i) (by omega) (by have:=hl h0;omega)
  exact ⟨this.1,this.2.1⟩
theorem v5:(ln (qd t).1≠0->Q)↔(pv (ln (qd t).1≠0)->1<=ln (qd t).1->1<=ln (ix (qd t).1 0).Words->Q):=by
 constructor
 .intro h a _ _;exact h a
 .intro h a
  have:=qt (qd t).1
  exact h a (by omega) (q3y (zK _) (by omega)).1
theorem v6:(i<ln (qd t).1->Q)↔(i+1<=ln (qd t).1->(0<=i->1<=ln (ix (qd t).1 i).Words/\ln (ix (qd t).1 i).Words<=1000)->Q):=by
 constructor
 .intro h a _;exact h (by omega)
 .intro h a
  refine h (by omega) (fun h0=>?_)
  have:=q3y (t:=t) (i:=i) h0 a
  exact ⟨this.1,this.2.1⟩
theorem zoc (h:(qd t).2.1=0) (h1:pv (ln (qd t).1≠0)) (h3:(ix (ix (qd t).1 0).Words 0).Text=[112,97,114,116]) (h4:(ix (ix (qd t).1 0).Words 0).Quoted=false) (h5:ln (ix (qd t).1 0).Words=2)
  (h6:(ix (ix (qd t).1 0).Words 1).Quoted=false) (h7:qaj (ix (ix (qd t).1 0).Words 1).Text=true):jh t [] [] 0:=
 ⟨⟨zK _,qt _,rfl,by decide,zsb h h1 h3 h4 h5 h6 h7⟩⟩
theorem zp9 (h:pv (jh t x y i)) (h0:0<=i) (h1:i+1<=ln (fr (qd t).1 1)) (h2:(ix (ix (fr (qd t).1 1) i).Words 0).Text≠[101,110,100]∨(ix (ix (fr (qd t).1 1) i).Words 0).Quoted=true):kx t x y 0 i:=by
 obtain ⟨_,_,hl,hb,he⟩:=Hold.out h
 exact ⟨⟨zK _,qt _,hl,by omega,zo8 he h0 (by show i<ln (fr (qd t).1 1);omega) h2⟩⟩
theorem zcv (h:pv (jh t x y i)) (h0:0<=i) (h1:i+1<=ln (fr (qd t).1 1)) (h2:(ix (ix (fr (qd t).1 1) i).Words 0).Text=[101,110,100]) (h3:(ix (ix (fr (qd t).1 1) i).Words 0).Quoted=false) :
  qsk (nmB t) (ix (fr (qd t).1 1) i) (fr (fr (qd t).1 1) (i+1)) x (ats y)=zr t:=by
 obtain ⟨_,_,hl,hb,he⟩:=Hold.out h
 exact zo7 he h0 (by show i<ln (fr (qd t).1 1);omega) h2 h3
theorem zr1 (h:qsk (nmB t) (ix (fr (qd t).1 1) i) (fr (fr (qd t).1 1) (i+1)) x z=zr t) (h0:0<=i) (h1:ln (ix (fr (qd t).1 1) i).Words<=1) (h2:i+2+1<=ln (qd t).1):qkn (zr t) 3 (ix (ix (qd t).1 (i+2)).Words 0).At:=by
 have:=zik h h0 h1 (by rw [qov (by decide) (by omega)];omega)
 rw [zi6 (by decide) (by omega),show 1+(i+1)=i+2 by omega] at this;exact this
theorem zp8 (h:ln (qd t).1<=i+2) (h0:0<=i):ln (fr (qd t).1 1)<=i+1:=by
 simp only [ln,fr,List.length_drop] at *;omega
theorem zr0 (h:pv (jh t x y i)) (h0:0<=i) (h1:i+1<=ln (fr (qd t).1 1)) (h2:(ix (ix (fr (qd t).1 1) i).Words 0).Text=[101,110,100]) (h3:(ix (ix (fr (qd t).1 1) i).Words 0).Quoted=false) (h4:ln (ix (fr (qd t).1 1) i).Words<=1) (h5:ln (qd t).1<=i+2)
  (hl:ln y=ln x) (hn:qaj (ix (ix (qd t).1 0).Words 1).Text=true) (hc:(zy (ix (ix (qd t).1 0).Words 1).Text x).1≠0):qkn (zr t) (zy (ix (ix (qd t).1 0).Words 1).Text x).1 (ix y (zy (ix (ix (qd t).1 0).Words 1).Text x).2).At:=by
 have hk:=q81 hn hc
 rw [<-zro (y:=y) hk.1 (by rw [hl];exact hk.2)]
 exact znn (zcv h h0 h1 h2 h3) h4 (zp8 h5 h0) hc
theorem zul (h:pv (jh t x y i)) (h0:0<=i) (h1:i+1<=ln (fr (qd t).1 1)) (h2:(ix (ix (fr (qd t).1 1) i).Words 0).Text=[101,110,100]) (h3:(ix (ix (fr (qd t).1 1) i).Words 0).Quoted=false) (h4:ln (ix (fr (qd t).1 1) i).Words<=1) (h5:ln (qd t).1<=i+2)
  (hc:(zy (ix (ix (qd t).1 0).Words 1).Text x).1=0):zqf (zr t) (ix (ix (qd t).1 0).Words 1).Text x:=zii (zcv h h0 h1 h2 h3) h4 (zp8 h5 h0) hc
theorem zjt (h:pv (kx t x y k i)) (h0:0<=k) (h1:k<ln (ix (fr (qd t).1 1) i).Words) (h2:qr2 (ix (ix (fr (qd t).1 1) i).Words k)≠0):qkn (zr t) (qr2 (ix (ix (fr (qd t).1 1) i).Words k)) (ix (ix (fr (qd t).1 1) i).Words k).At:=by
 obtain ⟨_,_,hl,hb,he⟩:=Hold.out h
 exact zs4 he h0 h1 h2
theorem n_q (h:pv (kx t x y k i)) (h0:0<=k) (h1:k<ln (ix (fr (qd t).1 1) i).Words) (h2:(ix (ix (fr (qd t).1 1) i).Words k).Quoted=true):qkn (zr t) 3 (ix (ix (fr (qd t).1 1) i).Words k).At:=by
 have:=zjt h h0 h1 (by rw [zpt h2];decide)
 rw [zpt h2] at this;exact this
theorem n_e (h:pv (kx t x y k i)) (h0:0<=k) (h1:k<ln (ix (fr (qd t).1 1) i).Words) (h2:(ix (ix (fr (qd t).1 1) i).Words k).Quoted=false) (h3:(qlb (ix (ix (fr (qd t).1 1) i).Words k).Text).2≠0):qkn (zr t) (qlb (ix (ix (fr (qd t).1 1) i).Words k).Text).2 (ix (ix (fr (qd t).1 1) i).Words k).At:=by
 have:=zjt h h0 h1 (by rw [zig h2];exact h3)
 rw [zig h2] at this;exact this
theorem zr2 (h:pv (kx t x y k i)) (h0:0<=k) (h1:k<ln (ix (fr (qd t).1 1) i).Words) (h2:(ix (ix (fr (qd t).1 1) i).Words k).Quoted=false) (h3:(qlb (ix (ix (fr (qd t).1 1) i).Words k).Text).2=0) :
  kx t (x++[(qlb (ix (ix (fr (qd t).1 1) i).Words k).Text).1]) (y++[ix (ix (fr (qd t).1 1) i).Words k]) (k+1) i:=by
 obtain ⟨_,_,hl,hb,he⟩:=Hold.out h
 have:=zpn he h0 h1 (by show qr2 (ix (ix (fr (qd t).1 1) i).Words k)=0;rw [zig h2];exact h3)
 exact ⟨⟨by omega,by show k+1<=ln (ix (fr (qd t).1 1) i).Words;omega,by rw [qad,qad,hl],by rw [qad];omega,by rw [zhq];exact this⟩⟩
theorem zrz (h:pv (kx t x y k i)) (h0:0<=i) (h1:i+1<=ln (fr (qd t).1 1)) (h2:ln (ix (fr (qd t).1 1) i).Words<=k) (h3:ln (ix (fr (qd t).1 1) i).Words<=1000):jh t x y (i+1):=by
 obtain ⟨_,hk,hl,hb,he⟩:=Hold.out h
 have hk':k<=ln (ix (fr (qd t).1 1) i).Words:=hk
 exact ⟨⟨by omega,h1,hl,by omega,zpo he h2⟩⟩
theorem zr3 (h:pv (jh t x y i)) (h1:ln (fr (qd t).1 1)<=i):qkn (zr t) 9 (ln t):=by
 obtain ⟨_,_,hl,hb,he⟩:=Hold.out h
 exact zlo he h1
theorem zr4 (h0:0<=i) (h:i+1<=ln (fr (qd t).1 1)) (k0:0<=k) (k1:k<ln (ix (fr (qd t).1 1) i).Words):ln (ix (ix (fr (qd t).1 1) i).Words k).Text<=1000:=by
 have hl:ln (fr (qd t).1 1)=(ln (qd t).1-1).toNat:=by simp only [ln,fr,List.length_drop];omega
 rw [zi6 (by decide) h0] at k1 ⊢
 exact q7i (by omega) (by omega) k0 k1
theorem zv9 (h1:i+1<=ln (fr (qd t).1 1)) {x':List Sign} {y':List Word}:qbl t x' y' (i+1)<qbl t x y i:=by simp only [qbl,rst];omega
theorem zwa (h1:k<ln (ix (fr (qd t).1 1) i).Words) {x':List Sign} {y':List Word}:qbm t x' y' (k+1) i<qbm t x y k i:=by simp only [qbm,rst];omega
end
set_option maxHeartbeats 4000000 in
theorem zd0 (a0:ZB) (hp:ln a0<=1000000000):qr8 a0:=by
 unfold qr8 qr9 qsa
 dsimp only
 simp only [zid]
 simp only [zie]
 simp only [q7u,zmc,zlr,eq_self,true_and,v0,v1,v4,v5]
 simp only [v6]
 have hb:=q7j a0
 have hr:=hb.1
 have hf:ln (fr (qd a0).1 1)<=20001:=by simp only [ln,fr,List.length_drop] at *;omega
 clear hb
 unhygienic (repeat' (first | exact trivial | (with_reducible apply And.intro) | intro))
 all_goals first
  | (with_reducible exact zkw ‹_›)
  | (with_reducible exact zkv ‹_› ‹_›)
  | (with_reducible exact q94 ‹_› ‹_› (.inl ‹_›))
  | (with_reducible exact q94 ‹_› ‹_› (.inr (.inl ‹_›)))
  | (with_reducible exact q94 ‹_› ‹_› (.inr (.inr ‹_›)))
  | (with_reducible exact zku ‹_› ‹_› ‹_› ‹_› ‹_› (.inl ‹_›))
  | (with_reducible exact zku ‹_› ‹_› ‹_› ‹_› ‹_› (.inr ‹_›))
  | (with_reducible exact zoc ‹_› ‹_› ‹_› ‹_› ‹_› ‹_› ‹_›)
  | (with_reducible exact zp9 ‹_› ‹_› ‹_› (.inl ‹_›))
  | (with_reducible exact zp9 ‹_› ‹_› ‹_› (.inr ‹_›))
  | (with_reducible exact zij (zcv ‹_› ‹_› ‹_› ‹_› ‹_›) ‹_›)
  | (with_reducible exact zr1 (zcv ‹_› ‹_› ‹_› ‹_› ‹_›) ‹_› ‹_› ‹_›)
  | (with_reducible exact n_q ‹_› ‹_› ‹_› ‹_›)
  | (with_reducible exact n_e ‹_› ‹_› ‹_› ‹_› ‹_›)
  | (with_reducible exact zr2 ‹_› ‹_› ‹_› ‹_› ‹_›)
  | (with_reducible exact zrz ‹_› ‹_› ‹_› ‹_› (by omega))
  | (with_reducible exact zr3 ‹_› ‹_›)
  | (with_reducible exact zr4 ‹_› ‹_› ‹_› ‹_›)
  | (with_reducible exact zv9 ‹_›)
  | (with_reducible exact zwa ‹_›)
  | (with_reducible exact (q81 ‹_› ‹_›).1)
  | (with_reducible exact zr0 ‹_› ‹_› ‹_› ‹_› ‹_› ‹_› ‹_› ‹_› ‹_› ‹_›)
  | (with_reducible exact zul ‹_› ‹_› ‹_› ‹_› ‹_› ‹_› ‹_› ‹_›)
  | omega
  | (have:=q7i (t:=a0) (i:=0) (k:=1) (by decide) (by omega) (by decide) (by omega);omega)
  | exact qhb (by omega)
  | (have:=(q81 ‹_› ‹_›).2;omega)
  | fail "rest"
section
variable {t:ZB} {x:List Sign} {z:List Int} {i k:Int}
end
end Go.Proofs.YtbopmiclcimjgaaGreatDoor
namespace Go.Proofs.YtbopmiclcimjgaaGreatDoor
open Go Go.E2 Go.E3
set_option maxRecDepth 100000
theorem zwc {a:UInt8} (h1:(48:Int)<=a.toNat) (h2:(a.toNat:Int)<=57):qx [a]=((a.toNat:Int)-48,true):=by
 have e:bx [a] 0=(a.toNat:Int):=rfl
 have l:ln [a]=1:=rfl
 rw [qx,zF (by rw [l];omega),qjh (zK _) (by rw [l];decide) (by rw [e];exact h1) (by rw [e];exact h2) (by rw [e];omega),qvy (by rw [l];decide),e]
 congr 1;omega
theorem zwd {a b:UInt8} (h0:(a.toNat:Int)≠48) (h1:(48:Int)<=a.toNat) (h2:(a.toNat:Int)<=57) (h3:(48:Int)<=b.toNat) (h4:(b.toNat:Int)<=57):qx [a,b]=(10 * ((a.toNat:Int)-48)+((b.toNat:Int)-48),true):=by
 have e:bx [a,b] 0=(a.toNat:Int):=rfl
 have e1:bx [a,b] (0+1)=(b.toNat:Int):=rfl
 have l:ln [a,b]=2:=rfl
 rw [qx,zF (by rw [l,e];omega),qjh (zK _) (by rw [l];decide) (by rw [e];exact h1) (by rw [e];exact h2) (by rw [e];omega),
  qjh (by decide) (by rw [l];decide) (by rw [e1];exact h3) (by rw [e1];exact h4) (by rw [e,e1];omega),qvy (by rw [l];decide),e,e1]
 congr 1;omega
theorem zr7:qx [49,48,48]=(100,true):=by
 have l:ln ([49,48,48]:ZB)=3:=rfl
 rw [qx,zF (by rw [l];decide),qjh (zK _) (by rw [l];decide) (by decide) (by decide) (by decide),qjh (by decide) (by rw [l];decide) (by decide) (by decide) (by decide),
  qjh (by decide) (by rw [l];decide) (by decide) (by decide) (by decide),qvy (by rw [l];decide)]
 rfl
theorem q2v {n:Int} (h0:0<=n) (h:n<=9):((UInt8.ofNat (48+n.toNat)).toNat:Int)=48+n:=by
 have:n=0∨n=1∨n=2∨n=3∨n=4∨n=5∨n=6∨n=7∨n=8∨n=9:=by omega
 rcases this with h | h | h | h | h | h | h | h | h | h<;>subst h<;>rfl
theorem qhh {n:Int} (h0:0<=n) (h:n<=100):qx (qd3 n)=(n,true):=by
 unfold qd3
 split
 .have:=q2v h0 (by omega)
  unfold d1
  rw [zwc (by omega) (by omega),this]
  congr 1;omega
 .split
  .have h1:=q2v (n:=n / 10) (by omega) (by omega)
   have h2:=q2v (n:=n % 10) (by omega) (by omega)
   show qx [UInt8.ofNat (48+(n / 10).toNat),UInt8.ofNat (48+(n % 10).toNat)]=_
   rw [zwd (by omega) (by omega) (by omega) (by omega) (by omega),h1,h2]
   congr 1;omega
  .have:n=100:=by omega
   subst this;exact zr7
theorem zjv {n:Int} (h0:0<=n) (h:n<=100):¬ (0<ln (qd3 n)/\bx (qd3 n) 0=45):=by
 have:=(qke (s:=qd3 n) (by rw [qhh h0 h])).2 0 (zK _)
 rintro ⟨h1,h2⟩
 have h3:=this h1
 rw [h2] at h3;cases h3
theorem zlq {n:Int} (h0:-4<=n) (h:n<=100):qbg (zf n)=(n,true):=by
 unfold zf
 split
 .have hn:=qhh (n:=-n) (by omega) (by omega)
  rw [q34 (s:=45::qd3 (-n)) ⟨by rw [jo];have:=qt (qd3 (-n));omega,rfl⟩ (by show (qx (qd3 (-n))).2=true;rw [hn]) (by show (qx (qd3 (-n))).1≠0;rw [hn];show -n≠0;omega)]
  show (-(qx (qd3 (-n))).1,true)=_
  rw [hn];show (- -n,true)=_;rw [Int.neg_neg]
 .rw [zam (zjv (by omega) h)];exact qhh (by omega) h
def b0 (s:ZB):Int:=match s with
 | []=>-1
 | c::_=>(c.toNat:Int)
theorem qev (c:UInt8) (t:ZB) {k:Int} (h:k=c.toNat):qbx (c::t) k=(t,true):=by
 rw [qbx,zT ⟨by rw [jo];have:=qt t;omega,by rw [h];rfl⟩];rfl
theorem qkh {t:ZB} {k:Int} (h:b0 t≠k):qbx t k=(t,false):=by
 rw [qbx,zF]
 rintro ⟨h1,h2⟩
 cases t with
 | nil=>rw [qdn] at h1;omega
 | cons c t=>exact h h2
theorem qin {c:UInt8} {t:ZB} {k:Int} (h:(c.toNat:Int)≠k):qbx (c::t) k=(c::t,false):=qkh h
theorem qtj {b:Bool} {c:UInt8} {t:ZB} {k:Int} (hk:k=c.toNat) (h:b0 t≠k):qbx (zm b c++t) k=(t,b):=by
 cases b with
 | true=>exact qev c t hk
 | false=>exact qkh h
theorem zmt {b:Bool} {c:UInt8} {t:ZB} {Q:Int->Prop} (h1:Q c.toNat) (h2:Q (b0 t)):Q (b0 (zm b c++t)):=by
 cases b with
 | true=>exact h1
 | false=>exact h2
theorem zqj {a:Int} {t:ZB} (h0:-1<=a) (h:a<=2) (h1:b0 t≠98) (h2:b0 t≠35) (h3:b0 t≠110):qqg (qmb a++t)=(a,t):=by
 have:a = -1∨a=0∨a=1∨a=2:=by omega
 rcases this with h | h | h | h<;>subst h
 .show qqg (98::t)=_
  simp only [qqg,qev 98 t (k:=98) rfl,if_true]
 .show qqg t=_
  simp only [qqg,qkh h1,qkh h2,qkh h3,Bool.false_eq_true,if_false]
 .show qqg (35::t)=_
  simp only [qqg,qev 35 t (k:=35) rfl,qin (c:=35) (t:=t) (k:=98) (by decide),Bool.false_eq_true,if_false,if_true]
 .show qqg (110::t)=_
  simp only [qqg,qev 110 t (k:=110) rfl,qin (c:=110) (t:=t) (k:=98) (by decide),qin (c:=110) (t:=t) (k:=35) (by decide),Bool.false_eq_true,if_false,if_true]
theorem zsy {a:Int} {t:ZB} (h0:0<=a) (h:a<=3) (h1:b0 t≠94) (h2:b0 t≠118) (h3:b0 t≠62):qvk (qgo a++t)=(a,t):=by
 have:a=0∨a=1∨a=2∨a=3:=by omega
 rcases this with h | h | h | h<;>subst h
 .show qvk t=_
  simp only [qvk,qkh h1,qkh h2,qkh h3,Bool.false_eq_true,if_false]
 .show qvk (94::t)=_
  simp only [qvk,qev 94 t (k:=94) rfl,if_true]
 .show qvk (118::t)=_
  simp only [qvk,qev 118 t (k:=118) rfl,qin (c:=118) (t:=t) (k:=94) (by decide),Bool.false_eq_true,if_false,if_true]
 .show qvk (62::t)=_
  simp only [qvk,qev 62 t (k:=62) rfl,qin (c:=62) (t:=t) (k:=94) (by decide),qin (c:=62) (t:=t) (k:=118) (by decide),Bool.false_eq_true,if_false,if_true]
theorem zt0:∀ (m:Nat) (s:ZB) (i k:Int),0<=i->i<=k->k<=ln s->(∀ j,i<=j->j<k->(48<=bx s j/\bx s j<=57)∨(j=0/\bx s j=45))->(k=ln s∨(¬ (48<=bx s k/\bx s k<=57)/\¬ (k=0/\bx s k=45)))->(k-i).toNat=m->hdE s i=k:=by
 intro m
 induction m with
 | zero=>
  intro s i k h0 h1 h2 h3 h4 hm
  have:i=k:=by omega
  subst this
  exact qn3 (h4.imp (fun h=>by omega) id)
 | succ m ih=>
  intro s i k h0 h1 h2 h3 h4 hm
  rw [zb4 h0 (by omega) (h3 i (zK _) (by omega))]
  exact ih s (i+1) k (by omega) (by omega) h2 (fun j a b=>h3 j (by omega) b) h4 (by omega)
theorem zbs {b:Int}:qdw b=true↔48<=b/\b<=57:=by simp [qdw]
theorem qrk {n:Int} (h0:0<=n) (h:n<=100):0<ln (qd3 n)/\∀ j,0<=j->j<ln (qd3 n)->48<=bx (qd3 n) j/\bx (qd3 n) j<=57:=by
 have:=qke (s:=qd3 n) (by rw [qhh h0 h])
 exact ⟨this.1,fun j a b=>zbs.1 (this.2 j a b)⟩
theorem qsv {n:Int} (h0:-4<=n) (h:n<=100):0<ln (zf n)/\∀ j,0<=j->j<ln (zf n)->(48<=bx (zf n) j/\bx (zf n) j<=57)∨(j=0/\bx (zf n) j=45):=by
 unfold zf
 split
 .have hd:=qrk (n:=-n) (by omega) (by omega)
  refine ⟨by rw [jo];omega,fun j a b=>?_⟩
  rw [jo] at b
  by_cases hj:j=0
  .subst hj;exact .inr ⟨rfl,rfl⟩
  .left
   have e:bx (45::qd3 (-n)) j=bx (qd3 (-n)) (j-1):=by
    have:=qjv (s:=45::qd3 (-n)) (i:=1) (j:=j-1) (by decide) (by omega)
    rw [show 1+(j-1)=j by omega] at this
    rw [<-this];rfl
   rw [e];exact hd.2 _ (by omega) (by omega)
 .have hd:=qrk (n:=n) (by omega) h
  exact ⟨hd.1,fun j a b=>.inl (hd.2 j a b)⟩
theorem zns {n:Int} {t:ZB} (h0:-4<=n) (h:n<=100) (ht:b0 t<48∨57<b0 t):hdE (zf n++t) 0=ln (zf n):=by
 obtain ⟨d1,d2⟩:=qsv h0 h
 have hl:ln (zf n++t)=ln (zf n)+ln t:=kz _ _
 have:=qt t
 refine zt0 _ _ _ _ (zK _) (by omega) (by omega) (fun j a b=>by rw [qn1 a b];exact d2 j a b) ?_ rfl
 cases t with
 | nil=>left;rw [zJ]
 | cons c t=>
  right
  rw [qpd]
  have ht:(c.toNat:Int)<48∨57<(c.toNat:Int):=ht
  omega
structure Rst (t:ZB):Prop where
 d:b0 t<48∨57<b0 t
 a:b0 t≠98
 b:b0 t≠35
 c:b0 t≠110
 e:b0 t≠42
theorem zix {p a:Int} {c:Bool} {t:ZB} (p0:-4<=p) (p1:p<=100) (a0:-1<=a) (a1:a<=2) (ht:Rst t):hdF (zf p++(qmb a++(zm c 42++t)))=((p,true),a,c,t):=by
 have m1:=zmt (b:=c) (c:=42) (t:=t) (Q:=fun x=>(x<48∨57<x)/\x≠98/\x≠35/\x≠110) (by decide) ⟨ht.d,ht.a,ht.b,ht.c⟩
 have hd:b0 (qmb a++(zm c 42++t))<48∨57<b0 (qmb a++(zm c 42++t)):=by
  have:a = -1∨a=0∨a=1∨a=2:=by omega
  rcases this with h | h | h | h<;>subst h
  .exact .inr (show (57:Int)<98 by decide)
  .exact m1.1
  .exact .inl (show (35:Int)<48 by decide)
  .exact .inr (show (57:Int)<110 by decide)
 have e:=zns (t:=qmb a++(zm c 42++t)) p0 p1 hd
 simp only [hdF,e,qom,qvq,zlq p0 p1,zqj a0 a1 m1.2.1 m1.2.2.1 m1.2.2.2,qtj (c:=42) (k:=42) rfl ht.e]
theorem zrv:∀ m ∈ allM,∀ b,q3h (txM m++41::zm b 124)=some (Sign.mk 5 0 0 0 false 0 false false m.1 m.2.1 m.2.2.1 m.2.2.2 b 0 0 0 0):=by
 intro m hm b
 simp only [allM,zD,List.not_mem_nil,or_false] at hm
 rcases hm with h | h | h | h | h | h | h | h | h | h | h | h | h | h | h | h<;>subst h<;>cases b<;>rfl
theorem zpr {a b c d:Int} (h:qb5 a b c d=0):(a,b,c,d) ∈ allM:=by
 unfold qb5 at h
 split at h
 .rename_i hc
  obtain ⟨h1,h2,h3,h4⟩:=hc
  rcases h1 with h1 | h1<;>rcases h2 with h2 | h2<;>rcases h3 with h3 | h3<;>rcases h4 with h4 | h4<;>subst h1<;>subst h2<;>subst h3<;>subst h4<;>decide
 .cases h
theorem eight {v:Int} (h:1<=v/\v<=8):v=1∨v=2∨v=3∨v=4∨v=5∨v=6∨v=7∨v=8:=by omega
theorem q9q {v:Int} (h:1<=v/\v<=8):∃ c,ltr v=[c]/\qdt [c]=(v,0)/\(c=88∨c=76∨c=66∨c=83∨c=77∨c=81∨c=70∨c=90):=by
 rcases eight h with h | h | h | h | h | h | h | h<;>subst h
 .exact ⟨88,rfl,rfl,by decide⟩
 .exact ⟨76,rfl,rfl,by decide⟩
 .exact ⟨66,rfl,rfl,by decide⟩
 .exact ⟨83,rfl,rfl,by decide⟩
 .exact ⟨77,rfl,rfl,by decide⟩
 .exact ⟨81,rfl,rfl,by decide⟩
 .exact ⟨70,rfl,rfl,by decide⟩
 .exact ⟨90,rfl,rfl,by decide⟩
theorem qkc {c d:UInt8} {t u:ZB} (h:c≠d):c::t≠d::u:=fun e=>h (List.cons.inj e).1
theorem ql5 {c:UInt8} {t:ZB} {d:UInt8} {k:Int} (hk:k=d.toNat) (h:c≠d):bx (c::t) 0≠k:=fun e=>h (qe8 (by rw [<-hk];exact e))
theorem zsn {c:UInt8} {v:Int} (t:ZB) (hv:qdt [c]=(v,0)) (hc:c=88∨c=76∨c=66∨c=83∨c=77∨c=81∨c=70∨c=90):qcg (c::t)=zfk (c::t):=by
 have hn:∀ d:UInt8,¬ (d=88∨d=76∨d=66∨d=83∨d=77∨d=81∨d=70∨d=90)->c≠d:=by
  rintro d hd rfl;exact hd hc
 rw [q3v (by simp) (qkc (hn 46 (by decide))) (qkc (hn 91 (by decide))) (qkc (hn 116 (by decide))) (qkc (hn 115 (by decide)))
  (ql5 (d:=114) rfl (hn _ (by decide))) (ql5 (d:=116) rfl (hn _ (by decide))) (ql5 (d:=40) rfl (hn _ (by decide))) (ql5 (d:=64) rfl (hn _ (by decide))) (ql5 (d:=38) rfl (hn _ (by decide))) (ql5 (d:=93) rfl (hn _ (by decide)))]
 exact zT (by show (qdt [c]).2=0;rw [hv])
theorem head_eq (s:Sign):qhn s=zf s.Place++(qmb s.Acc++(zm s.Color 42++[])):=by
 rw [qhn,zJ,List.append_assoc];rfl
theorem zo3:Rst []:=⟨.inl (by decide),by decide,by decide,by decide,by decide⟩
theorem zmu {k:Int} {t:ZB} {Q:Int->Prop} (h1:Q 94) (h2:Q 118) (h3:Q 62) (h4:Q (b0 t)):Q (b0 (qgo k++t)):=by
 unfold qgo
 (repeat' split)
 .exact h1
 .exact h2
 .exact h3
 .exact h4
theorem qji {n:Int} (h0:0<=n) (h:n<=100):zf n=qd3 n:=by rw [zf,zF (by omega)]
theorem zcy {k n:Int} (h0:0<=n) (h:n<=100):q6y k (zf n)=some (Sign.mk k 0 0 0 false 0 false false 0 0 0 0 false n 0 0 0):=by
 rw [qji h0 h,q6y,qhh h0 h];rfl
theorem zqn {k n:Int} (hk:k=0∨k=3∨k=4) (h0:0<=n) (h:n<=100):qwz (qnt k++zf n)=some (Sign.mk 7 0 0 0 false 0 false false 0 0 0 0 false 0 0 k n):=by
 have hn:=qhh h0 h
 rw [qji h0 h]
 rcases hk with h | h | h<;>subst h
 .show qwz (67::qd3 n)=_
  simp only [qwz,qev 67 (qd3 n) (k:=67) rfl,if_true,hn]
 .show qwz (70::qd3 n)=_
  simp only [qwz,qin (c:=70) (t:=qd3 n) (k:=67) (by decide),qev 70 (qd3 n) (k:=70) rfl,if_true,hn,Bool.false_eq_true,if_false]
 .show qwz (71::qd3 n)=_
  simp only [qwz,qin (c:=71) (t:=qd3 n) (k:=67) (by decide),qin (c:=71) (t:=qd3 n) (k:=70) (by decide),qev 71 (qd3 n) (k:=71) rfl,if_true,hn,Bool.false_eq_true,if_false]
theorem zs1 {p a k:Int} {c o l:Bool} (p0:-4<=p) (p1:p<=100) (a0:-1<=a) (a1:a<=2) (k0:0<=k) (k1:k<=3) :
  q38 (zf p++(qmb a++(zm c 42++(qgo k++(zm o 126++(zm l 33++[]))))))=some (Sign.mk 4 0 p a c k o l 0 0 0 0 false 0 0 0 0):=by
 have h1:b0 (zm l 33++[])=33∨b0 (zm l 33++[]) = -1:=by cases l<;>decide
 have h2:b0 (zm o 126++(zm l 33++[]))=126∨b0 (zm o 126++(zm l 33++[]))=33∨b0 (zm o 126++(zm l 33++[])) = -1:=by cases o<;>cases l<;>decide
 have h3:Rst (qgo k++(zm o 126++(zm l 33++[]))):=by
  have:=zmu (k:=k) (t:=zm o 126++(zm l 33++[])) (Q:=fun x=>(x<48∨57<x)/\x≠98/\x≠35/\x≠110/\x≠42) (by decide) (by decide) (by decide) (by omega)
  exact ⟨this.1,this.2.1,this.2.2.1,this.2.2.2.1,this.2.2.2.2⟩
 simp only [q38,zix p0 p1 a0 a1 h3,zsy k0 k1 (t:=zm o 126++(zm l 33++[])) (by omega) (by omega) (by omega),qtj (c:=126) (k:=126) (b:=o) (t:=zm l 33++[]) rfl (by omega),
  qtj (c:=33) (k:=33) (b:=l) (t:=[]) rfl (by decide),and_self,if_true]
theorem zsm {n:Int} (t:ZB) (h0:0<=n) (h:n<=100):qcg (zf n++47::t)=qzw (zf n++47::t):=by
 obtain ⟨h1,h2⟩:=qrk h0 h
 rw [qji h0 h]
 cases hn:qd3 n with
 | nil=>rw [hn,qdn] at h1;omega
 | cons c u=>
  have hc:=h2 0 (zK _) h1
  rw [hn] at hc
  have hc:(48:Int)<=(c.toNat:Int)/\(c.toNat:Int)<=57:=hc
  have hx:∀ d:UInt8,¬ ((48:Int)<=(d.toNat:Int)/\(d.toNat:Int)<=57)->c≠d:=by
   rintro d hd rfl;exact hd hc
  rw [List.cons_append,q3v (by simp) (qkc (hx 46 (by decide))) (qkc (hx 91 (by decide))) (qkc (hx 116 (by decide))) (qkc (hx 115 (by decide)))
   (ql5 (d:=114) rfl (hx _ (by decide))) (ql5 (d:=116) rfl (hx _ (by decide))) (ql5 (d:=40) rfl (hx _ (by decide))) (ql5 (d:=64) rfl (hx _ (by decide))) (ql5 (d:=38) rfl (hx _ (by decide))) (ql5 (d:=93) rfl (hx _ (by decide)))]
  refine zF ?_
  show (qdt [c]).2≠0
  intro hv
  have:=zdj hv
  rw [zbs.2 hc] at this
  cases this
theorem zs8 (p a st:Int) (c ob la:Bool):jn (Sign.mk 4 0 p a c st ob la 0 0 0 0 false 0 0 0 0)=116::(zf p++(qmb a++(zm c 42++(qgo st++(zm ob 126++(zm la 33++[])))))):=by
 show qjs _=_
 rw [qjs,head_eq]
 simp only [List.append_assoc,zJ,List.cons_append,List.nil_append]
theorem zs9 (m1 m2 m3 m4:Int) (sk:Bool):jn (Sign.mk 5 0 0 0 false 0 false false m1 m2 m3 m4 sk 0 0 0 0)=40::(txM (m1,m2,m3,m4)++41::zm sk 124):=by
 show [40]++jr m1 m2 m3 m4++[41]++zm sk 124=_
 simp only [List.append_assoc,List.cons_append,List.nil_append];rfl
theorem zta (n d:Int):jn (Sign.mk 6 0 0 0 false 0 false false 0 0 0 0 false n d 0 0)=zf n++47::zf d:=by
 show zf n++[47]++zf d=_
 simp only [List.append_assoc,List.cons_append,List.nil_append]
theorem q1q {s:Sign} (h:ku s=0):qcg (jn s)=some s:=by
 obtain ⟨k1,k2,hk,hm,hr,ho⟩:=q9x h
 obtain ⟨K,v,p,a,c,st,ob,la,m1,m2,m3,m4,sk,n,d,cs,cl⟩:=s
 have:K=1∨K=2∨K=3∨K=4∨K=5∨K=6∨K=7∨K=8∨K=9∨K=10∨K=11∨K=12:=by
  have k1:1<=K:=k1
  have k2:K<=12:=k2
  omega
 unfold qm9 at hk
 unfold qg9 at hr
 dsimp only at hk hr hm
 rcases this with e | e | e | e | e | e | e | e | e | e | e | e<;>subst e
 .simp at hk hr
  obtain ⟨⟨rfl,rfl,rfl⟩,⟨rfl,rfl,rfl,rfl,rfl⟩,rfl,rfl,rfl,rfl⟩:=hk
  obtain ⟨x1,hcs,hv,hc8⟩:=q9q (v:=v) hr.1
  have e:=zix (p:=p) (a:=a) (c:=c) (t:=[]) (by omega) (by omega) (by omega) (by omega) zo3
  show qcg (ltr v++qhn _)=_
  rw [hcs,head_eq]
  show qcg (x1::(zf p++(qmb a++(zm c 42++[]))))=_
  rw [zsn _ hv hc8,zfk]
  have ef:fr (x1::(zf p++(qmb a++(zm c 42++[])))) 1=zf p++(qmb a++(zm c 42++[])):=rfl
  have eu:upto (x1::(zf p++(qmb a++(zm c 42++[])))) 1=[x1]:=rfl
  rw [ef,eu,e,hv]
  rfl
 .simp at hk hr
  obtain ⟨⟨rfl,rfl,rfl⟩,⟨rfl,rfl,rfl⟩,⟨rfl,rfl,rfl,rfl,rfl⟩,rfl,rfl,rfl,rfl⟩:=hk
  obtain ⟨x1,hcs,hv,hc8⟩:=q9q (v:=v) hr
  show qcg (114::ltr v)=_
  rw [hcs,zld (by simp) (by simp) (by simp) (by simp) (by simp) rfl]
  show q7m [x1]=_
  rw [q7m,hv];rfl
 .simp at hk
  obtain ⟨rfl,⟨rfl,rfl,rfl⟩,⟨rfl,rfl,rfl⟩,⟨rfl,rfl,rfl,rfl,rfl⟩,rfl,rfl,rfl,rfl⟩:=hk
  rfl
 .simp at hk hr
  obtain ⟨rfl,⟨rfl,rfl,rfl,rfl,rfl⟩,rfl,rfl,rfl,rfl⟩:=hk
  have h5:=qsv (n:=p) (by omega) (by omega)
  rw [zs8,zle (by simp) (by simp) (by simp) ?_ (by simp) rfl]
  .exact zs1 (by omega) (by omega) (by omega) (by omega) (by omega) (by omega)
  .cases hi:zf p with
   | nil=>rw [hi,qdn] at h5;omega
   | cons x u=>
    have h6:=h5.2 0 (zK _) h5.1
    rw [hi] at h6
    have h6:((48:Int)<=(x.toNat:Int)/\(x.toNat:Int)<=57)∨((0:Int)=0/\(x.toNat:Int)=45):=h6
    intro hh
    have hx:x=117:=(List.cons.inj (List.cons.inj hh).2).1
    subst hx
    revert h6;decide
 .simp at hk
  obtain ⟨rfl,⟨rfl,rfl,rfl⟩,⟨rfl,rfl,rfl⟩,rfl,rfl,rfl,rfl⟩:=hk
  have hm:=zpr (hm rfl)
  have h1:=zrv _ hm sk
  rw [zs9,zlc (by simp) (by simp) (by simp) (by simp) (by simp) rfl]
  exact h1
 .simp at hk hr
  obtain ⟨rfl,⟨rfl,rfl,rfl⟩,⟨rfl,rfl,rfl⟩,⟨rfl,rfl,rfl,rfl,rfl⟩,rfl,rfl⟩:=hk
  rw [zta,zsm _ (by omega) (by omega),qji (n:=n) (by omega) (by omega),qji (n:=d) (by omega) (by omega),q99 (by rw [qhh (n:=n) (by omega) (by omega)]) (by rw [qhh (n:=d) (by omega) (by omega)]),qhh (n:=n) (by omega) (by omega),qhh (n:=d) (by omega) (by omega)]
  rfl
 .simp at hk hr
  obtain ⟨rfl,⟨rfl,rfl,rfl⟩,⟨rfl,rfl,rfl⟩,⟨rfl,rfl,rfl,rfl,rfl⟩,rfl,rfl⟩:=hk
  show qcg ([64]++qnt cs++zf cl)=_
  rw [List.append_assoc]
  show qcg (64::(qnt cs++zf cl))=_
  rw [zlb (by simp) (by simp) (by simp) (by simp) (by simp) rfl]
  exact zqn hr.1 (by omega) (by omega)
 .simp at hk hr
  obtain ⟨rfl,⟨rfl,rfl,rfl⟩,⟨rfl,rfl,rfl⟩,⟨rfl,rfl,rfl,rfl,rfl⟩,rfl,rfl,rfl⟩:=hk
  show qcg (38::zf n)=_
  rw [zk9 (by simp) (by simp) (by simp) (by simp) (by simp) rfl]
  exact zcy (by omega) (by omega)
 .simp at hk
  obtain ⟨rfl,⟨rfl,rfl,rfl⟩,⟨rfl,rfl,rfl⟩,⟨rfl,rfl,rfl,rfl,rfl⟩,rfl,rfl,rfl,rfl⟩:=hk
  rfl
 .simp at hk hr
  obtain ⟨rfl,⟨rfl,rfl,rfl⟩,⟨rfl,rfl,rfl⟩,⟨rfl,rfl,rfl,rfl,rfl⟩,rfl,rfl,rfl⟩:=hk
  have h5:=qsv (n:=n) (by omega) (by omega)
  show qcg (93::zf n)=_
  rw [zc5 (by simp) (by simp) (by simp) (by simp) (by simp) rfl]
  exact zcy (by omega) (by omega)
 .simp at hk
  obtain ⟨rfl,⟨rfl,rfl,rfl⟩,⟨rfl,rfl,rfl⟩,⟨rfl,rfl,rfl,rfl,rfl⟩,rfl,rfl,rfl,rfl⟩:=hk
  rfl
 .simp at hk
  obtain ⟨rfl,⟨rfl,rfl,rfl⟩,⟨rfl,rfl,rfl⟩,⟨rfl,rfl,rfl,rfl,rfl⟩,rfl,rfl,rfl,rfl⟩:=hk
  rfl
theorem take_drop (t:ZB) (i:Int):t=upto t i++fr t i:=(List.take_append_drop _ _).symm
theorem q2a {s:Sign} (h:ku s=0):qlb (jn s)=(s,0):=by
 rw [qlb,q1q h,fin,zT h]
end Go.Proofs.YtbopmiclcimjgaaGreatDoor
namespace Go.Proofs.YtbopmiclcimjgaaGreatDoor
open Go Go.E2 Go.E3
set_option maxRecDepth 100000
abbrev WW:=ZB×Bool
def strip (w:Word):WW:=(w.Text,w.Quoted)
def qfk (r:Row):List WW:=r.Words.map strip
def mkW (t:ZB):WW:=(t,false)
def qgi (s:ZB):Prop:=s≠[]/\∀ b ∈ s,z6 (b.toNat:Int)=true
theorem qv0 {s:ZB} (h:qgi s):∀ b ∈ s,(b.toNat:Int)≠10:=fun b hb e=>by
 have:=qfg.1 (h.2 b hb);omega
theorem zfy {s:ZB} (h:qgi s):0<ln s:=q9o h.1
def ql7 (p:ZB×List WW):Prop:=ln p.1<=1000/\(∀ b ∈ p.1,(b.toNat:Int)≠10)/\∀ f,∃ ws',jf p.1 f 0=(ws',-1)/\ws'.map strip=p.2
def qqd (l:ZB) (ws:List WW):Prop:=(∀ b ∈ l,(b.toNat:Int)≠10)/\∀ f,∃ ws',ws'.map strip=ws/\∀ t r,jf (l++t) f (ln l)=(r,-1)->jf (l++t) f 0=(ws'++r,-1)
theorem qof:qqd [] []:=⟨fun _ h=>(by cases h),fun _=>⟨[],rfl,fun _ _ h=>h⟩⟩
theorem qk7 {a b:ZB} (h1:∀ x ∈ a,(x.toNat:Int)≠10) (h2:∀ x ∈ b,(x.toNat:Int)≠10):∀ x ∈ a++b,(x.toNat:Int)≠10:=fun x hx=>(List.mem_append.1 hx).elim (h1 x) (h2 x)
theorem q0i {l t:ZB} {f:Int}:jf (l++32::t) f (ln l)=jf (l++32::t) f (ln l+1):=
 zen (qt l) (by rw [kz,jo];have:=qt t;omega) (by rw [qpd];rfl)
theorem q7d {l:ZB} {ws:List WW} (h:qqd l ws):qqd (l++[32]) ws:=by
 refine ⟨qk7 h.1 (by decide),fun f=>?_⟩
 obtain ⟨ws',e,g⟩:=h.2 f
 refine ⟨ws',e,fun t r hr=>?_⟩
 have ea:(l++[32])++t=l++32::t:=by rw [List.append_assoc];rfl
 have el:ln (l++[32])=ln l+1:=by rw [kz];rfl
 rw [ea,el] at hr
 rw [ea]
 exact g _ _ (q0i.trans hr)
theorem qy8 {l w t:ZB} {f:Int} {r:List Word} (hw:qgi w) (ht:b0 t = -1∨b0 t=32∨b0 t=59) (h:jf (l++(w++t)) f (ln l+ln w)=(r,-1)):jf (l++(w++t)) f (ln l)=(⟨f+ln l,w,false⟩::r,-1):=by
 have n0:=qt l
 have n1:=zfy hw
 have n2:=qt t
 have hL:ln (l++(w++t))=ln l+(ln w+ln t):=by rw [kz,kz]
 have hf:fr (l++(w++t)) (ln l)=w++t:=qvq _ _
 have hb:∀ j,0<=j->j<ln w->z6 (bx (l++(w++t)) (ln l+j))=true:=by
  intro j a b
  rw [<-qjv n0 a,hf,qn1 a b,ql4]
  exact hw.2 _ (qg0 a b)
 have hrun:zj z6 (l++(w++t)) (ln l)=ln l+ln w:=by
  refine qnq n0 (by omega) (by omega) (fun j a b=>by rw [show j=ln l+(j-ln l) by omega];exact hb _ (by omega) (by omega)) ?_
  cases t with
  | nil=>left;rw [hL,qdn,Int.add_zero]
  | cons c t=>
   right
   have e:bx (l++(w++c::t)) (ln l+ln w)=c.toNat:=by
    rw [<-qjv n0 (by omega),hf,qpd]
   rw [e]
   have ht:(c.toNat:Int) = -1∨(c.toNat:Int)=32∨(c.toNat:Int)=59:=ht
   rcases ht with ht | ht | ht
   .omega
   .rw [ht];rfl
   .rw [ht];rfl
 have hb0:=hb 0 (zK _) n1
 rw [Int.add_zero] at hb0
 rw [q0n n0 (by omega) hb0 hrun,h,zT (show (-1:Int)<0 by decide)]
 have:sub (l++(w++t)) (ln l) (ln l+ln w)=w:=by
  rw [qnu n0 (by omega),hf,show ln l+ln w-ln l=ln w by omega,qom]
 rw [this]
theorem qyo {l w:ZB} {ws:List WW} (h:qqd l ws) (hw:qgi w):qqd (l++w++[32]) (ws++[mkW w]):=by
 refine ⟨qk7 (qk7 h.1 (qv0 hw)) (by decide),fun f=>?_⟩
 obtain ⟨ws',e,g⟩:=h.2 f
 refine ⟨ws'++[⟨f+ln l,w,false⟩],by rw [List.map_append,e];rfl,fun t r hr=>?_⟩
 have ea:(l++w++[32])++t=l++(w++32::t):=by simp only [List.append_assoc,List.cons_append,List.nil_append]
 have eb:(l++w)++32::t=l++(w++32::t):=List.append_assoc _ _ _
 have el:ln (l++w++[32])=ln (l++w)+1:=by rw [kz];rfl
 rw [ea,el] at hr
 rw [ea,List.append_assoc]
 refine g _ _ (qy8 hw (.inr (.inl rfl)) ?_)
 rw [<-kz,<-eb,q0i,eb];exact hr
theorem q02 {l:ZB} {ws:List WW} (h:qqd l ws) (hl:ln l<=1000):ql7 (l,ws):=by
 refine ⟨hl,h.1,fun f=>?_⟩
 obtain ⟨ws',e,g⟩:=h.2 f
 have:=g [] [] (by rw [zJ];exact qqt (.inl (zK _)))
 rw [zJ,zJ] at this
 exact ⟨ws',this,e⟩
theorem q03 {l w:ZB} {ws:List WW} (h:qqd l ws) (hw:qgi w) (hl:ln l+ln w<=1000):ql7 (l++w,ws++[mkW w]):=by
 refine ⟨by show ln (l++w)<=1000;rw [kz];exact hl,qk7 h.1 (qv0 hw),fun f=>?_⟩
 obtain ⟨ws',e,g⟩:=h.2 f
 have:=g (w++[]) _ (qy8 hw (.inl rfl) (qqt (.inl (by rw [zJ,kz];exact zK _))))
 rw [zJ] at this
 exact ⟨_,this,by rw [List.map_append,e];rfl⟩
theorem zjg {l w:ZB} {ws:List WW} (h:qqd l ws) (hw:qgi w) (hl:ln l+ln w<=990):ql7 (l++w++[32,59,32,83,52],ws++[mkW w]):=by
 have e5:ln ([32,59,32,83,52]:ZB)=5:=rfl
 have r:=qyo h hw
 have ea:l++w++[32,59,32,83,52]=(l++w++[32])++[59,32,83,52]:=by simp only [List.append_assoc,List.cons_append,List.nil_append]
 refine ⟨by show ln (l++w++_)<=1000;rw [kz,kz,e5];omega,qk7 (qk7 h.1 (qv0 hw)) (by decide),fun f=>?_⟩
 obtain ⟨ws',e,g⟩:=r.2 f
 have:=g [59,32,83,52] [] (qqt (.inr (by rw [qpd];rfl)))
 rw [<-ea,zJ] at this
 exact ⟨ws',this,e⟩
abbrev LW:=ZB×List WW
def full (ps:List LW):List (List WW):=(ps.map (·.2)).filter fun w=>!w.isEmpty
theorem zc7:∀ (ps:List LW) (x:Int),(∀ p ∈ ps,ql7 p)->∃ rows',qau (ps.map (·.1)) x=(rows',0,0)/\rows'.map qfk=full ps
 | [],x,_=>⟨[],rfl,rfl⟩
 | p::ps,x,h=>by
  obtain ⟨h1,_,h3⟩:=h p zC
  obtain ⟨ws',q1,q2⟩:=h3 x
  obtain ⟨rows',q3,q4⟩:=zc7 ps (x+ln p.1+1) fun p' hp=>h p' (zG _ hp)
  by_cases hw:ws'=[]
  .subst hw
   refine ⟨rows',?_,?_⟩
   .simp only [List.map_cons,qau,q1,q3,zF (show ¬ 1000<ln p.1 by omega),zF (by decide:¬ (0:Int)<=-1),if_true]
   .have:p.2=[]:=q2.symm
    simp [full,q4,this]
  .refine ⟨⟨x,ws'⟩::rows',?_,?_⟩
   .simp only [List.map_cons,qau,q1,q3,zF (show ¬ 1000<ln p.1 by omega),zF (by decide:¬ (0:Int)<=-1),if_true,zF hw]
   .have hne:p.2≠[]:=by
     rw [<-q2]
     simpa using hw
    have hne':p.2.isEmpty=false:=by
     cases hp:p.2 with
     | nil=>exact absurd hp hne
     | cons a l=>rfl
    simp [full,qfk,q2,q4,hne']
def qm1 (ps:List LW):ZB:=ps.flatMap fun p=>p.1++([10]:ZB)
theorem q7y:∀ (ps:List LW) (q:LW),(∀ p ∈ ps,ql7 p)->ql7 q->qy 10 (qm1 ps++q.1)=ps.map (·.1)++[q.1]
 | [],q,_,hq=>qht hq.2.1
 | p::ps,q,h,hq=>by
  have hl:qm1 (p::ps)++q.1=p.1++10::(qm1 ps++q.1):=by simp [qm1,List.append_assoc]
  rw [hl,qp5 (c:=10) (b:=10) rfl (h p zC).2.1,q7y ps q (fun p' hp=>h p' (zG _ hp)) hq]
  rfl
theorem zc6 {ps:List LW} {q:LW} (h:∀ p ∈ ps,ql7 p) (hq:ql7 q) (hb:ln (qm1 ps++q.1)<=20000):∃ rows',qd (qm1 ps++q.1)=(rows',0,0)/\rows'.map qfk=full (ps++[q]):=by
 obtain ⟨rows',q1,q2⟩:=zc7 (ps++[q]) 0 fun p hp=>(List.mem_append.1 hp).elim (h p) fun hp=>by rw [List.mem_singleton.1 hp];exact hq
 have e:(ps++[q]).map (·.1)=ps.map (·.1)++[q.1]:=by simp
 rw [e,<-q7y ps q h hq] at q1
 exact ⟨rows',by rw [qhs hb];exact q1,q2⟩
theorem qk3 (a b:List LW):full (a++b)=full a++full b:=by simp [full]
theorem qvr {l:ZB} {ws:List WW} (h:ws≠[]):full [(l,ws)]=[ws]:=by
 cases ws with
 | nil=>exact absurd rfl h
 | cons a t=>rfl
theorem q59 {l:ZB}:full [(l,[])]=[]:=rfl
theorem qsl (ps:List LW) (l:ZB) (ws:List WW):qm1 (ps++[(l,ws)])=qm1 ps++(l++[10]):=by simp [qm1]
def St (u:ZB) (rs:List (List WW)) (ws:List WW) (B:Int):Prop:=∃ ps l,u=qm1 ps++l/\(∀ p ∈ ps,ql7 p)/\full ps=rs/\qqd l ws/\ln l<=B
theorem zsx:St [] [] [] 0:=⟨[],[],rfl,fun _ h=>(by cases h),rfl,qof,zK _⟩
theorem St.mono {u:ZB} {rs:List (List WW)} {ws:List WW} {B C:Int} (h:St u rs ws B) (hc:B<=C):St u rs ws C:=by
 obtain ⟨ps,l,a,b,c,d,e⟩:=h
 exact ⟨ps,l,a,b,c,d,by omega⟩
theorem St.blank {u:ZB} {rs:List (List WW)} {ws:List WW} {B:Int} (h:St u rs ws B):St (u++[32]) rs ws (B+1):=by
 obtain ⟨ps,l,a,b,c,d,e⟩:=h
 exact ⟨ps,l++[32],by rw [a,List.append_assoc],b,c,q7d d,by rw [qad];omega⟩
theorem St.word {u w:ZB} {rs:List (List WW)} {ws:List WW} {B:Int} (h:St u rs ws B) (hw:qgi w):St (u++w++[32]) rs (ws++[mkW w]) (B+ln w+1):=by
 obtain ⟨ps,l,a,b,c,d,e⟩:=h
 exact ⟨ps,l++w++[32],by rw [a];simp only [List.append_assoc],b,c,qyo d hw,by rw [qad,kz];omega⟩
theorem qsd {ps:List LW} {q:LW} (h:∀ p ∈ ps,ql7 p) (hq:ql7 q):∀ p ∈ ps++[q],ql7 p:=fun p hp=>(List.mem_append.1 hp).elim (h p) fun hp=>by rw [List.mem_singleton.1 hp];exact hq
theorem St.row {u w:ZB} {rs:List (List WW)} {ws:List WW} {B:Int} (h:St u rs ws B) (hw:qgi w) (hl:B+ln w<=990):St (u++w++[10]) (rs++[ws++[mkW w]]) [] 0:=by
 obtain ⟨ps,l,a,b,c,d,e⟩:=h
 exact ⟨ps++[(l++w,ws++[mkW w])],[],by rw [a,qsl];simp only [List.append_assoc,zJ],qsd b (q03 d hw (by omega)),by rw [qk3,c,qvr (by simp)],qof,zK _⟩
theorem St.cmt {u w:ZB} {rs:List (List WW)} {ws:List WW} {B:Int} (h:St u rs ws B) (hw:qgi w) (hl:B+ln w<=990):St (u++w++[32,59,32,83,52,10]) (rs++[ws++[mkW w]]) [] 0:=by
 obtain ⟨ps,l,a,b,c,d,e⟩:=h
 exact ⟨ps++[(l++w++[32,59,32,83,52],ws++[mkW w])],[],by rw [a,qsl];simp only [List.append_assoc,zJ,List.cons_append,List.nil_append],qsd b (zjg d hw (by omega)),by rw [qk3,c,qvr (by simp)],qof,zK _⟩
def zct (rs:List (List WW)) (ws:List WW):List (List WW):=if ws=[] then rs else rs++[ws]
theorem St.nl {u:ZB} {rs:List (List WW)} {ws:List WW} {B:Int} (h:St u rs ws B) (hl:B<=990):St (u++[10]) (zct rs ws) [] 0:=by
 obtain ⟨ps,l,a,b,c,d,e⟩:=h
 refine ⟨ps++[(l,ws)],[],by rw [a,qsl];simp only [List.append_assoc,zJ],qsd b (q02 d (by omega)),?_,qof,zK _⟩
 unfold zct
 split
 .rename_i hw;subst hw;rw [qk3,c,q59,zJ]
 .rename_i hw;rw [qk3,c,qvr hw]
theorem St.last {u w:ZB} {rs:List (List WW)} {ws:List WW} {B:Int} (h:St u rs ws B) (hw:qgi w) (hl:B+ln w<=990) (hb:ln (u++w)<=20000):∃ rows',qd (u++w)=(rows',0,0)/\rows'.map qfk=rs++[ws++[mkW w]]:=by
 obtain ⟨ps,l,a,b,c,d,e⟩:=h
 have ea:u++w=qm1 ps++(l++w):=by rw [a,List.append_assoc]
 rw [ea] at hb ⊢
 obtain ⟨rows',q1,q2⟩:=zc6 (q:=(l++w,ws++[mkW w])) b (q03 d hw (by omega)) hb
 exact ⟨rows',q1,by rw [q2,qk3,c,qvr (by simp)]⟩
theorem St.done {u:ZB} {rs:List (List WW)} {B:Int} (h:St u rs [] B) (hl:B<=990) (hb:ln u<=20000):∃ rows',qd u=(rows',0,0)/\rows'.map qfk=rs:=by
 obtain ⟨ps,l,a,b,c,d,e⟩:=h
 rw [a] at hb ⊢
 obtain ⟨rows',q1,q2⟩:=zc6 (q:=(l,[])) b (q02 d (by omega)) hb
 exact ⟨rows',q1,by rw [q2,qk3,c,q59,zJ]⟩
end Go.Proofs.YtbopmiclcimjgaaGreatDoor
namespace Go.Proofs.YtbopmiclcimjgaaGreatDoor
open Go Go.E2 Go.E3
set_option maxRecDepth 100000
theorem qtp {s:Sign} (h:ku s=0):(∀ b ∈ jn s,z6 (b.toNat:Int)=true)/\ln (jn s)<=10/\jn s≠[]:=by
 have app:∀ {a b:ZB} {i j:Int},((∀ x ∈ a,z6 (x.toNat:Int)=true)/\ln a<=i)->((∀ x ∈ b,z6 (x.toNat:Int)=true)/\ln b<=j)->((∀ x ∈ a++b,z6 (x.toNat:Int)=true)/\ln (a++b)<=i+j):=by
  intro a b i j h1 h2
  refine ⟨fun x hx=>(List.mem_append.1 hx).elim (h1.1 x) (h2.1 x),?_⟩
  rw [kz];have:=h1.2;have:=h2.2;omega
 have dg:∀ {n:Int},0<=n->n<=100->(∀ x ∈ qd3 n,z6 (x.toNat:Int)=true)/\ln (qd3 n)<=3:=by
  intro n h0 h1
  refine ⟨fun x hx=>?_,by have:=q3j h0;simp only [ln];omega⟩
  obtain ⟨i,a,b,rfl⟩:=qyb hx
  have:=(qrk h0 h1).2 i a b
  rw [<-ql4];exact qfg.2 (by omega)
 have it:∀ {n:Int},-4<=n->n<=100->(∀ x ∈ zf n,z6 (x.toNat:Int)=true)/\ln (zf n)<=4:=by
  intro n h0 h1
  unfold zf
  split
  .have:=dg (n:=-n) (by omega) (by omega)
   refine ⟨fun x hx=>?_,by rw [jo];omega⟩
   rcases zD.1 hx with hx | hx
   .subst hx;rfl
   .exact this.1 x hx
  .have:=dg (n:=n) (by omega) h1
   exact ⟨this.1,by omega⟩
 have ac:∀ a:Int,(∀ x ∈ qmb a,z6 (x.toNat:Int)=true)/\ln (qmb a)<=1:=by
  intro a;unfold qmb
  (repeat' split)<;>decide
 have mk:∀ (b:Bool) (c:UInt8),z6 (c.toNat:Int)=true->(∀ x ∈ zm b c,z6 (x.toNat:Int)=true)/\ln (zm b c)<=1:=by
  intro b c hc;cases b
  .exact ⟨fun x hx=>(by cases hx),(show (0:Int)<=1 by decide)⟩
  .exact ⟨fun x hx=>by rw [List.mem_singleton.1 hx];exact hc,zK _⟩
 have st:∀ k:Int,(∀ x ∈ qgo k,z6 (x.toNat:Int)=true)/\ln (qgo k)<=1:=by
  intro k;unfold qgo
  (repeat' split)<;>decide
 have sp:∀ k:Int,(∀ x ∈ qnt k,z6 (x.toNat:Int)=true)/\ln (qnt k)<=1:=by
  intro k;unfold qnt
  (repeat' split)<;>decide
 have one:∀ c:UInt8,z6 (c.toNat:Int)=true->(∀ x ∈ ([c]:ZB),z6 (x.toNat:Int)=true)/\ln ([c]:ZB)<=1:=fun c hc=>⟨fun x hx=>by rw [List.mem_singleton.1 hx];exact hc,zK _⟩
 have tm:∀ m ∈ allM,(∀ x ∈ txM m,z6 (x.toNat:Int)=true)/\ln (txM m)<=4:=by
  intro m hm
  simp only [allM,zD,List.not_mem_nil,or_false] at hm
  rcases hm with h | h | h | h | h | h | h | h | h | h | h | h | h | h | h | h<;>subst h<;>decide
 have hn:jn s≠[]:=by
  intro e
  have:=q1q h
  rw [e] at this
  rw [qcg,zT rfl] at this
  cases this
 obtain ⟨k1,k2,hk,hm,hr,ho⟩:=q9x h
 refine (fun (q:(∀ b ∈ jn s,z6 (b.toNat:Int)=true)/\ln (jn s)<=10)=>⟨q.1,q.2,hn⟩) ?_
 clear hn h hk ho
 unfold qg9 at hr
 obtain ⟨K,v,p,a,c,sm,ob,la,m1,m2,m3,m4,sk,n,d,cs,cl⟩:=s
 dsimp only at k1 k2 hm hr
 have le:∀ {t:ZB} {i:Int},((∀ x ∈ t,z6 (x.toNat:Int)=true)/\ln t<=i)->i<=10->(∀ b ∈ t,z6 (b.toNat:Int)=true)/\ln t<=10:=fun h h'=>⟨h.1,by have:=h.2;omega⟩
 have hl:1<=v/\v<=8->(∀ x ∈ ltr v,z6 (x.toNat:Int)=true)/\ln (ltr v)<=1:=by
  intro hv
  obtain ⟨x1,hcs,-,hc8⟩:=q9q hv
  rw [hcs]
  refine one x1 ?_
  rcases hc8 with h | h | h | h | h | h | h | h<;>subst h<;>rfl
 have:K=1∨K=2∨K=3∨K=4∨K=5∨K=6∨K=7∨K=8∨K=9∨K=10∨K=11∨K=12:=by omega
 rcases this with e | e | e | e | e | e | e | e | e | e | e | e<;>subst e
 .exact le (app (hl (by omega)) (app (app (it (n:=p) (by omega) (by omega)) (ac a)) (mk c 42 rfl))) (by decide)
 .exact le (app (one 114 rfl) (hl (by omega))) (by decide)
 .exact le (one 46 rfl) (by decide)
 .exact le (app (app (app (app (one 116 rfl) (app (app (it (n:=p) (by omega) (by omega)) (ac a)) (mk c 42 rfl))) (st sm)) (mk ob 126 rfl)) (mk la 33 rfl)) (by decide)
 .exact le (app (app (app (one 40 rfl) (tm (m1,m2,m3,m4) (zpr (hm rfl)))) (one 41 rfl)) (mk sk 124 rfl)) (by decide)
 .have w1:=qji (n:=n) (by omega) (by omega)
  have w2:=qji (n:=d) (by omega) (by omega)
  show (∀ b ∈ zf n++[47]++zf d,_)/\ln (zf n++[47]++zf d)<=10
  rw [w1,w2]
  exact le (app (app (dg (n:=n) (by omega) (by omega)) (one 47 rfl)) (dg (n:=d) (by omega) (by omega))) (by decide)
 .exact le (app (app (one 64 rfl) (sp cs)) (it (n:=cl) (by omega) (by omega))) (by decide)
 .exact le (app (one 38 rfl) (it (n:=n) (by omega) (by omega))) (by decide)
 .exact le (one 91 rfl) (by decide)
 .exact le (app (one 93 rfl) (it (n:=n) (by omega) (by omega))) (by decide)
 .exact le (t:=[116,117,114,110]) (i:=4) (by decide) (by decide)
 .exact le (t:=[115,105,103]) (i:=3) (by decide) (by decide)
theorem qu8 {s:Sign} (h:ku s=0):qgi (jn s):=⟨(qtp h).2.2,(qtp h).1⟩
theorem qtq {s:Sign} (h:ku s=0):ln (jn s)<=10:=(qtp h).2.1
theorem zgm {s:Sign} (h:ku s=0):jn s≠[101,110,100]:=by
 intro e
 have:=q2a h
 rw [e] at this
 have e2:qcg [101,110,100]=none:=by
  rw [q3v (by simp) (by simp) (by simp) (by simp) (by simp) (by decide) (by decide) (by decide) (by decide) (by decide) (by decide)]
  cases h:qzw [101,110,100] with
  | none=>rfl
  | some s=>
   obtain ⟨a,b,ha,hb,hw⟩:=zk2 h
   obtain ⟨h1,h2⟩:=qke ha
   have h3:=h2 0 (zK _) h1
   rw [<-qn1 (l:=47::b) (zK _) h1,<-hw] at h3
   cases h3
 rw [qlb,e2] at this
 exact absurd (congrArg Prod.snd this) (show (3:Int)≠0 by decide)
def wS (s:Sign):WW:=mkW (jn s)
def znj:WW:=mkW [101,110,100]
def zez (nm:ZB):List WW:=[mkW [112,97,114,116],mkW nm]
theorem zdn:∀ (ws:List Word) (ss acc:List Sign) (pl:List Int),ws.map strip=ss.map wS->(∀ s ∈ ss,ku s=0)->∃ pl',wds ws acc pl=((acc++ss,pl'),(0,0))
 | [],[],acc,pl,_,_=>⟨pl,by rw [zJ];rfl⟩
 | [],_::_,_,_,h,_=>by cases h
 | _::_,[],_,_,h,_=>by cases h
 | w::ws,s::ss,acc,pl,h,hg=>by
  have h1:strip w=wS s:=(List.cons.inj h).1
  have h2:=(List.cons.inj h).2
  have t1:w.Text=jn s:=congrArg Prod.fst h1
  have t2:w.Quoted=false:=congrArg Prod.snd h1
  have hs:=q2a (hg s zC)
  obtain ⟨pl',e⟩:=zdn ws ss (acc++[s]) (pl++[w.At]) h2 fun x hx=>hg x (zG _ hx)
  have hE:qr2 w=0:=by rw [qr2,zF (by rw [t2];simp),t1,hs]
  refine ⟨pl',?_⟩
  rw [wds,zF (by rw [hE];simp),t1,hs,e,List.append_assoc]
  rfl
theorem qti {r:Row} {a:WW} {l:List WW} (h:qfk r=a::l):∃ w ws,r.Words=w::ws/\strip w=a/\ws.map strip=l:=by
 unfold qfk at h
 cases hr:r.Words with
 | nil=>rw [hr] at h;cases h
 | cons w ws=>rw [hr] at h;exact ⟨w,ws,rfl,(List.cons.inj h).1,(List.cons.inj h).2⟩
theorem zdb (nm:ZB) (len:Int) (e:Row) (he:qfk e=[znj]):∀ (rs:List Row) (g:List (List Sign)) (acc:List Sign) (pl:List Int),rs.map qfk=g.map (fun l=>l.map wS)->(∀ l ∈ g,l≠[]/\∀ s ∈ l,ku s=0)->
  (zy nm (acc++g.flatten)).1=0->rws nm len (rs++[e]) acc pl=((nm,acc++g.flatten),(0,0))
 | [],[],acc,pl,_,_,hc=>by
  obtain ⟨w,ws,e1,e2,e3⟩:=qti he
  have e4:ws=[]:=by cases ws with
   | nil=>rfl
   | cons a l=>cases e3
  subst e4
  have hE:qpi e:=by
   unfold qpi;rw [e1]
   exact ⟨congrArg Prod.fst e2,congrArg Prod.snd e2⟩
  have hl:¬ 1<ln e.Words:=by rw [e1];show ¬ (1:Int)<1;decide
  rw [List.flatten_nil,zJ] at hc ⊢
  show rws nm len [e] acc pl=_
  rw [rws,zT hE,qsk,zF hl,zF (show ¬ (0:Int)<ln ([]:List Row) by decide),zF (by rw [hc];simp)]
 | [],_::_,_,_,h,_,_=>by cases h
 | _::_,[],_,_,h,_,_=>by cases h
 | r::rs,l::g,acc,pl,h,hg,hc=>by
  have h1:qfk r=l.map wS:=(List.cons.inj h).1
  have h2:=(List.cons.inj h).2
  obtain ⟨hne,hgood⟩:=hg l zC
  obtain ⟨pl',ew⟩:=zdn r.Words l acc pl h1 hgood
  have hE:¬ qpi r:=by
   cases l with
   | nil=>exact absurd rfl hne
   | cons s l=>
    obtain ⟨w,ws,e1,e2,e3⟩:=qti h1
    unfold qpi;rw [e1]
    rintro ⟨q,-⟩
    have q:w.Text=[101,110,100]:=q
    rw [show w.Text=jn s from congrArg Prod.fst e2] at q
    exact zgm (hgood s zC) q
  have ea:acc++(l::g).flatten=(acc++l)++g.flatten:=by rw [List.flatten_cons,List.append_assoc]
  rw [ea] at hc ⊢
  rw [List.cons_append,rws,zF hE,ew,zF (by simp)]
  exact zdb nm len e he rs g (acc++l) pl' h2 (fun x hx=>hg x (zG _ hx)) hc
theorem q7b {t nm:ZB} {rows:List Row} {g:List (List Sign)} (h:qd t=(rows,0,0)) (hr:rows.map qfk=zez nm::(g.map (fun l=>l.map wS)++[[znj]])) (hg:∀ l ∈ g,l≠[]/\∀ s ∈ l,ku s=0)
  (hc:(zy nm g.flatten).1=0):zr t=((nm,g.flatten),(0,0)):=by
 have hn:qaj nm=true:=by
  cases hn:qaj nm with
  | true=>rfl
  | false=>rw [zy,zT hn] at hc;cases hc
 cases rows with
 | nil=>cases hr
 | cons r rs=>
  have r1:qfk r=zez nm:=(List.cons.inj hr).1
  have r2:rs.map qfk=g.map (fun l=>l.map wS)++[[znj]]:=(List.cons.inj hr).2
  obtain ⟨w1,ws,e1,e2,e3⟩:=qti r1
  obtain ⟨w2,ws2,rfl,e5⟩:∃ w2 ws2,ws=w2::ws2/\strip w2=mkW nm/\ws2.map strip=[]:=by
   cases ws with
   | nil=>cases e3
   | cons a l=>exact ⟨a,l,rfl,(List.cons.inj e3).1,(List.cons.inj e3).2⟩
  have e6:ws2=[]:=List.map_eq_nil_iff.1 e5.2
  subst e6
  have hd:hd0 t=r:=by rw [hd0,h];rfl
  have hN:nmB t=nm:=by rw [nmB,hd,e1];exact congrArg Prod.fst e5.1
  have hE:qf8 t=0:=by
   have q1:(ix (hd0 t).Words 0).Text=[112,97,114,116]:=by rw [hd,e1];exact congrArg Prod.fst e2
   have q2:(ix (hd0 t).Words 0).Quoted=false:=by rw [hd,e1];exact congrArg Prod.snd e2
   have q3:ln (hd0 t).Words=2:=by rw [hd,e1];rfl
   have q4:(ix (hd0 t).Words 1).Quoted=false:=by rw [hd,e1];exact congrArg Prod.snd e5.1
   rw [qf8,zF (by rw [q1,q2,q3];simp),zF (by rw [q4,hN,hn];simp)]
  obtain ⟨rs',e,rfl,he,hrs⟩:∃ rs' e,rs=rs'++[e]/\qfk e=[znj]/\rs'.map qfk=g.map (fun l=>l.map wS):=by
   rcases List.eq_nil_or_concat rs with hq | ⟨rs',e,hq⟩
   .subst hq;exact absurd (congrArg List.length r2) (by simp)
   .rw [List.concat_eq_append] at hq
    subst hq
    rw [List.map_append] at r2
    have:=List.append_inj' r2 rfl
    exact ⟨rs',e,rfl,(List.cons.inj this.2).1,this.1⟩
  have hf:fr (qd t).1 1=rs'++[e]:=by rw [h];rfl
  have q:=zdb nm (ln t) e he rs' g [] [] hrs hg hc
  rw [List.nil_append] at q
  rw [zr,zF (by rw [h];simp),zF (by rw [h];show ¬ ln (r::_)=0;rw [jo];have:=qt (rs'++[e]);omega),zF (by rw [hE];simp),hN,hf]
  exact q
theorem q9t {nm:ZB} (h:qaj nm=true):qgi nm/\ln nm<=20:=by
 simp only [qaj,zA,decide_eq_true_eq,List.all_eq_true] at h
 obtain ⟨⟨⟨h1,h2⟩,_⟩,h4⟩:=h
 refine ⟨⟨fun e=>by rw [e,qdn] at h1;omega,fun b hb=>?_⟩,h2⟩
 have:=h4 b hb
 simp only [qoz,qrg,Bool.or_eq_true,zA,decide_eq_true_eq] at this
 exact qfg.2 (by omega)
theorem zpb {nm:ZB} (h:qaj nm=true):St (([112,97,114,116,32]++nm)++[10]) [zez nm] [] 0:=by
 have hp:=q9t h
 have s1:=zsx.word (w:=[112,97,114,116]) ⟨by simp,by decide⟩
 have s2:=s1.row hp.1 (by show (0:Int)+4+1+ln nm<=990;omega)
 exact s2
theorem zb5 (nm:ZB) (g:List (List Sign)) (l:List Sign):(zez nm::g.map (fun l=>l.map wS))++[l.map wS]=zez nm::(g++[l]).map (fun l=>l.map wS):=by simp
theorem qya (c:List Sign) (s:Sign):c.map wS++[mkW (jn s)]=(c++[s]).map wS:=by rw [List.map_append];rfl
theorem take_succ {l:List Sign} {n:Nat} (h:n<l.length):l.take (n+1)=l.take n++[ix l (n:Int)]:=by
 rw [List.take_add_one,List.getElem?_eq_getElem h,qsw h];rfl
structure Grp (l:List Sign) (n:Nat) (g:List (List Sign)) (c:List Sign):Prop where
 e:g.flatten++c=l.take n
 g:∀ x ∈ g,x≠[]
theorem q27 {l:List Sign} {n:Nat} {g:List (List Sign)} {c:List Sign} (h:Grp l n g c) (hn:n<l.length):Grp l (n+1) (g++[c++[ix l (n:Int)]]) []:=by
 refine ⟨?_,fun x hx=>?_⟩
 .rw [take_succ hn,<-h.e];simp
 .rcases List.mem_append.1 hx with hx | hx
  .exact h.g x hx
  .rw [List.mem_singleton.1 hx];simp
theorem q6g {l:List Sign} {n:Nat} {g:List (List Sign)} {c:List Sign} (h:Grp l n g c) (hn:n<l.length):Grp l (n+1) g (c++[ix l (n:Int)]):=
 ⟨by rw [take_succ hn,<-h.e,List.append_assoc],h.g⟩
theorem zb2 {l:List Sign} (h:∀ s ∈ l,ku s=0) {n:Nat} (hn:n<l.length):ku (ix l (n:Int))=0:=h _ (qg0 (by omega) (by simp only [ln];omega))
theorem q6f {l:List Sign} {n:Nat} {g:List (List Sign)} {c:List Sign} (h:Grp l n g c) (hl:∀ s ∈ l,ku s=0):∀ x ∈ g,x≠[]/\∀ s ∈ x,ku s=0:=by
 refine fun x hx=>⟨h.g x hx,fun s hs=>hl s ?_⟩
 have:s ∈ g.flatten++c:=List.mem_append_left _ (List.mem_flatten.2 ⟨x,hx,hs⟩)
 rw [h.e] at this
 exact List.mem_of_mem_take this
theorem zer:qgi [101,110,100]:=⟨by simp,by decide⟩
end Go.Proofs.YtbopmiclcimjgaaGreatDoor
namespace Go.Proofs.YtbopmiclcimjgaaGreatDoor
open Go Go.E2 Go.E3
set_option maxRecDepth 100000
def okS (s:Sign):Prop:=ku s=0/\s.Kind≠4
theorem qvt {s:Sign} (h1:1<=s.Kind) (h2:s.Kind<=12) (h3:qm9 s) (h4:s.Kind=5->qb5 s.MensMax s.MensMod s.MensTem s.MensPro=0) (h5:qg9 s) (h6:s.Oblique=false):ku s=0:=by
 unfold ku
 rw [zF (by omega),zF (by simp [h3]),zF (by rintro ⟨a,b⟩;exact b (h4 a)),zF (by simp [h5]),zF (by simp [h6])]
theorem qvl {k:Int} (h:k=3∨k=9∨k=11∨k=12):okS (sg k):=by rcases h with h | h | h | h<;>subst h<;>exact ⟨by decide,by decide⟩
theorem q5b {n:Int} (h:2<=n/\n<=4):okS (q9v 10 n):=
 ⟨qvt (show (1:Int)<=10 by decide) (show (10:Int)<=12 by decide) (by simp [qm9,q9v]) (fun h=>absurd h (show (10:Int)≠5 by decide)) (by simp [qg9,q9v];omega) rfl,show (10:Int)≠4 by decide⟩
theorem zcs {a b c d:Int} {st:Bool} (h:qb5 a b c d=0):okS (q9s a b c d st):=
 ⟨qvt (show (1:Int)<=5 by decide) (show (5:Int)<=12 by decide) (by simp [qm9,q9s]) (fun _=>h) (by simp [qg9,q9s]) rfl,show (5:Int)≠4 by decide⟩
theorem zv2 {i:Int} (h:0<=i):0<=Int.tmod i 9/\Int.tmod i 9<9:=⟨Int.tmod_nonneg _ h,Int.tmod_lt_of_pos _ (by decide)⟩
theorem zda {n:Int} (h:0<=n):2<=zaj n/\zaj n<=6:=by
 have h1:0<=Int.tmod n 8:=Int.tmod_nonneg _ h
 have h2:Int.tmod n 8<8:=Int.tmod_lt_of_pos _ (by decide)
 unfold zaj
 generalize Int.tmod n 8=k at *
 have:k=0∨k=1∨k=2∨k=3∨k=4∨k=5∨k=6∨k=7:=by omega
 rcases this with h | h | h | h | h | h | h | h<;>subst h<;>decide
theorem zcx {v p:Int} {c:Bool} (hv:2<=v/\v<=6) (hp:0<=p/\p<9):okS (Sign.mk 1 v p 0 c 0 false false 0 0 0 0 false 0 0 0 0):=
 ⟨qvt (show (1:Int)<=1 by decide) (show (1:Int)<=12 by decide) (by simp [qm9]) (fun h=>absurd h (show (1:Int)≠5 by decide)) (by simp [qg9];omega) rfl,show (1:Int)≠4 by decide⟩
theorem zo2 {v:Int} (hv:2<=v/\v<=6):okS (Sign.mk 2 v 0 0 false 0 false false 0 0 0 0 false 0 0 0 0):=
 ⟨qvt (show (1:Int)<=2 by decide) (show (2:Int)<=12 by decide) (by simp [qm9]) (fun h=>absurd h (show (2:Int)≠5 by decide)) (by simp [qg9];omega) rfl,show (2:Int)≠4 by decide⟩
theorem zo4 {n i:Int} (hn:0<=n) (hi:0<=i):okS (qnp n i):=by
 have hv:=zda hn
 have hp:=zv2 hi
 unfold qnp
 split
 .exact zo2 hv
 .split
  .exact zcx hv hp
  .exact zcx hv hp
theorem qiz {P:Sign->Prop} {l:List Sign} {s:Sign} (h:∀ x ∈ l,P x) (hs:P s):∀ x ∈ l++[s],P x:=fun x hx=>(List.mem_append.1 hx).elim (h x) fun hx=>by rw [List.mem_singleton.1 hx];exact hs
theorem zli {a b c d m:Int} {l:List Int}:∀ (k:Nat) (i:Int) (o:List Sign),(ln l-i).toNat=k->0<=i->(∀ s ∈ o,okS s)->ln o<=m->(∀ s ∈ qo5 a b c d l m i o,okS s)/\ln (qo5 a b c d l m i o)<=m:=by
 intro k
 induction k with
 | zero=>intro i o hk hi ho hm;rw [q3z (.inl (by omega))];exact ⟨ho,hm⟩
 | succ k ih=>
  intro i o hk hi ho hm
  by_cases hc:ln o<m
  .rw [qyt (by omega) hc]
   have hs:=zo4 (qkb (a:=ix l i) (b:=504) (by decide)).1 hi
   refine ih (i+1) _ (by omega) (by omega) ?_ ?_
   .unfold qoi;split
    .exact qiz (qiz ho hs) (qvl (.inl rfl))
    .exact qiz ho hs
   .unfold qoi;split
    .rename_i hd
     rw [qad,qad];have:=hd.2.1;omega
    .rw [qad];omega
  .rw [q3z (.inr (by omega))];exact ⟨ho,hm⟩
theorem zc8 (a b c d:Int) (l:List Int) {m:Int} (hm:0<=m):(∀ s ∈ qel a b c d l m,okS s)/\ln (qel a b c d l m)<=m:=zli _ 0 [] rfl (zK _) (fun _ h=>by cases h) hm
theorem zhn {a b c d n i:Int} {o:List Sign} {p:Bool} (hm:qb5 a b c d=0) (hi:0<=i) (ho:∀ s ∈ o,okS s):(∀ s ∈ (qaz a b c d n i o p).1,okS s)/\ln (qaz a b c d n i o p).1<=ln o+1/\ln o<=ln (qaz a b c d n i o p).1:=by
 have h3:0<=Int.tmod i 3/\Int.tmod i 3<3:=⟨Int.tmod_nonneg _ hi,Int.tmod_lt_of_pos _ (by decide)⟩
 have one:∀ {s:Sign},okS s->(∀ x ∈ o++[s],okS x)/\ln (o++[s])<=ln o+1/\ln o<=ln (o++[s]):=fun hs=>⟨qiz ho hs,by rw [qad];omega,by rw [qad];omega⟩
 unfold qaz
 split
 .exact one (qvl (.inr (.inr (.inl rfl))))
 split
 .exact one (qvl (.inr (.inr (.inr rfl))))
 split
 .exact one (qvl (.inr (.inl rfl)))
 split
 .exact one (q5b (by omega))
 split
 .exact one (zcs hm)
 split
 .exact one ⟨by decide,by decide⟩
 .exact ⟨ho,by show ln o<=_;omega,zK _⟩
theorem q6n {a b c d i:Int} {g:List Int} {s:Sign} {x:List Sign×Bool} (hm:qb5 a b c d=0) (hi:0<=i) (hs:okS s) (ho:∀ s ∈ x.1,okS s):(∀ y ∈ (qjf a b c d g s i x).1,okS y)/\ln (qjf a b c d g s i x).1<=ln x.1+2:=by
 unfold qjf
 by_cases hk:s.Kind=3
 .rw [zT hk];exact ⟨qiz ho hs,by show ln (x.1++[s])<=_;rw [qad];omega⟩
 .rw [zF hk]
  have h:=zhn (n:=qa6 (Int.tdiv (atI g i) 7) 23) (p:=x.2) hm hi ho
  refine ⟨qiz h.1 hs,?_⟩
  show ln (_++[s])<=_
  rw [qad];omega
theorem zfb {a b c d:Int} {g:List Int} {l:List Sign} (hm:qb5 a b c d=0) (hl:∀ s ∈ l,okS s):∀ (k:Nat) (i:Int) (x:List Sign×Bool),(ln l-i).toNat=k->0<=i->i<=ln l->(∀ s ∈ x.1,okS s)->ln x.1<=2+2 * i->
  (∀ s ∈ (qhx a b c d g l i x).1,okS s)/\ln (qhx a b c d g l i x).1<=2+2 * ln l:=by
 intro k
 induction k with
 | zero=>intro i x hk hi hi' ho hb;rw [qx8 (by omega)];exact ⟨ho,by omega⟩
 | succ k ih=>
  intro i x hk hi hi' ho hb
  rw [qs0 (by omega)]
  have h:=q6n (g:=g) (s:=ix l i) hm hi (hl _ (qg0 hi (by omega))) ho
  exact ih (i+1) _ (by omega) (by omega) (by omega) h.1 (by omega)
theorem zjf {a b c d m:Int} {g:List Int} (hm:qb5 a b c d=0) (h0:0<=m) (h30:m<=30):(∀ s ∈ qj8 a b c d g m,okS s)/\ln (qj8 a b c d g m)<=63:=by
 have hr:=zc8 a b c d g h0
 have h:=zfb (g:=g) hm hr.1 _ 0 ([ztf,q9s a b c d false],false) rfl (zK _) (qt _) (fun s hs=>by
  rcases zD.1 hs with hs | hs
  .rw [hs];exact ⟨by decide,by decide⟩
  .rw [List.mem_singleton.1 hs];exact zcs hm) (zK _)
 unfold qj8 q2q
 split
 .refine ⟨qiz h.1 (q5b (by decide)),?_⟩
  rw [qad];have:=h.2;show ln (qhx _ _ _ _ _ _ _ _).1+1<=63;omega
 .refine ⟨h.1,?_⟩
  have:=h.2;show ln (qhx _ _ _ _ _ _ _ _).1<=63;omega
theorem zn9 (n:Int):qb5 (quj n) (quk n) (qum n) (qul n)=0:=by
 have h:=qkb (a:=n) (show (0:Int)<16 by decide)
 refine zT ?_
 generalize he:qa6 n 16=k at h
 have hk:k=0∨k=1∨k=2∨k=3∨k=4∨k=5∨k=6∨k=7∨k=8∨k=9∨k=10∨k=11∨k=12∨k=13∨k=14∨k=15:=by omega
 unfold quj quk qum qul
 rw [he]
 rcases hk with hk | hk | hk | hk | hk | hk | hk | hk | hk | hk | hk | hk | hk | hk | hk | hk<;>subst hk<;>decide
theorem qro (g:List Int):(∀ s ∈ qgg g,okS s)/\ln (qgg g)<=63:=zjf (zn9 _) (by decide) (by decide)
theorem zhu {l:List Sign} (h:∀ s ∈ l,okS s):∀ (k:Nat) (i:Int),(ln l-i).toNat=k->0<=i->qi2 l i=(0,0):=by
 intro k
 induction k with
 | zero=>intro i hk hi;exact q2p (by omega)
 | succ k ih=>
  intro i hk hi
  have hs:=h _ (qg0 hi (show i<ln l by omega))
  have he:qqy l i=0:=by
   unfold qqy
   rw [zF (by rw [hs.1];simp),zF (fun hb=>hs.2 hb.1)]
  rw [qwy (by omega) he]
  exact ih (i+1) (by omega) (by omega)
theorem qyg:qaj qhq=true:=by decide
theorem qyh (g:List Int):(zy qhq (qgg g)).1=0:=by
 have h:=qro g
 rw [zy,zF (by rw [qyg];simp),zF (by omega),zhu h.1 _ 0 rfl (zK _)]
theorem q1l (g:List Int):∀ s ∈ qgg g,ku s=0:=fun s hs=>((qro g).1 s hs).1
theorem zlh {w:ZB} (h:qgi w) (hl:ln w<=900):qd w=([⟨0,[⟨0,w,false⟩]⟩],0,0):=by
 have hb:=qt w
 have e0:fr w 0=w:=rfl
 have hc:jf w 0 0=([⟨0,w,false⟩],-1):=by
  have:=qy8 (l:=[]) (t:=[]) (f:=0) (r:=[]) h (.inl rfl) (qqt (.inl (by rw [zJ,List.nil_append,qdn];omega)))
  rw [zJ,List.nil_append] at this
  exact this
 rw [qhs (by omega),qht (qv0 h)]
 simp only [qau,hc,zF (show ¬ 1000<ln w by omega),zF (show ¬ (0:Int)<=-1 by decide),if_true,List.cons_ne_nil,if_false]
theorem ztj {a:Int} (h:0<=a) (h':a<5):a=0∨a=1∨a=2∨a=3∨a=4:=by omega
theorem zis (g:List Int) (i:Int):ln (q9e g i)<=6:=by
 have h:=qkb (a:=atI g i) (b:=5) (by decide)
 unfold q9e
 rcases ztj h.1 h.2 with e | e | e | e | e<;>rw [e]<;>decide
theorem q6p {l:List Sign} (hl:∀ s ∈ l,ku s=0) (g:List Int):∀ n:Nat,n<=l.length->ln (qg4 l g n)<=10+16 * (n:Int)
 | 0,_=>(show (10:Int)<=10+16 * 0 by decide)
 | n+1,h=>by
  have:=q6p hl g n (by omega)
  have ho:=zb2 hl (n:=n) (by omega)
  have h10:=qtq ho
  have:=zis g (n:Int)
  rw [qg4,qnx ho,kz,kz]
  show _+ln (jn (ix l (n:Int)))+_<=_
  omega
theorem q6q {l:List Sign} (hl:∀ s ∈ l,ku s=0) (hn:ln l<=63) (gp:List Int):∀ n:Nat,n<=l.length->∃ g c,St (qg4 l gp n) (zez qhq::g.map (fun l=>l.map wS)) (c.map wS) (13 * (n:Int))/\Grp l n g c
 | 0,_=>⟨[],[],zpb qyg,⟨rfl,fun _ h=>(by cases h)⟩⟩
 | n+1,h=>by
  obtain ⟨g,c,hs,hg⟩:=q6q hl hn gp n (by omega)
  have ho:=zb2 hl (n:=n) (by omega)
  have hw:=qu8 ho
  have h10:=qtq ho
  have hn':(l.length:Int)<=63:=hn
  have sr:=hs.row hw (by omega)
  rw [qya,zb5] at sr
  have sc:=hs.cmt hw (by omega)
  rw [qya,zb5] at sc
  have sw:=hs.word hw
  rw [qya] at sw
  have g5:=qkb (a:=atI gp (n:Int)) (b:=5) (by decide)
  rw [qg4,qnx ho,q9e]
  show ∃ g c,St (qg4 l gp n++jn (ix l (n:Int))++_) _ _ _/\_
  rcases ztj g5.1 g5.2 with e | e | e | e | e<;>rw [e]
  .exact ⟨g,c++[ix l (n:Int)],sw.mono (by omega),q6g hg (by omega)⟩
  .exact ⟨g++[c++[ix l (n:Int)]],[],sr.mono (by omega),q27 hg (by omega)⟩
  .refine ⟨g,c++[ix l (n:Int)],?_,q6g hg (by omega)⟩
   have:=sw.blank.blank
   simp only [List.append_assoc,List.cons_append,List.nil_append] at this ⊢
   exact this.mono (by omega)
  .exact ⟨g++[c++[ix l (n:Int)]],[],sc.mono (by omega),q27 hg (by omega)⟩
  .refine ⟨g++[c++[ix l (n:Int)]],[],?_,q27 hg (by omega)⟩
   have:=(sr.nl (by decide)).blank.blank
   rw [zct,zT rfl] at this
   simp only [List.append_assoc,List.cons_append,List.nil_append] at this ⊢
   exact this.mono (by omega)
theorem q9p (nums gp:List Int):zr (qg4 (qgg nums) gp (ln (qgg nums)).toNat++[10,101,110,100])=((qhq,qgg nums),(0,0)):=by
 have hl:=q1l nums
 have hn:=(qro nums).2
 have hc:=qyh nums
 generalize qgg nums=l at *
 have eN:(ln l).toNat=l.length:=by simp [ln]
 have hn':(l.length:Int)<=63:=hn
 rw [eN]
 obtain ⟨g,c,hs,hg⟩:=q6q hl hn gp l.length (zN _)
 have s:=hs.nl (by omega)
 have hb:=q6p hl gp l.length (zN _)
 have ea:qg4 l gp l.length++[10,101,110,100]=(qg4 l gp l.length++[10])++[101,110,100]:=by rw [List.append_assoc];rfl
 rw [ea]
 obtain ⟨rows,q1,q2⟩:=s.last zer (by decide) (by rw [kz,kz];show _+(1:Int)+3<=_;omega)
 by_cases h0:c=[]
 .subst h0
  have hfl:g.flatten=l:=by have:=hg.e;rwa [zJ,List.take_length] at this
  have:=q7b (nm:=qhq) (g:=g) q1 (by rw [q2];rfl) (q6f hg hl) (by rw [hfl];exact hc)
  rw [hfl] at this
  exact this
 .have hfl:(g++[c]).flatten=l:=by have:=hg.e;rw [List.take_length] at this;rw [<-this];simp
  have hgood:∀ x ∈ g++[c],x≠[]/\∀ s ∈ x,ku s=0:=by
   intro x hx
   rcases List.mem_append.1 hx with hx | hx
   .exact q6f hg hl x hx
   .rw [List.mem_singleton.1 hx]
    refine ⟨h0,fun s hs=>hl s ?_⟩
    have:=hg.e
    rw [List.take_length] at this
    rw [<-this];exact List.mem_append_right _ hs
  have:=q7b (nm:=qhq) (g:=g++[c]) q1 (by rw [q2,zct,zF (by simpa using h0),List.cons_append,List.cons_append,List.map_append];rfl) hgood (by rw [hfl];exact hc)
  rw [hfl] at this
  exact this
end Go.Proofs.YtbopmiclcimjgaaGreatDoor
namespace Go.Proofs.YtbopmiclcimjgaaGreatDoor
open Go Go.E2 Go.E3
set_option maxRecDepth 100000
theorem zqh (a0 a1:Int) (hp:I64 a0/\(1:Int)<=a1/\(a1:Int)<=1048576):zgy a0 a1:=by
 obtain ⟨h0,h1,h2⟩:=hp
 have:=q75 (a:=a0) (b:=a1) (by omega)
 refine ⟨fun h=>by omega,fun _=>⟨by omega,fun h=>⟨⟨by omega,by omega⟩,?_,trivial⟩,fun h=>⟨?_,trivial⟩⟩⟩
 .unfold qa6;rw [zF (by omega),zT h]
 .unfold qa6;rw [zF (by omega),zF (by omega)]
theorem zqd (a0:List Int) (a1:Int) (_:ln a0<=9223372036854775807):q8b a0 a1:=by
 unfold q8b
 refine ⟨fun h=>⟨?_,trivial⟩,fun h=>⟨fun h'=>⟨?_,trivial⟩,fun h'=>⟨⟨h,h'⟩,?_,trivial⟩⟩⟩
 .unfold atI;rw [zT (.inl h)]
 .unfold atI;rw [zT (.inr h')]
 .unfold atI;rw [zF (by omega)]
theorem qrv {a b:Int} (ha:0<=a) (hb:0<b):0<=Int.tdiv a b/\Int.tdiv a b<=a:=by
 rw [Int.tdiv_eq_ediv_of_nonneg ha]
 exact ⟨Int.ediv_nonneg ha (by omega),Int.ediv_le_self b ha⟩
theorem qrw {a b:Int} (ha:0<=a) (hb:0<b):0<=Int.tmod a b/\Int.tmod a b<b:=⟨Int.tmod_nonneg _ ha,Int.tmod_lt_of_pos a hb⟩
theorem zgw (a0:Int) (hp:I64 a0):q4k a0:=by
 have h:=qkb (a:=a0) (b:=16) (by decide)
 have h8:=qrv h.1 (show (0:Int)<8 by decide)
 have h4:=qrv h.1 (show (0:Int)<4 by decide)
 have h2:=qrv h.1 (show (0:Int)<2 by decide)
 have m4:=qrw h4.1 (show (0:Int)<2 by decide)
 have m2:=qrw h2.1 (show (0:Int)<2 by decide)
 have m1:=qrw h.1 (show (0:Int)<2 by decide)
 exact ⟨⟨hp,by decide,by decide⟩,⟨by decide,by omega,by omega⟩,⟨by omega,by omega⟩,⟨by decide,by omega,by omega⟩,by decide,⟨by omega,by omega⟩,⟨by decide,by omega,by omega⟩,by decide,⟨by omega,by omega⟩,by decide,⟨by omega,by omega⟩,rfl,rfl,rfl,rfl,trivial⟩
theorem zgp (a0 a1 a2 a3 a4:Int) (hp:(0:Int)<=a4/\(a4:Int)<=100):qv3 a0 a1 a2 a3 a4:=by
 unfold qv3 qky
 refine ⟨⟨by omega,by omega,by omega,by omega,by omega,by omega⟩,fun x ⟨⟨h1,h1',h3,h4,h5,h6⟩⟩=>⟨fun h=>?_,fun h=>⟨?_,trivial⟩⟩⟩
 .have ms:jj a0 a1 a2 a3 a4 (x+1)<jj a0 a1 a2 a3 a4 x:=by simp only [jj];omega
  refine ⟨fun e=>⟨fun e'=>⟨?_,trivial⟩,fun e'=>⟨⟨by omega,by omega⟩,rfl,rfl,rfl,rfl,⟨by omega,by omega,by omega,by omega,by omega,by omega⟩,ms⟩⟩,fun e=>⟨fun f=>⟨fun e'=>⟨?_,trivial⟩,fun e'=>⟨⟨by omega,by omega⟩,rfl,rfl,rfl,rfl,⟨by omega,by omega,by omega,by omega,by omega,by omega⟩,ms⟩⟩,
   fun f=>⟨fun g=>⟨fun e'=>⟨?_,trivial⟩,fun e'=>⟨⟨by omega,by omega⟩,rfl,rfl,rfl,rfl,⟨by omega,by omega,by omega,by omega,by omega,by omega⟩,ms⟩⟩,fun g=>⟨fun k=>⟨fun e'=>⟨?_,trivial⟩,fun e'=>⟨⟨by omega,by omega⟩,rfl,rfl,rfl,rfl,⟨by omega,by omega,by omega,by omega,by omega,by omega⟩,ms⟩⟩,
    fun k=>⟨⟨by omega,by omega⟩,rfl,rfl,rfl,rfl,⟨by omega,by omega,by omega,by omega,by omega,by omega⟩,ms⟩⟩⟩⟩⟩
  all_goals (simp only [qci,Bool.or_eq_true,zA,decide_eq_true_eq,eq_comm (a:=true)];omega)
 .simp only [qci,eq_comm (a:=false),Bool.or_eq_false_iff,Bool.and_eq_false_iff,decide_eq_false_iff_not]
  omega
section
variable {a b c d m i:Int} {l:List Int} {o:List Sign} {s:Sign}
theorem zo5 (h:z5 a b c d l m o i) (hi:i<ln l) (ho:ln o<m) (hm:m<=30) (hs:qnp (qa6 (ix l i) 504) i=s) (h1:Int.tdiv (qa6 (ix l i) 504) 72=0) (h2:ln (o++[s])<m) (h3:s.Kind=1∨qci a b c d s.Value=true) :
  z5 a b c d l m ((o++[s])++[sg 3]) (i+1):=by
 obtain ⟨h0,hl,_,e⟩:=h
 rw [qad] at h2
 refine ⟨by omega,by omega,by rw [qad,qad];omega,?_⟩
 rw [qyt hi ho,qoi,zT ⟨h1,h2,by rw [hs];exact h3⟩,hs] at e
 exact e
theorem zo6 (h:z5 a b c d l m o i) (hi:i<ln l) (ho:ln o<m) (hm:m<=30) (hs:qnp (qa6 (ix l i) 504) i=s) (h1:Int.tdiv (qa6 (ix l i) 504) 72≠0∨m<=ln (o++[s])∨(s.Kind≠1/\qci a b c d s.Value=false)) :
  z5 a b c d l m (o++[s]) (i+1):=by
 obtain ⟨h0,hl,_,e⟩:=h
 rw [qad] at h1
 refine ⟨by omega,by omega,by rw [qad];omega,?_⟩
 rw [qyt hi ho,qoi,zF,hs] at e
 .exact e
 .rintro ⟨q1,q2,q3⟩
  rw [hs] at q3
  rcases h1 with h1 | h1 | ⟨h1,h2⟩
  .exact h1 q1
  .omega
  .rcases q3 with q3 | q3
   .exact h1 q3
   .rw [h2] at q3;cases q3
theorem zc9 {n:Int} (h:Int.tmod (Int.tdiv n 8) 9=0):qnp n i=Sign.mk 2 (ix ([3,4,4,5,5,3,2,6]:List Int) (Int.tmod n 8)) 0 0 false 0 false false 0 0 0 0 false 0 0 0 0:=zT h
theorem zlj {n:Int} (h:Int.tmod (Int.tdiv n 8) 9=1):qnp n i=Sign.mk 1 (ix ([3,4,4,5,5,3,2,6]:List Int) (Int.tmod n 8)) (Int.tmod i 9) 0 true 0 false false 0 0 0 0 false 0 0 0 0:=by
 have e:q7n n=1:=h
 rw [qnp,zF (by omega),zT (.inl e)];rfl
theorem zlk {n:Int} (h:Int.tmod (Int.tdiv n 8) 9=2):qnp n i=Sign.mk 1 (ix ([3,4,4,5,5,3,2,6]:List Int) (Int.tmod n 8)) (Int.tmod i 9) 0 true 0 false false 0 0 0 0 false 0 0 0 0:=by
 have e:q7n n=2:=h
 rw [qnp,zF (by omega),zT (.inr e)];rfl
theorem zll {n:Int} (h0:Int.tmod (Int.tdiv n 8) 9≠0) (h1:Int.tmod (Int.tdiv n 8) 9≠1) (h2:Int.tmod (Int.tdiv n 8) 9≠2):qnp n i=Sign.mk 1 (ix ([3,4,4,5,5,3,2,6]:List Int) (Int.tmod n 8)) (Int.tmod i 9) 0 false 0 false false 0 0 0 0 false 0 0 0 0:=by
 have e0:q7n n≠0:=h0
 have e1:¬ (q7n n=1∨q7n n=2):=fun h=>h.elim h1 h2
 rw [qnp,zF e0,zF e1];rfl
theorem zsp (h:z5 a b c d l m o i) (hi:i<ln l) {o':List Sign}:za a b c d l m o' (i+1)<za a b c d l m o i:=by
 obtain ⟨h0,-⟩:=h
 simp only [za];omega
end
set_option maxHeartbeats 4000000 in
theorem zmp (a0 a1 a2 a3:Int) (a4:List Int) (a5:Int) (hp:ln a4<=9223372036854775807/\qk5 a4/\(a5:Int)<=30/\(0:Int)<=a5):q2f a0 a1 a2 a3 a4 a5:=by
 obtain ⟨hp1,hp2,h30,h0⟩:=hp
 unfold q2f qdp
 dsimp only
 have hn:=qt a4
 refine ⟨trivial,trivial,trivial,trivial,trivial,trivial,trivial,trivial,⟨zK _,hn,by show (0:Int)<=30;decide,rfl⟩,fun x0 x1 hi=>?_⟩
 obtain ⟨i0,i1,i2,i3⟩:=id hi
 have hn0:=qt x0
 have hL:ln ([3,4,4,5,5,3,2,6]:List Int)=8:=rfl
 have hM:=qkb (a:=ix a4 x1) (b:=504) (by decide)
 have hI:x1<ln a4->I64 (ix a4 x1):=fun h=>hp2.2 _ (qg0 i0 h)
 have hS:∀ s:Sign,qh (x0.length + [s].length):=fun s=>qhb (by omega)
 have hS2:∀ s t:Sign,qh ((x0++[s]).length + [t].length):=fun s t=>qhb (by rw [qad];omega)
 have hV:=zda hM.1
 unfold zaj at hV
 have h8:=qrw hM.1 (show (0:Int)<8 by decide)
 have d8:=qrv hM.1 (show (0:Int)<8 by decide)
 have d72:=qrv hM.1 (show (0:Int)<72 by decide)
 rw [hL]
 have one:∀ {s:Sign},ln x0<a5->x1<ln a4->qnp (qa6 (ix a4 x1) 504) x1=s->(Int.tdiv (qa6 (ix a4 x1) 504) 72≠0∨a5<=ln (x0++[s])∨(s.Kind≠1/\qci a0 a1 a2 a3 s.Value=false))->z5 a0 a1 a2 a3 a4 a5 (x0++[s]) (x1+1):=fun h1 h2 h3 h4=>zo6 hi h2 h1 h30 h3 h4
 have two:∀ {s:Sign},ln x0<a5->x1<ln a4->qnp (qa6 (ix a4 x1) 504) x1=s->Int.tdiv (qa6 (ix a4 x1) 504) 72=0->ln (x0++[s])<a5->(s.Kind=1∨qci a0 a1 a2 a3 s.Value=true)->z5 a0 a1 a2 a3 a4 a5 ((x0++[s])++[sg 3]) (x1+1):=fun h1 h2 h3 h4 h5 h6=>zo5 hi h2 h1 h30 h3 h4 h5 h6
 have en:ln a4<=x1∨a5<=ln x0->x0=qel a0 a1 a2 a3 a4 a5:=fun h=>by rw [q3z h] at i3;exact i3
 have ms:∀ {o:List Sign},x1<ln a4->za a0 a1 a2 a3 a4 a5 o (x1+1)<za a0 a1 a2 a3 a4 a5 x0 x1:=fun h=>zsp hi h
 unhygienic (repeat' (first | exact trivial | apply And.intro | (intro;intros)))
 all_goals first
  | rfl
  | omega
  | exact hS _
  | exact hS2 _ _
  | exact ms ‹_›
  | exact en (.inl ‹_›)
  | exact en (.inr ‹_›)
  | exact hI ‹_›
  | exact one ‹_› ‹_› (zc9 ‹_›) (.inl ‹_›)
  | exact one ‹_› ‹_› (zc9 ‹_›) (.inr (.inl ‹_›))
  | exact one ‹_› ‹_› (zc9 ‹_›) (.inr (.inr ⟨(show (2:Int)≠1 by decide),by assumption⟩))
  | exact one ‹_› ‹_› (zlj ‹_›) (.inl ‹_›)
  | exact one ‹_› ‹_› (zlj ‹_›) (.inr (.inl ‹_›))
  | exact one ‹_› ‹_› (zlk ‹_›) (.inl ‹_›)
  | exact one ‹_› ‹_› (zlk ‹_›) (.inr (.inl ‹_›))
  | exact one ‹_› ‹_› (zll ‹_› ‹_› ‹_›) (.inl ‹_›)
  | exact one ‹_› ‹_› (zll ‹_› ‹_› ‹_›) (.inr (.inl ‹_›))
  | exact two ‹_› ‹_› (zc9 ‹_›) ‹_› ‹_› (.inr ‹_›)
  | exact two ‹_› ‹_› (zlj ‹_›) ‹_› ‹_› (.inl rfl)
  | exact two ‹_› ‹_› (zlk ‹_›) ‹_› ‹_› (.inl rfl)
  | exact two ‹_› ‹_› (zll ‹_› ‹_› ‹_›) ‹_› ‹_› (.inl rfl)
  | skip
section
variable {a b c d m i n:Int} {l:List Int} {o o':List Sign} {p p':Bool}
theorem A0 (h:n=0):qaz a b c d n i o p=(o++[sg 11],p):=zT h
theorem A1 (h:n=1):qaz a b c d n i o p=(o++[sg 12],p):=by rw [qaz,zF (by omega),zT h]
theorem A2 (h:n=2) (hp:p=false):qaz a b c d n i o p=(o++[sg 9],true):=by rw [qaz,zF (by omega),zF (by omega),zT ⟨h,hp⟩]
theorem A3 (h:2<=n) (h6:n<6) (hp:p=true):qaz a b c d n i o p=(o++[q9v 10 (2+Int.tmod i 3)],false):=by
 rw [qaz,zF (by omega),zF (by omega),zF (by rw [hp];simp),zT ⟨h6,hp⟩]
theorem A4 (h:n=6) (hp:p=false):qaz a b c d n i o p=(o++[q9s a b c d (decide (Int.tmod i 2=0))],p):=by
 rw [qaz,zF (by omega),zF (by omega),zF (by omega),zF (by omega),zT ⟨h,hp⟩]
theorem A5 (h:n=7) (hp:p=false):qaz a b c d n i o p=(o++[zuq 3 2],p):=by
 rw [qaz,zF (by omega),zF (by omega),zF (by omega),zF (by omega),zF (by omega),zT ⟨h,hp⟩]
theorem A6 (h:6<=n) (hp:p=true):qaz a b c d n i o p=(o,p):=by
 rw [qaz,zF (by omega),zF (by omega),zF (by omega),zF (by omega),zF (by rw [hp];simp),zF (by rw [hp];simp)]
theorem A7 (h:2<n) (h6:n≠6) (h7:n≠7) (hp:p=false):qaz a b c d n i o p=(o,p):=by
 rw [qaz,zF (by omega),zF (by omega),zF (by omega),zF (by rw [hp];simp),zF (by omega),zF (by omega)]
theorem A8 (h:8<=n):qaz a b c d n i o p=(o,p):=by
 rw [qaz,zF (by omega),zF (by omega),zF (by omega),zF (by omega),zF (by omega),zF (by omega)]
theorem zcm {q:List Sign×Bool} (h:ze a b c d l m o p i) (hi:i<ln (qel a b c d l m)) (hk:(ix (qel a b c d l m) i).Kind≠3) (ha:qaz a b c d (qa6 (Int.tdiv (atI l i) 7) 23) i o p=q) (hl:ln q.1<=ln o+1) :
  ze a b c d l m (q.1++[ix (qel a b c d l m) i]) q.2 (i+1):=by
 obtain ⟨h0,h1,h2,e⟩:=h
 refine ⟨by omega,by omega,by rw [qad];omega,?_⟩
 rw [qs0 hi,qjf,zF hk,ha] at e
 exact e
theorem zjh (h:ze a b c d l m o p i) (hi:i<ln (qel a b c d l m)) (hk:(ix (qel a b c d l m) i).Kind=3):ze a b c d l m (o++[ix (qel a b c d l m) i]) p (i+1):=by
 obtain ⟨h0,h1,h2,e⟩:=h
 refine ⟨by omega,by omega,by rw [qad];omega,?_⟩
 rw [qs0 hi,qjf,zT hk] at e
 exact e
end
theorem zhp {l:List Int} {i:Int} (h:qk5 l):I64 (atI l i):=by
 unfold atI
 split
 .exact ⟨by decide,by decide⟩
 .exact h.2 _ (qg0 (by omega) (by omega))
theorem zvg {x:Int} (h:I64 x):I64 (Int.tdiv x 7):=by
 obtain ⟨h0,h1⟩:=h
 by_cases hx:0<=x
 .rw [Int.tdiv_eq_ediv_of_nonneg hx];exact ⟨by omega,by omega⟩
 .have:Int.tdiv x 7 = -((-x) / 7):=by rw [<-Int.tdiv_eq_ediv_of_nonneg (by omega),Int.neg_tdiv,Int.neg_neg]
  rw [this];exact ⟨by omega,by omega⟩
set_option maxHeartbeats 4000000 in
theorem zgt (a0 a1 a2 a3:Int) (a4:List Int) (a5:Int) (hp:ln a4<=9223372036854775807/\qk5 a4/\(a5:Int)<=30/\(0:Int)<=a5):qv6 a0 a1 a2 a3 a4 a5:=by
 obtain ⟨hp1,hp2,h30,h0⟩:=id hp
 unfold qv6 qac
 dsimp only
 have hr:=(zc8 a0 a1 a2 a3 a4 h0).2
 have hn:=qt (qel a0 a1 a2 a3 a4 a5)
 refine ⟨trivial,trivial,hp,⟨zK _,hn,(show (2:Int)<=2+2 * 0 by decide),rfl⟩,fun x0 x1 x2 hi=>?_⟩
 obtain ⟨i0,i1,i2,i3⟩:=id hi
 have hn0:=qt x0
 have hM:=qkb (a:=Int.tdiv (atI a4 x2) 7) (b:=23) (by decide)
 have hI:=zvg (zhp (i:=x2) hp2)
 have hS:∀ s:Sign,qh (x0.length + [s].length):=fun s=>qhb (by omega)
 have hS2:∀ s t:Sign,qh ((x0++[s]).length + [t].length):=fun s t=>qhb (by rw [qad];omega)
 have h3:=qrw i0 (show (0:Int)<3 by decide)
 have go1:∀ {s:Sign} {q:Bool},x2<ln (qel a0 a1 a2 a3 a4 a5)->(ix (qel a0 a1 a2 a3 a4 a5) x2).Kind≠3->qaz a0 a1 a2 a3 (qa6 (Int.tdiv (atI a4 x2) 7) 23) x2 x0 x1=(x0++[s],q)->ze a0 a1 a2 a3 a4 a5 ((x0++[s])++[ix (qel a0 a1 a2 a3 a4 a5) x2]) q (x2+1):=
  fun h1 h2 h3=>zcm hi h1 h2 h3 (by rw [qad];exact zK _)
 have go0:x2<ln (qel a0 a1 a2 a3 a4 a5)->(ix (qel a0 a1 a2 a3 a4 a5) x2).Kind≠3->qaz a0 a1 a2 a3 (qa6 (Int.tdiv (atI a4 x2) 7) 23) x2 x0 x1=(x0,x1)->ze a0 a1 a2 a3 a4 a5 (x0++[ix (qel a0 a1 a2 a3 a4 a5) x2]) x1 (x2+1):=
  fun h1 h2 h3=>zcm hi h1 h2 h3 (by show ln x0<=_;omega)
 have ms:∀ {o:List Sign} {q:Bool},x2<ln (qel a0 a1 a2 a3 a4 a5)->qk a0 a1 a2 a3 a4 a5 o q (x2+1)<qk a0 a1 a2 a3 a4 a5 x0 x1 x2:=fun h=>by simp only [qk];omega
 have dt:x2<ln (qel a0 a1 a2 a3 a4 a5)->(ix (qel a0 a1 a2 a3 a4 a5) x2).Kind=3->ze a0 a1 a2 a3 a4 a5 (x0++[ix (qel a0 a1 a2 a3 a4 a5) x2]) x1 (x2+1):=zjh hi
 have e1:ln (qel a0 a1 a2 a3 a4 a5)<=x2->x1=true->x0++[q9v 10 2]=qj8 a0 a1 a2 a3 a4 a5:=fun h q=>by
  rw [qx8 h] at i3;rw [qj8,<-i3,q2q,zT q]
 have e0:ln (qel a0 a1 a2 a3 a4 a5)<=x2->x1=false->x0=qj8 a0 a1 a2 a3 a4 a5:=fun h q=>by
  rw [qx8 h] at i3;rw [qj8,<-i3,q2q,zF (by rw [q];simp)]
 unhygienic (repeat' (first | exact trivial | apply And.intro | (intro;intros)))
 all_goals first
  | omega
  | exact hS _
  | exact hS2 _ _
  | exact ms ‹_›
  | exact hp2
  | exact hI
  | exact dt ‹_› ‹_›
  | exact go1 ‹_› ‹_› (A0 ‹_›)
  | exact go1 ‹_› ‹_› (A1 ‹_›)
  | exact go1 ‹_› ‹_› (A2 ‹_› ‹_›)
  | exact go1 ‹_› ‹_› (A3 (by omega) ‹_› ‹_›)
  | exact go1 ‹_› ‹_› (A4 ‹_› ‹_›)
  | exact go1 ‹_› ‹_› (A5 ‹_› ‹_›)
  | exact go0 ‹_› ‹_› (A6 (by omega) ‹_›)
  | exact go0 ‹_› ‹_› (A7 (by omega) (by omega) (by omega) ‹_›)
  | exact go0 ‹_› ‹_› (A8 (by omega))
  | exact e1 ‹_› ‹_›
  | exact e0 ‹_› ‹_›
  | rfl
  | skip
end Go.Proofs.YtbopmiclcimjgaaGreatDoor
namespace Go.Proofs.YtbopmiclcimjgaaGreatDoor
open Go Go.E2 Go.E3
set_option maxRecDepth 100000
theorem qzf (a0:ZB) (a1:Int) (_:U8 a1):qoq a0 a1:=⟨trivial,rfl,trivial⟩
theorem zal (n:ZB) (l:List Sign):je n l n l=true:=decide_eq_true ⟨rfl,rfl⟩
theorem zou (g:List Int):qj8 (quj (ln g)) (quk (ln g)) (qum (ln g)) (qul (ln g)) g 30=qgg g:=rfl
theorem q6l (a0 a1:List Int) (hp:qk5 a0/\qk5 a1):qna a0 a1:=by
 obtain ⟨hp1,hp2⟩:=hp
 unfold qna
 dsimp only
 have hn:=qt a0
 have hc:=qyh a0
 have hg:=q1l a0
 have hl:=(qro a0).2
 have hl0:=qt (qgg a0)
 have hL:ln [([32]:ZB),([10]:ZB),([32,32,32]:ZB),([32,59,32,83,52,10]:ZB),([10,10,32,32]:ZB)]=5:=rfl
 have hsh:∀ {x y:ZB},ln x<=100000->ln y<=100000->qh (x.length+y.length):=fun h1 h2=>zf8 (by omega)
 refine ⟨trivial,⟨by omega,hp1.1⟩,⟨hp1.1,hp1,by decide,by decide⟩,hsh (by decide) (by decide),hsh (by decide) (by decide),?_⟩
 rw [zou]
 refine ⟨⟨zK _,hl0,by decide,rfl⟩,fun x0 x1 hi=>?_⟩
 obtain ⟨i0,i1,i2,i3⟩:=hi
 refine ⟨fun hx=>?_,fun hx=>?_⟩
 .have ho:=hg _ (qg0 i0 hx)
  have hw:=qu8 ho
  have h10:=qtq ho
  have hr:=zlh hw (by omega)
  have h5:=qkb (a:=atI a1 x1) (b:=5) (by decide)
  have h6:=zis a1 x1
  rw [qnx ho,hL]
  show Wn x1 (ln (qgg a0))/\_
  simp only [hr]
  have e1:qg4 (qgg a0) a1 (x1+1).toNat=(qg4 (qgg a0) a1 x1.toNat++jn (ix (qgg a0) x1))++q9e a1 x1:=by
   have:(x1+1).toNat=x1.toNat+1:=by omega
   rw [this,qg4,show ((x1.toNat:Nat):Int)=x1 by omega,qnx ho]
  refine ⟨⟨i0,hx⟩,trivial,trivial,fun h=>absurd rfl h,fun _=>⟨fun h=>absurd rfl h,fun _=>⟨fun h=>absurd rfl h,fun _=>⟨⟨zK _,(show (0:Int)<1 by decide)⟩,fun h=>absurd rfl h,fun _=>
   ⟨hsh (by omega) (by omega),trivial,trivial,trivial,trivial,trivial,hp2.1,⟨zhp hp2,by decide,by decide⟩,h5,hsh (by rw [kz];omega) (show ln (q9e a1 x1)<=100000 by omega),⟨by omega,by omega⟩,trivial,trivial,⟨by omega,by omega,?_,?_⟩,?_⟩⟩⟩⟩⟩
  .show ln ((x0++jn (ix (qgg a0) x1))++q9e a1 x1)<=_
   rw [kz,kz];omega
  .rw [e1,<-i3];rfl
  .simp only [qe4];omega
 .have hx1:x1=ln (qgg a0):=by omega
  subst hx1
  rw [i3,q9p]
  rw [<-i3]
  refine ⟨hsh (by omega) (by decide),?_,fun _=>⟨fun _=>⟨by omega,zal _ _,trivial⟩,fun h=>absurd rfl h⟩,fun h=>by cases h⟩
  rw [kz]
  show ln x0+4<=_
  omega
end Go.Proofs.YtbopmiclcimjgaaGreatDoor
