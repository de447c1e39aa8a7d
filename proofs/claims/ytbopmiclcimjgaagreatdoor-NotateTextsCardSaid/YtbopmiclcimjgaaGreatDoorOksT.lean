/- THE CONDITIONS of the two functions that write a part, and of the law, hold. -/
import Derived.Test.YtbopmiclcimjgaaGreatDoorOksT1
import Derived.Test.YtbopmiclcimjgaaGreatDoorOksW
namespace Go.Proofs.YtbopmiclcimjgaaGreatDoor
open Go Go.E2 Go.E3
set_option maxRecDepth 100000

theorem q52 (k:Int):(qmy k).length<=1:=by unfold qmy;(repeat' split)<;>simp
theorem qbt (l m:List UInt8) {i j k:Nat} (h1:l.length<=i) (h2:m.length<=j) (h:i+j<=k):(l++m).length<=k:=by rw [List.length_append];omega
theorem q9q (s:Sign):(qc0 s).length<=10:=
  qbt _ _ (qbt _ _ (qbt _ _ (qbt _ _ (i:=1) (Nat.le_refl _) (qmd s) (Nat.le_refl 7)) (qsm _) (Nat.le_refl 8)) (qmm _ _) (Nat.le_refl 9)) (qmm _ _) (Nat.le_refl 10)
theorem q6a (s:Sign):(qax s).length<=30:=by
  unfold qax
  split
  . exact qbt _ _ (qml _) (qmd s) (by decide)
  split
  . exact qbt _ _ (i:=1) (Nat.le_refl _) (qml _) (by decide)
  split
  . decide
  split
  . exact Nat.le_trans (q9q s) (by decide)
  split
  . exact qbt _ _ (qbt _ _ (qbt _ _ (i:=1) (Nat.le_refl _) (qso _ _ _ _) (Nat.le_refl 5)) (j:=1) (Nat.le_refl _) (Nat.le_refl 6)) (qmm _ _) (by decide)
  split
  . exact qbt _ _ (qbt _ _ (k7 _) (j:=1) (Nat.le_refl _) (Nat.le_refl 5)) (k7 _) (by decide)
  split
  . exact qbt _ _ (qbt _ _ (i:=1) (Nat.le_refl _) (q52 _) (Nat.le_refl 2)) (k7 _) (by decide)
  split
  . exact qbt _ _ (i:=1) (Nat.le_refl _) (k7 _) (by decide)
  split
  . decide
  split
  . exact qbt _ _ (i:=1) (Nat.le_refl _) (k7 _) (by decide)
  split<;>decide
theorem q9z (s:Sign):(qq s).1.length<=30:=by
  unfold qq
  split
  . exact q6a s
  . exact Nat.zero_le _
theorem qws (s:Sign):0<=ln (qq s).1/\ln (qq s).1<=30:=by
  have:=q9z s
  simp only [ln];omega
theorem zdv (l:List Sign) {i:Int} (h:0<=i):ix l i=ix l (i.toNat:Nat):=by rw [Int.toNat_of_nonneg h]
theorem qst (l:List Sign) {i:Int} (h:0<=i):qzu l (i+1).toNat=qzu l i.toNat++[qlh i.toNat]++(qq (ix l i)).1:=by
  have:(i+1).toNat=i.toNat+1:=by omega
  rw [this,qzu,zdv l h]
theorem zb8 {i:Int} (h0:0<=i) (h:Int.tmod i 16=0):qlh i.toNat=10:=by
  rw [Int.tmod_eq_emod_of_nonneg h0] at h
  rw [qlh,if_pos (by omega)]
theorem zd8 {i:Int} (h0:0<=i) (h:Int.tmod i 16≠0):qlh i.toNat=32:=by
  rw [Int.tmod_eq_emod_of_nonneg h0] at h
  rw [qlh,if_neg (by omega)]
theorem q9c {i:Int} (h0:0<=i) (h:Int.tmod i 16=15):qlh (i+1).toNat=10:=by
  rw [Int.tmod_eq_emod_of_nonneg h0] at h
  rw [qlh,if_pos (by omega)]
theorem q9d {i:Int} (h0:0<=i) (h:Int.tmod i 16≠15):qlh (i+1).toNat=32:=by
  rw [Int.tmod_eq_emod_of_nonneg h0] at h
  rw [qlh,if_neg (by omega)]
theorem qjy {n:List UInt8} {l:List Sign} (h:(qo n l).1≠0):qa7 n l=([],(qo n l).1):=by rw [qa7,if_neg h]
theorem qm0 {n:List UInt8} {l:List Sign} (h:(qo n l).1=0):qa7 n l=(([112,97,114,116,32]++n)++qzu l (ln l).toNat++[10,101,110,100,10],0):=by rw [qa7,if_pos h]
theorem u10:UInt8.ofNat (Int.toNat 10)=10:=rfl
theorem u32:UInt8.ofNat (Int.toNat 32)=32:=rfl
theorem q8f (l:List UInt8):([]:List UInt8)++l=l:=rfl
theorem qfh {l m:List UInt8} {k:Int} (h:ln l+ln m<=k) (hk:k<=1000000000):l.length+m.length<=1000000000:=by
  simp only [ln] at h;omega

theorem q6r (a0:List UInt8) (a1:List Sign) (hp:ln a0<=1000/\ln a1<=1000):qqm a0 a1:=by
  unfold qqm
  simp only [qmw]
  have n0:=qbc a0
  have n1:=qbc a1
  have c5:ln ([112,97,114,116,32]:List UInt8)=5:=rfl
  have e5:ln ([10,101,110,100,10]:List UInt8)=5:=rfl
  have s10:ln ([10]:List UInt8)=1:=rfl
  have s32:ln ([32]:List UInt8)=1:=rfl
  refine ⟨by omega,fun hc=>⟨by rw [qjy hc],by rw [qjy hc],trivial⟩,fun hc=>⟨qfh (k:=1010) (by omega) (by decide),⟨Int.le_refl _,n1,by rw [jk];omega,(List.append_nil _).symm⟩,fun b i ⟨i0,i1,hb,he⟩=>⟨fun hi=>⟨⟨i0,hi⟩,trivial,by decide,?_,?_⟩,fun hi=>?_⟩⟩⟩
  . intro hm
    have hw:=qws (ix a1 i)
    refine ⟨qfh (k:=100000) (by omega) (by decide),qfh (k:=100000) (by rw [jk];omega) (by decide),⟨by omega,by omega⟩,trivial,trivial,⟨by omega,by omega,by rw [jk,jk];omega,?_⟩,by simp only [qbu];omega⟩
    rw [qst a1 i0,zb8 i0 hm,he]
    simp only [List.append_assoc]
  . intro hm
    have hw:=qws (ix a1 i)
    refine ⟨qfh (k:=100000) (by omega) (by decide),qfh (k:=100000) (by rw [jk];omega) (by decide),⟨by omega,by omega⟩,trivial,trivial,⟨by omega,by omega,by rw [jk,jk];omega,?_⟩,by simp only [qbu];omega⟩
    rw [qst a1 i0,zd8 i0 hm,he]
    simp only [List.append_assoc]
  . have:i=ln a1:=by omega
    subst this
    refine ⟨qfh (k:=100000) (by omega) (by decide),?_,by rw [qm0 hc],trivial⟩
    rw [qm0 hc,he]

theorem q6o (a0:List UInt8) (a1:List Sign) (hp:ln a0<=1000/\ln a1<=1000):qql a0 a1:=by
  unfold qql
  simp only [qmw,u10,u32,q8f]
  have n0:=qbc a0
  have n1:=qbc a1
  have c5:ln ([112,97,114,116,32]:List UInt8)=5:=rfl
  have e4:ln ([101,110,100,10]:List UInt8)=4:=rfl
  have s10:ln ([10]:List UInt8)=1:=rfl
  have s32:ln ([32]:List UInt8)=1:=rfl
  have s0:ln ([]:List UInt8)=0:=rfl
  refine ⟨by omega,fun hc=>⟨by rw [qjy hc],by rw [qjy hc],trivial⟩,fun hc=>⟨qfh (k:=1010) (by omega) (by decide),qfh (k:=1010) (by rw [jk];omega) (by decide),qfh (k:=1010) (by rw [jk,jk];omega) (by decide),
    ⟨Int.le_refl _,n1,by rw [jk,jk];omega,?_⟩,fun b i ⟨i0,i1,hb,he⟩=>⟨fun hi=>?_,fun hi=>?_⟩⟩⟩
  . have:(if (0:Int)=ln a1 then (10:UInt8) else qlh (0:Int).toNat)=10:=by split<;>rfl
    rw [this]
    show _=_++[]++_
    rw [List.append_nil]
  . have hw:=qws (ix a1 i)
    have hq:(if i=ln a1 then (10:UInt8) else qlh i.toNat)=qlh i.toNat:=if_neg (by omega)
    rw [hq] at he
    have step:∀ c:UInt8,(if i+1=ln a1 then (10:UInt8) else qlh (i+1).toNat)=c->qcj a0 a1 (b++(qq (ix a1 i)).1++[c]) (i+1):=by
      intro c hcc
      have sc:ln [c]=1:=rfl
      refine ⟨by omega,by omega,by rw [jk,jk];omega,?_⟩
      rw [hcc,qst a1 i0,he]
      simp only [List.append_assoc]
    have sh1:b.length+(qq (ix a1 i)).1.length<=1000000000:=qfh (k:=100000) (by omega) (by decide)
    have sh2:∀ c:UInt8,(b++(qq (ix a1 i)).1).length + [c].length<=1000000000:=fun c=>qfh (k:=100000) (by have sc:ln [c]=1:=rfl;rw [jk];omega) (by decide)
    have hi':I64 (i+1):=⟨by omega,by omega⟩
    have hm:∀ x,jt a0 a1 x (i+1)<jt a0 a1 b i:=fun x=>by simp only [jt];omega
    refine ⟨⟨i0,hi⟩,trivial,sh1,by decide,fun h15=>⟨⟨by decide,by decide⟩,sh2 _,hi',trivial,trivial,step 10 ?_,hm _⟩,fun h15=>⟨hi',fun hl=>⟨⟨by decide,by decide⟩,sh2 _,hi',trivial,trivial,step 10 (if_pos hl),hm _⟩,fun hl=>⟨⟨by decide,by decide⟩,sh2 _,hi',trivial,trivial,step 32 ?_,hm _⟩⟩⟩
    . rw [q9c i0 h15];split<;>rfl
    . rw [if_neg hl,q9d i0 h15]
  . have:i=ln a1:=by omega
    subst this
    rw [if_pos rfl] at he
    refine ⟨qfh (k:=100000) (by omega) (by decide),by rw [jk];omega,?_,by rw [qm0 hc],trivial⟩
    rw [qm0 hc,he,List.append_assoc];rfl

theorem qyp (a0:List UInt8) (a1:List Sign) (_:ln a0<=9223372036854775807/\ln a1<=9223372036854775807):qi7 a0 a1:=by
  unfold qi7
  have sp:z7 a0 a1 a0 a1=true:=decide_eq_true ⟨rfl,rfl⟩
  refine ⟨fun _=>⟨trivial,rfl,trivial⟩,fun h1=>⟨fun _=>⟨trivial,rfl,trivial⟩,fun h2=>⟨by omega,by omega,by omega,fun _=>⟨fun _=>⟨by omega,fun _=>⟨trivial,rfl,trivial⟩,fun h=>?_⟩,fun h=>absurd rfl h⟩,fun h=>absurd rfl h⟩⟩⟩
  rw [sp] at h;cases h
end Go.Proofs.YtbopmiclcimjgaaGreatDoor
