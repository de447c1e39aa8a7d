import Derived.Test.YtcnoipglgpkpeaaGreatDoorOks
namespace Go.Proofs.YtcnoipglgpkpeaaGreatDoor
open Go Go.E2 Go.E3
set_option maxRecDepth 100000
variable {sp:Nat->Option (List V->Heap->Option (CR×Heap))}
theorem qyr (hq:zf (cfg sp)):∀ (m:Nat) (a0 a1:Int),Int.toNat a1=m->(0<=a0/\0<=a1/\a0<=4611686018427387904/\a1<=4611686018427387904)->qbb XK szK (cfg sp) 79 [.int .i64 none a0,.int .i64 none a1] (qjp a0 a1):=by
 intro m
 induction m using Nat.strongRecOn with
 | _ m ih=>
  intro a0 a1 hm hp
  have hc:qdk XK szK (cfg sp) 79 (q77 a0 a1):=by
   intro ns pre r h hp2
   unfold q77 at h
   dsimp only at h
   split at h
   .cases h
    exact ⟨_,rfl,ih _ (by rw [<-hm];exact hp2.2) _ _ rfl hp2.1,zt rfl⟩
   .cases h
  exact qbm qau jd (qm hc zl) hq (zg rfl) (by simp [P.flat,P.cellsOf,RT]) (q1q a0 a1) (q1p a0 a1 hp)
theorem q1o (hq:zf (cfg sp)) (a0 a1:Int) (hp:(0<=a0/\0<=a1/\a0<=4611686018427387904/\a1<=4611686018427387904)):qbb XK szK (cfg sp) 79 [.int .i64 none a0,.int .i64 none a1] (qjp a0 a1):=qyr hq _ a0 a1 rfl hp
theorem qvz (hq:zf (cfg sp)):qdk XK szK (cfg sp) 79 q76:=by
 intro ns pre r h hp
 unfold q76 at h
 dsimp only at h
 split at h
 .cases h
  exact ⟨_,rfl,q1o hq _ _ hp,zt rfl⟩
 .cases h
theorem q4m (hq:zf (cfg sp)) (a0 a1:Int):qbb XK szK (cfg sp) 43 [.agg [.int .i64 none a0,.int .i64 none a1]] (qqv a0 a1):=
 qbm qau jd (qm (qvz hq) zl) hq (zg rfl) (by simp [P.flat,P.cellsOf,RT]) (q4o a0 a1) (q4n a0 a1 )
theorem qqk (hq:zf (cfg sp)):qdk XK szK (cfg sp) 43 q5e:=by
 intro ns pre r h hp
 unfold q5e at h
 dsimp only at h
 split at h
 .cases h
  exact ⟨_,rfl,q4m hq _ _,zt rfl⟩
 .cases h
theorem q5l (hq:zf (cfg sp)) (a0:List Time) (hp:(ln a0<=1000000000)):qbb XK szK (cfg sp) 77 [.list 9 a0 none] (qr3 a0):=
 qbm qau jd (qm (qqk hq) zl) hq (zg rfl) (by simp [P.flat,P.cellsOf,RT]) (q5n a0) (q5m a0 hp)
theorem q25 (hq:zf (cfg sp)):qdk XK szK (cfg sp) 77 zbf:=by
 intro ns pre r h hp
 unfold zbf at h
 dsimp only at h
 split at h
 .cases h
  exact ⟨_,rfl,q5l hq _ hp,zt rfl⟩
 .cases h
theorem q67 (hq:zf (cfg sp)) (a0 a1:Int) (hp:(0<=a0/\1<=a1/\a0<=4611686018427387904/\a1<=4611686018427387904)):qbb XK szK (cfg sp) 78 [.int .i64 none a0,.int .i64 none a1] (qt6 a0 a1):=
 qbm qau jd (qm (qvz hq) zl) hq (zg rfl) (by simp [P.flat,P.cellsOf,RT]) (q69 a0 a1) (q68 a0 a1 hp)
theorem q26 (hq:zf (cfg sp)):qdk XK szK (cfg sp) 78 zbg:=by
 intro ns pre r h hp
 unfold zbg at h
 dsimp only at h
 split at h
 .cases h
  exact ⟨_,rfl,q67 hq _ _ hp,zt rfl⟩
 .cases h
theorem zap (hq:zf (cfg sp)) (a0 a1 a2 a3:Int):qbb XK szK (cfg sp) 42 [.agg [.int .i64 none a0,.int .i64 none a1],.agg [.int .i64 none a2,.int .i64 none a3]] (qxq a0 a1 a2 a3):=
 qbm qau jd (qm (q25 hq) (qm (q26 hq) zl)) hq (zg rfl) (by simp [P.flat,P.cellsOf,RT]) (zar a0 a1 a2 a3) (zaq a0 a1 a2 a3 )
theorem qkn (hq:zf (cfg sp)):qdk XK szK (cfg sp) 42 qyp:=by
 intro ns pre r h hp
 unfold qyp at h
 dsimp only at h
 split at h
 .cases h
  exact ⟨_,rfl,zap hq _ _ _ _,zt rfl⟩
 .cases h
theorem q6o (hq:zf (cfg sp)) (a0 a1 a2 a3:Int) (hp:(qta a0 a1 a2 a3)):qbb XK szK (cfg sp) 106 [.int .i64 none a0,.int .i64 none a1,.int .i64 none a2,.int .i64 none a3] (qtb a0 a1 a2 a3):=
 qbm qau jd (qm (qvz hq) (qm (q26 hq) zl)) hq (zg rfl) (by simp [P.flat,P.cellsOf,RT]) (q6q a0 a1 a2 a3) (q6p a0 a1 a2 a3 hp)
theorem q7z (hq:zf (cfg sp)):qdk XK szK (cfg sp) 106 q7y:=by
 intro ns pre r h hp
 unfold q7y at h
 dsimp only at h
 split at h
 .cases h
  exact ⟨_,rfl,q6o hq _ _ _ _ hp,zt rfl⟩
 .cases h
theorem zaw (hq:zf (cfg sp)) (a0 a1 a2 a3:Int):qbb XK szK (cfg sp) 90 [.agg [.int .i64 none a0,.int .i64 none a1],.agg [.int .i64 none a2,.int .i64 none a3]] (qxz a0 a1 a2 a3):=
 qbm qau jd (qm (q25 hq) (qm (q7z hq) zl)) hq (zg rfl) (by simp [P.flat,P.cellsOf,RT]) (zay a0 a1 a2 a3) (zax a0 a1 a2 a3 )
theorem zbj (hq:zf (cfg sp)):qdk XK szK (cfg sp) 90 zd5:=by
 intro ns pre r h hp
 unfold zd5 at h
 dsimp only at h
 split at h
 .cases h
  exact ⟨_,rfl,zaw hq _ _ _ _,zt rfl⟩
 .cases h
theorem q4j (hq:zf (cfg sp)) (a0 a1 a2:Int):qbb XK szK (cfg sp) 9 [.agg [.int .i64 none a0,.int .i64 none a1,.int .i64 none a2]] (qqu a0 a1 a2):=
 qbm qau jd zl hq (zg rfl) (by simp [P.flat,P.cellsOf,RT]) (q4l a0 a1 a2) (q4k a0 a1 a2 )
theorem qrn (hq:zf (cfg sp)):qdk XK szK (cfg sp) 9 ct9:=by
 intro ns pre r h hp
 unfold ct9 at h
 dsimp only at h
 split at h
 .cases h
  exact ⟨_,rfl,q4j hq _ _ _,zt rfl⟩
 .cases h
theorem q03 (hq:zf (cfg sp)) (a0 a1 a2 a3 a4 a5:Int):qbb XK szK (cfg sp) 120 [.agg [.int .i64 none a0,.int .i64 none a1,.int .i64 none a2],.agg [.int .i64 none a3,.int .i64 none a4,.int .i64 none a5]] (qpb a0 a1 a2 a3 a4 a5):=
 qbm qau jd (qm (qrn hq) zl) hq (zg rfl) (by simp [P.flat,P.cellsOf,RT]) (q05 a0 a1 a2 a3 a4 a5) (q04 a0 a1 a2 a3 a4 a5 )
theorem q75 (hq:zf (cfg sp)):qdk XK szK (cfg sp) 120 q74:=by
 intro ns pre r h hp
 unfold q74 at h
 dsimp only at h
 split at h
 .cases h
  exact ⟨_,rfl,q03 hq _ _ _ _ _ _,zt rfl⟩
 .cases h
theorem q7b (hq:zf (cfg sp)) (a0 a1 a2 a3:Int):qbb XK szK (cfg sp) 86 [.agg [.int .i64 none a0,.int .i64 none a1,.int .i64 none a2],.int .i64 none a3] (qt7 a0 a1 a2 a3):=
 qbm qau jd (qm (qrn hq) zl) hq (zg rfl) (by simp [P.flat,P.cellsOf,RT]) (q7d a0 a1 a2 a3) (q7c a0 a1 a2 a3 )
theorem zbh (hq:zf (cfg sp)):qdk XK szK (cfg sp) 86 zd3:=by
 intro ns pre r h hp
 unfold zd3 at h
 dsimp only at h
 split at h
 .cases h
  exact ⟨_,rfl,q7b hq _ _ _ _,zt rfl⟩
 .cases h
theorem zb8 (hq:zf (cfg sp)) (a0 a1 a2 a3 a4 a5 a6:Int) (a7:Bool) (a8 a9:Int):qbb XK szK (cfg sp) 41 [.agg [.int .i64 none a0,.int .i64 none a1,.int .i64 none a2,.int .i64 none a3,.int .i64 none a4,.int .i64 none a5,.int .i64 none a6,.sb 0 false a7 (a7=true) (a7=false),.int .i64 none a8,.int .i64 none a9]] (qzu a0 a1 a2 a3 a4 a5 a6 a7 a8 a9):=
 qbm qau jd (qm (qqk hq) (qm (qrn hq) zl)) hq (zg rfl) (by simp [P.flat,P.cellsOf,RT]) (zca a0 a1 a2 a3 a4 a5 a6 a7 a8 a9) (zb9 a0 a1 a2 a3 a4 a5 a6 a7 a8 a9 )
theorem za8 (hq:zf (cfg sp)):qdk XK szK (cfg sp) 41 zdv:=by
 intro ns pre r h hp
 unfold zdv at h
 dsimp only at h
 split at h
 .cases h
  exact ⟨_,rfl,zb8 hq _ _ _ _ _ _ _ _ _ _,zt rfl⟩
 .cases h
theorem q4d (hq:zf (cfg sp)) (a0:List Event) (hp:(ln a0<=1000000000)):qbb XK szK (cfg sp) 22 [.list 11 a0 none] (qqs a0):=
 qbm qau jd (qm (za8 hq) (qm (qkn hq) zl)) hq (zg rfl) (by simp [P.flat,P.cellsOf,RT]) (q4f a0) (q4e a0 hp)
theorem qkm (hq:zf (cfg sp)):qdk XK szK (cfg sp) 22 qyo:=by
 intro ns pre r h hp
 unfold qyo at h
 dsimp only at h
 split at h
 .cases h
  exact ⟨_,rfl,q4d hq _ hp,zt rfl⟩
 .cases h
theorem q60 (hq:zf (cfg sp)) (a0:List Event) (hp:(ln a0<=1000000000)):qbb XK szK (cfg sp) 45 [.list 11 a0 none] (qt3 a0):=
 q8f qau jd zl hq (zg rfl) (by simp [P.flat,P.cellsOf,RT]) (q62 a0) (q61 a0 hp)
theorem zba (hq:zf (cfg sp)):qdk XK szK (cfg sp) 45 zdx:=by
 intro ns pre r h hp
 unfold zdx at h
 dsimp only at h
 split at h
 .cases h
  exact ⟨_,rfl,q60 hq _ hp,zt rfl⟩
 .cases h
theorem q44 (hq:zf (cfg sp)) (a0 a1:Int):qbb XK szK (cfg sp) 88 [.agg [.int .i64 none a0,.int .i64 none a1]] (qq4 a0 a1):=
 qbm qau jd (qm (qqk hq) zl) hq (zg rfl) (by simp [P.flat,P.cellsOf,RT]) (q46 a0 a1) (q45 a0 a1 )
theorem q27 (hq:zf (cfg sp)):qdk XK szK (cfg sp) 88 zbi:=by
 intro ns pre r h hp
 unfold zbi at h
 dsimp only at h
 split at h
 .cases h
  exact ⟨_,rfl,q44 hq _ _,zt rfl⟩
 .cases h
theorem q4y (hq:zf (cfg sp)) (a0:List Event) (hp:(ln a0<=1000000000)):qbb XK szK (cfg sp) 109 [.list 11 a0 none] (qq1 a0):=
 qbm qau jd (qm (qkm hq) (qm (qkn hq) zl)) hq (zg rfl) (by simp [P.flat,P.cellsOf,RT]) (q40 a0) (q4z a0 hp)
theorem q71 (hq:zf (cfg sp)):qdk XK szK (cfg sp) 109 q70:=by
 intro ns pre r h hp
 unfold q70 at h
 dsimp only at h
 split at h
 .cases h
  exact ⟨_,rfl,q4y hq _ hp,zt rfl⟩
 .cases h
theorem q06 (hq:zf (cfg sp)) (a0:List Event) (a1 a2 a3:Int) (hp:(ln a0<=1000000000)):qbb XK szK (cfg sp) 110 [.list 11 a0 none,.agg [.int .i64 none a1,.int .i64 none a2,.int .i64 none a3]] (qpc a0 a1 a2 a3):=
 qbm qau jd (qm (qkm hq) (qm (qrn hq) (qm (q75 hq) (qm (qkn hq) zl)))) hq (zg rfl) (by simp [P.flat,P.cellsOf,RT]) (q08 a0 a1 a2 a3) (q07 a0 a1 a2 a3 hp)
theorem q73 (hq:zf (cfg sp)):qdk XK szK (cfg sp) 110 q72:=by
 intro ns pre r h hp
 unfold q72 at h
 dsimp only at h
 split at h
 .cases h
  exact ⟨_,rfl,q06 hq _ _ _ _ hp,zt rfl⟩
 .cases h
theorem q7e (hq:zf (cfg sp)) (a0:List Event) (a1:Int) (hp:(ln a0<=1000000000)):qbb XK szK (cfg sp) 49 [.list 11 a0 none,.int .i64 none a1] (qt8 a0 a1):=
 qbm qau jd (qm (qkm hq) (qm (zbh hq) (qm (qkn hq) zl))) hq (zg rfl) (by simp [P.flat,P.cellsOf,RT]) (q7g a0 a1) (q7f a0 a1 hp)
theorem zbb (hq:zf (cfg sp)):qdk XK szK (cfg sp) 49 zdy:=by
 intro ns pre r h hp
 unfold zdy at h
 dsimp only at h
 split at h
 .cases h
  exact ⟨_,rfl,q7e hq _ _ hp,zt rfl⟩
 .cases h
theorem qx3 (hq:zf (cfg sp)) (a0:List Event) (a1 a2:Int) (hp:(ln a0<=1000000000)):qbb XK szK (cfg sp) 51 [.list 11 a0 none,.agg [.int .i64 none a1,.int .i64 none a2]] (qmm a0 a1 a2):=
 qbm qau jd (qm (qkm hq) (qm (q27 hq) (qm (zbj hq) (qm (qkn hq) zl)))) hq (zg rfl) (by simp [P.flat,P.cellsOf,RT]) (qx5 a0 a1 a2) (qx4 a0 a1 a2 hp)
theorem zbc (hq:zf (cfg sp)):qdk XK szK (cfg sp) 51 zdz:=by
 intro ns pre r h hp
 unfold zdz at h
 dsimp only at h
 split at h
 .cases h
  exact ⟨_,rfl,qx3 hq _ _ _ hp,zt rfl⟩
 .cases h
theorem q4q (hq:zf (cfg sp)) (a0:List Event) (a1 a2:Int) (hp:(ln a0<=1000000000)):qbb XK szK (cfg sp) 53 [.list 11 a0 none,.agg [.int .i64 none a1,.int .i64 none a2]] (qqw a0 a1 a2):=
 qbm qau jd (qm (qkm hq) (qm (q27 hq) (qm (qkn hq) zl))) hq (zg rfl) (by simp [P.flat,P.cellsOf,RT]) (q4s a0 a1 a2) (q4r a0 a1 a2 hp)
theorem zbd (hq:zf (cfg sp)):qdk XK szK (cfg sp) 53 zd0:=by
 intro ns pre r h hp
 unfold zd0 at h
 dsimp only at h
 split at h
 .cases h
  exact ⟨_,rfl,q4q hq _ _ _ hp,zt rfl⟩
 .cases h
theorem q4g (hq:zf (cfg sp)) (a0 a1 a2 a3:Int):qbb XK szK (cfg sp) 44 [.agg [.int .i64 none a0,.int .i64 none a1,.int .i64 none a2,.int .i64 none a3]] (qqt a0 a1 a2 a3):=
 qbm qau jd zl hq (zg rfl) (by simp [P.flat,P.cellsOf,RT]) (q4i a0 a1 a2 a3) (q4h a0 a1 a2 a3 )
theorem za9 (hq:zf (cfg sp)):qdk XK szK (cfg sp) 44 zdw:=by
 intro ns pre r h hp
 unfold zdw at h
 dsimp only at h
 split at h
 .cases h
  exact ⟨_,rfl,q4g hq _ _ _ _,zt rfl⟩
 .cases h
theorem q4a (hq:zf (cfg sp)) (a0 a1 a2:Int) (a3 a4:Bool) (a5 a6 a7 a8 a9 a10:Int):qbb XK szK (cfg sp) 23 [.agg [.int .i64 none a0,.int .i64 none a1,.int .i64 none a2,.sb 0 false a3 (a3=true) (a3=false),.sb 0 false a4 (a4=true) (a4=false),.int .i64 none a5,.int .i64 none a6,.int .i64 none a7,.int .i64 none a8,.int .i64 none a9,.int .i64 none a10]] (qqr a0 a1 a2 a3 a4 a5 a6 a7 a8 a9 a10):=
 qbm qau jd (qm (qqk hq) (qm (za9 hq) zl)) hq (zg rfl) (by simp [P.flat,P.cellsOf,RT]) (q4c a0 a1 a2 a3 a4 a5 a6 a7 a8 a9 a10) (q4b a0 a1 a2 a3 a4 a5 a6 a7 a8 a9 a10 )
theorem za6 (hq:zf (cfg sp)):qdk XK szK (cfg sp) 23 zdt:=by
 intro ns pre r h hp
 unfold zdt at h
 dsimp only at h
 split at h
 .cases h
  exact ⟨_,rfl,q4a hq _ _ _ _ _ _ _ _ _ _ _,zt rfl⟩
 .cases h
theorem q5i (hq:zf (cfg sp)) (a0:List Event) (hp:(ln a0<=1000000000)):qbb XK szK (cfg sp) 67 [.list 11 a0 none] (qr2 a0):=
 qbm qau jd zl hq (zg rfl) (by simp [P.flat,P.cellsOf,RT]) (q5k a0) (q5j a0 hp)
theorem zbe (hq:zf (cfg sp)):qdk XK szK (cfg sp) 67 zd1:=by
 intro ns pre r h hp
 unfold zd1 at h
 dsimp only at h
 split at h
 .cases h
  exact ⟨_,rfl,q5i hq _ hp,zt rfl⟩
 .cases h
theorem q64 (hq:zf (cfg sp)) (a0:List Event) (a1 a2 a3:Int) (a4 a5:Bool) (a6 a7 a8 a9 a10 a11:Int) (hp:(ln a0<=1000000000)):qbb XK szK (cfg sp) 8 [.list 11 a0 none,.agg [.int .i64 none a1,.int .i64 none a2,.int .i64 none a3,.sb 0 false a4 (a4=true) (a4=false),.sb 0 false a5 (a5=true) (a5=false),.int .i64 none a6,.int .i64 none a7,.int .i64 none a8,.int .i64 none a9,.int .i64 none a10,.int .i64 none a11]] (qt5 a0 a1 a2 a3 a4 a5 a6 a7 a8 a9 a10 a11):=
 qbm qau jd (qm (qkm hq) (qm (za6 hq) (qm (q71 hq) (qm (zbe hq) (qm (q73 hq) (qm (zbb hq) (qm (zbc hq) (qm (zbd hq) (qm (zba hq) zl))))))))) hq (zg rfl) (by simp [P.flat,P.cellsOf,RT]) (q66 a0 a1 a2 a3 a4 a5 a6 a7 a8 a9 a10 a11) (q65 a0 a1 a2 a3 a4 a5 a6 a7 a8 a9 a10 a11 hp)
theorem zd4 (hq:zf (cfg sp)):qdk XK szK (cfg sp) 8 ct8:=by
 intro ns pre r h hp
 unfold ct8 at h
 dsimp only at h
 split at h
 .cases h
  exact ⟨_,rfl,q64 hq _ _ _ _ _ _ _ _ _ _ _ _ hp,zt rfl⟩
 .cases h
theorem zat (hq:zf (cfg sp)) (a0 a1:Int) (hp:((1:Int)<=a1/\(a1:Int)<=1000000/\(-9223372036854775808:Int)<=a0/\(a0:Int)<=9223372036854775807)):qbb XK szK (cfg sp) 20 [.int .i64 none a0,.int .i64 none a1] (qxx a0 a1):=
 qbm qau jd zl hq (zg rfl) (by simp [P.flat,P.cellsOf,RT]) (zav a0 a1) (zau a0 a1 hp)
theorem za4 (hq:zf (cfg sp)):qdk XK szK (cfg sp) 20 zdr:=by
 intro ns pre r h hp
 unfold zdr at h
 dsimp only at h
 split at h
 .cases h
  exact ⟨_,rfl,zat hq _ _ hp,zt rfl⟩
 .cases h
theorem zfm (hq:zf (cfg sp)) (a0 a1:Int) (hp:((0:Int)<=a0/\(a0:Int)<=1000000000000/\(1:Int)<=a1/\(a1:Int)<=1000000000000)):qbb XK szK (cfg sp) 39 [.int .i64 none a0,.int .i64 none a1] (q7o a0 a1):=
 qbm qau jd zl hq (zg rfl) (by simp [P.flat,P.cellsOf,RT]) (zfo a0 a1) (zfn a0 a1 hp)
theorem za7 (hq:zf (cfg sp)):qdk XK szK (cfg sp) 39 zdu:=by
 intro ns pre r h hp
 unfold zdu at h
 dsimp only at h
 split at h
 .cases h
  exact ⟨_,rfl,zfm hq _ _ hp,zt rfl⟩
 .cases h
theorem q7i (hq:zf (cfg sp)) (a0 a1 a2 a3:Int) (hp:((0:Int)<=a0/\(a0:Int)<=100000/\(1:Int)<=a1/\(a1:Int)<=100000/\(0:Int)<=a2/\(a2:Int)<=100000/\(1:Int)<=a3/\(a3:Int)<=100000)):qbb XK szK (cfg sp) 21 [.agg [.int .i64 none a0,.int .i64 none a1],.agg [.int .i64 none a2,.int .i64 none a3]] (qt9 a0 a1 a2 a3):=
 qbm qau jd (qm (za7 hq) zl) hq (zg rfl) (by simp [P.flat,P.cellsOf,RT]) (q7k a0 a1 a2 a3) (q7j a0 a1 a2 a3 hp)
theorem za5 (hq:zf (cfg sp)):qdk XK szK (cfg sp) 21 zds:=by
 intro ns pre r h hp
 unfold zds at h
 dsimp only at h
 split at h
 .cases h
  exact ⟨_,rfl,q7i hq _ _ _ _ hp,zt rfl⟩
 .cases h
theorem q41 (hq:zf (cfg sp)) (a0:List Int) (a1:Int) (hp:(ln a0<=9223372036854775807/\(0:Int)<=a1/\(a1:Int)<=20/\∀ x ∈ a0,I64 x)):qbb XK szK (cfg sp) 6 [.list 1 a0 none,.int .i64 none a1] (qq3 a0 a1):=
 q8f qau jd (qm (za4 hq) (qm (za5 hq) zl)) hq (zg rfl) (by simp [P.flat,P.cellsOf,RT]) (q43 a0 a1) (q42 a0 a1 hp)
theorem zd2 (hq:zf (cfg sp)):qdk XK szK (cfg sp) 6 ct6:=by
 intro ns pre r h hp
 unfold ct6 at h
 dsimp only at h
 split at h
 .cases h
  exact ⟨_,rfl,q41 hq _ _ hp,zt rfl⟩
 .cases h
theorem qzh (hq:zf (cfg sp)) (hf10:qdk XK szK (cfg sp) 10 za3) (a0:List Int) (hp:(ln a0<=9223372036854775807/\∀ x ∈ a0,I64 x)):qbb XK szK (cfg sp) 3 [.list 1 a0 none] (qnd a0):=
 qbm qau jd (qm (zd2 hq) (qm (zd4 hq) (qm (qrn hq) (qm hf10 zl)))) hq (zg rfl) (by simp [P.flat,P.cellsOf,RT]) (qzj a0) (qzi a0 hp)
end Go.Proofs.YtcnoipglgpkpeaaGreatDoor
