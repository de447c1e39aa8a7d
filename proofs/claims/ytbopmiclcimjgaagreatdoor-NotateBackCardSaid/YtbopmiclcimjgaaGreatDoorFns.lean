import Derived.Test.YtbopmiclcimjgaaGreatDoorOks
namespace Go.Proofs.YtbopmiclcimjgaaGreatDoor
open Go Go.E2 Go.E3
set_option maxRecDepth 100000
variable {sp:Nat->Option (List V->Heap->Option (CR×Heap))}
theorem q52 (hq:zf (cfg sp)):qcg XK szK (cfg sp) 137 zca:=by
 intro ns pre r h hp
 unfold zca at h
 dsimp only at h
 split at h
 .cases h
  exact ⟨_,rfl,zft ju hq (f:=137) rfl (by kernel_rfl) _ _,zx rfl⟩
 .cases h
theorem zi7 (hq:zf (cfg sp)):qcg XK szK (cfg sp) 145 zi6:=by
 intro ns pre r h hp
 unfold zi6 at h
 dsimp only at h
 split at h
 .cases h
  exact ⟨_,rfl,zfc ju hq (f:=145) rfl (by kernel_rfl) _ _,zx rfl⟩
 .cases h
theorem zej (hq:zf (cfg sp)) (a0 a1 a2 a3:Int):qbx XK szK (cfg sp) 59 [.agg [.int .i64 none a0,.int .i64 none a1,.int .i64 none a2,.int .i64 none a3]] (qwd a0 a1 a2 a3):=
 qb6 qbi ju zs hq (zh rfl) (by simp [P.flat,P.cellsOf,RT]) (zel a0 a1 a2 a3) (zek a0 a1 a2 a3 )
theorem zcd (hq:zf (cfg sp)):qcg XK szK (cfg sp) 59 zol:=by
 intro ns pre r h hp
 unfold zol at h
 dsimp only at h
 split at h
 .cases h
  exact ⟨_,rfl,zej hq _ _ _ _,zx rfl⟩
 .cases h
theorem znp (hq:zf (cfg sp)) (a0 a1 a2 a3:Int) (a4:Bool) (a5:Int) (a6 a7:Bool) (a8 a9 a10 a11:Int) (a12:Bool) (a13 a14 a15 a16:Int):qbx XK szK (cfg sp) 32 [.agg [.int .i64 none a0,.int .i64 none a1,.int .i64 none a2,.int .i64 none a3,.sb 0 false a4 (a4=true) (a4=false),.int .i64 none a5,.sb 0 false a6 (a6=true) (a6=false),.sb 0 false a7 (a7=true) (a7=false),.int .i64 none a8,.int .i64 none a9,.int .i64 none a10,.int .i64 none a11,.sb 0 false a12 (a12=true) (a12=false),.int .i64 none a13,.int .i64 none a14,.int .i64 none a15,.int .i64 none a16]] (q46 a0 a1 a2 a3 a4 a5 a6 a7 a8 a9 a10 a11 a12 a13 a14 a15 a16):=
 qb6 qbi ju (qk (zcd hq) zs) hq (zh rfl) (by simp [P.flat,P.cellsOf,RT]) (znr a0 a1 a2 a3 a4 a5 a6 a7 a8 a9 a10 a11 a12 a13 a14 a15 a16) (znq a0 a1 a2 a3 a4 a5 a6 a7 a8 a9 a10 a11 a12 a13 a14 a15 a16 )
theorem q3c (hq:zf (cfg sp)):qcg XK szK (cfg sp) 32 zi9:=by
 intro ns pre r h hp
 unfold zi9 at h
 dsimp only at h
 split at h
 .cases h
  exact ⟨_,rfl,znp hq _ _ _ _ _ _ _ _ _ _ _ _ _ _ _ _ _,zx rfl⟩
 .cases h
theorem q2p (hq:zf (cfg sp)) (a0 a1:ZB):qbx XK szK (cfg sp) 94 [.str a0,.str a1] (qo0 a0 a1):=
 qb6 qbi ju zs hq (zh rfl) (by simp [P.flat,P.cellsOf,RT]) (q2r a0 a1) (q2q a0 a1 )
theorem zcg (hq:zf (cfg sp)):qcg XK szK (cfg sp) 94 zoo:=by
 intro ns pre r h hp
 unfold zoo at h
 dsimp only at h
 split at h
 .cases h
  exact ⟨_,rfl,q2p hq _ _,zx rfl⟩
 .cases h
theorem zg7 (hq:zf (cfg sp)) (a0 a1 a2 a3:Int):qbx XK szK (cfg sp) 114 [.agg [.int .i64 none a0,.int .i64 none a1,.int .i64 none a2,.int .i64 none a3]] (qze a0 a1 a2 a3):=
 qb6 qbi ju zs hq (zh rfl) (by simp [P.flat,P.cellsOf,RT]) (zg9 a0 a1 a2 a3) (zg8 a0 a1 a2 a3 )
theorem q5z (hq:zf (cfg sp)):qcg XK szK (cfg sp) 114 zb7:=by
 intro ns pre r h hp
 unfold zb7 at h
 dsimp only at h
 split at h
 .cases h
  exact ⟨_,rfl,zg7 hq _ _ _ _,zx rfl⟩
 .cases h
theorem zev (hq:zf (cfg sp)) (a0 a1 a2 a3:Int):qbx XK szK (cfg sp) 74 [.agg [.int .i64 none a0,.int .i64 none a1,.int .i64 none a2,.int .i64 none a3]] (qwn a0 a1 a2 a3):=
 qb6 qbi ju (qk (zcd hq) (qk (q5z hq) zs)) hq (zh rfl) (by simp [P.flat,P.cellsOf,RT]) (zex a0 a1 a2 a3) (zew a0 a1 a2 a3 )
theorem zce (hq:zf (cfg sp)):qcg XK szK (cfg sp) 74 zom:=by
 intro ns pre r h hp
 unfold zom at h
 dsimp only at h
 split at h
 .cases h
  exact ⟨_,rfl,zev hq _ _ _ _,zx rfl⟩
 .cases h
theorem q80 (hq:zf (cfg sp)) (a0:ZB):qbx XK szK (cfg sp) 78 [.str a0] (qt7 a0):=
 qb6 qbi ju (qk (q5z hq) zs) hq (zh rfl) (by simp [P.flat,P.cellsOf,RT]) (q82 a0) (q81 a0 )
theorem zcf (hq:zf (cfg sp)):qcg XK szK (cfg sp) 78 zon:=by
 intro ns pre r h hp
 unfold zon at h
 dsimp only at h
 split at h
 .cases h
  exact ⟨_,rfl,q80 hq _,zx rfl⟩
 .cases h
theorem q8x (hq:zf (cfg sp)) (a0:ZB) (hp:(ln a0<=1000000)):qbx XK szK (cfg sp) 118 [.str a0] (qt5 a0):=
 qb6 qbi ju zs hq (zh rfl) (by simp [P.flat,P.cellsOf,RT]) (q8z a0) (q8y a0 hp)
theorem qxb (hq:zf (cfg sp)):qcg XK szK (cfg sp) 118 q50:=by
 intro ns pre r h hp
 unfold q50 at h
 dsimp only at h
 split at h
 .cases h
  exact ⟨_,rfl,q8x hq _ hp,zx rfl⟩
 .cases h
theorem q85 (hq:zf (cfg sp)) (a0:ZB) (hp:(ln a0<=1000000)):qbx XK szK (cfg sp) 136 [.str a0] (qt9 a0):=
 qb6 qbi ju (qk (qxb hq) zs) hq (zh rfl) (by simp [P.flat,P.cellsOf,RT]) (q87 a0) (q86 a0 hp)
theorem q51 (hq:zf (cfg sp)):qcg XK szK (cfg sp) 136 zb9:=by
 intro ns pre r h hp
 unfold zb9 at h
 dsimp only at h
 split at h
 .cases h
  exact ⟨_,rfl,q85 hq _ hp,zx rfl⟩
 .cases h
theorem qzp (hq:zf (cfg sp)) (a0:ZB) (a1:Int) (hp:(U8 a1)):qbx XK szK (cfg sp) 77 [.str a0,.int .u8 none a1] (qmr a0 a1):=
 qb6 qbi ju (qk (q52 hq) zs) hq (zh rfl) (by simp [P.flat,P.cellsOf,RT]) (qzr a0 a1) (qzq a0 a1 hp)
theorem q3d (hq:zf (cfg sp)):qcg XK szK (cfg sp) 77 zja:=by
 intro ns pre r h hp
 unfold zja at h
 dsimp only at h
 split at h
 .cases h
  exact ⟨_,rfl,qzp hq _ _ hp,zx rfl⟩
 .cases h
theorem zif (hq:zf (cfg sp)) (hf117:qcg XK szK (cfg sp) 117 qld) (a0 a1 a2 a3:Int) (a4:Bool) (a5:Int) (a6 a7:Bool) (a8 a9 a10 a11:Int) (a12:Bool) (a13 a14 a15 a16:Int):qbx XK szK (cfg sp) 10 [.agg [.int .i64 none a0,.int .i64 none a1,.int .i64 none a2,.int .i64 none a3,.sb 0 false a4 (a4=true) (a4=false),.int .i64 none a5,.sb 0 false a6 (a6=true) (a6=false),.sb 0 false a7 (a7=true) (a7=false),.int .i64 none a8,.int .i64 none a9,.int .i64 none a10,.int .i64 none a11,.sb 0 false a12 (a12=true) (a12=false),.int .i64 none a13,.int .i64 none a14,.int .i64 none a15,.int .i64 none a16]] (q0s a0 a1 a2 a3 a4 a5 a6 a7 a8 a9 a10 a11 a12 a13 a14 a15 a16):=
 qb6 qbi ju (qk (q3c hq) (qk hf117 (qk (zcg hq) (qk (q51 hq) (qk (zce hq) (qk (q3d hq) (qk (zcf hq) (qk (qxb hq) zs)))))))) hq (zh rfl) (by simp [P.flat,P.cellsOf,RT]) (zih a0 a1 a2 a3 a4 a5 a6 a7 a8 a9 a10 a11 a12 a13 a14 a15 a16) (zig a0 a1 a2 a3 a4 a5 a6 a7 a8 a9 a10 a11 a12 a13 a14 a15 a16 )
theorem zb6 (hq:zf (cfg sp)) (hf117:qcg XK szK (cfg sp) 117 qld):qcg XK szK (cfg sp) 10 zn6:=by
 intro ns pre r h hp
 unfold zn6 at h
 dsimp only at h
 split at h
 .cases h
  exact ⟨_,rfl,zif hq hf117 _ _ _ _ _ _ _ _ _ _ _ _ _ _ _ _ _,zx rfl⟩
 .cases h
theorem zh6 (hq:zf (cfg sp)) (hf117:qcg XK szK (cfg sp) 117 qld) (a0:ZB) (hp:(ln a0<=1000)):qbx XK szK (cfg sp) 12 [.str a0] (q0p a0):=
 qb6 qbi ju (qk hf117 (qk (zcg hq) (qk (q51 hq) (qk (zce hq) (qk (q3d hq) (qk (zcf hq) (qk (qxb hq) (qk (q3c hq) zs)))))))) hq (zh rfl) (by simp [P.flat,P.cellsOf,RT]) (zh8 a0) (zh7 a0 hp)
theorem zb8 (hq:zf (cfg sp)) (hf117:qcg XK szK (cfg sp) 117 qld):qcg XK szK (cfg sp) 12 zn7:=by
 intro ns pre r h hp
 unfold zn7 at h
 dsimp only at h
 split at h
 .cases h
  exact ⟨_,rfl,zh6 hq hf117 _ hp,zx rfl⟩
 .cases h
theorem zhw (hq:zf (cfg sp)) (a0:ZB) (hp:(ln a0<=9223372036854775806)):qbx XK szK (cfg sp) 49 [.str a0] (q0l a0):=
 qb6 qbi ju zs hq (zh rfl) (by simp [P.flat,P.cellsOf,RT]) (zhy a0) (zhx a0 hp)
theorem zcc (hq:zf (cfg sp)):qcg XK szK (cfg sp) 49 zoi:=by
 intro ns pre r h hp
 unfold zoi at h
 dsimp only at h
 split at h
 .cases h
  exact ⟨_,rfl,zhw hq _ hp,zx rfl⟩
 .cases h
theorem q8s (hq:zf (cfg sp)) (a0:ZB) (a1:List Sign) (hp:(ln a0<=1000000000/\ln a1<=1000000000)):qbx XK szK (cfg sp) 44 [.agg [.str a0,.list 4 a1 none]] (qt3 a0 a1):=
 qb6 qbi ju (qk (zcc hq) (qk (q3c hq) zs)) hq (zh rfl) (by simp [P.flat,P.cellsOf,RT]) (q8u a0 a1) (q8t a0 a1 hp)
theorem zcb (hq:zf (cfg sp)):qcg XK szK (cfg sp) 44 zog:=by
 intro ns pre r h hp
 unfold zog at h
 dsimp only at h
 split at h
 .cases h
  exact ⟨_,rfl,q8s hq _ _ hp,zx rfl⟩
 .cases h
theorem q2v (hq:zf (cfg sp)) (a0 a1:List Sign) (hp:(ln a0<=10000000)):qbx XK szK (cfg sp) 47 [.list 4 a0 none,.list 4 a1 none] (qo3 a0 a1):=
 qb6 qbi ju zs hq (zh rfl) (by simp [P.flat,P.cellsOf,RT]) (q2x a0 a1) (q2w a0 a1 hp)
theorem zoh (hq:zf (cfg sp)):qcg XK szK (cfg sp) 47 zr6:=by
 intro ns pre r h hp
 unfold zr6 at h
 dsimp only at h
 split at h
 .cases h
  exact ⟨_,rfl,q2v hq _ _ hp,zx rfl⟩
 .cases h
theorem q5c (hq:zf (cfg sp)) (a0:ZB) (a1:List Sign) (a2:ZB) (a3:List Sign) (hp:(ln a1<=10000000)):qbx XK szK (cfg sp) 17 [.agg [.str a0,.list 4 a1 none],.agg [.str a2,.list 4 a3 none]] (qqo a0 a1 a2 a3):=
 qb6 qbi ju (qk (zoh hq) zs) hq (zh rfl) (by simp [P.flat,P.cellsOf,RT]) (q5e a0 a1 a2 a3) (q5d a0 a1 a2 a3 hp)
theorem zn9 (hq:zf (cfg sp)):qcg XK szK (cfg sp) 17 zr0:=by
 intro ns pre r h hp
 unfold zr0 at h
 dsimp only at h
 split at h
 .cases h
  exact ⟨_,rfl,q5c hq _ _ _ _ hp,zx rfl⟩
 .cases h
theorem ziv (hq:zf (cfg sp)) (a0:Int) (hp:(U8 a0)):qbx XK szK (cfg sp) 108 [.int .u8 none a0] (q00 a0):=
 qb6 qbi ju zs hq (zh rfl) (by simp [P.flat,P.cellsOf,RT]) (zix a0) (ziw a0 hp)
theorem q5y (hq:zf (cfg sp)):qcg XK szK (cfg sp) 108 zb5:=by
 intro ns pre r h hp
 unfold zb5 at h
 dsimp only at h
 split at h
 .cases h
  exact ⟨_,rfl,ziv hq _ hp,zx rfl⟩
 .cases h
theorem zgs (hq:zf (cfg sp)) (a0:ZB) (hp:(ln a0<=1000000000)):qbx XK szK (cfg sp) 109 [.str a0] (qyv a0):=
 qb6 qbi ju (qk (q5y hq) zs) hq (zh rfl) (by simp [P.flat,P.cellsOf,RT]) (zgu a0) (zgt a0 hp)
theorem zi5 (hq:zf (cfg sp)):qcg XK szK (cfg sp) 109 zi4:=by
 intro ns pre r h hp
 unfold zi4 at h
 dsimp only at h
 split at h
 .cases h
  exact ⟨_,rfl,zgs hq _ hp,zx rfl⟩
 .cases h
theorem q6u (hq:zf (cfg sp)) (a0 a1:ZB) (a2 a3:Int) (hp:(ln a1=1/\(a2:Int)=0/\(a3:Int) = -1/\ln a0<=100000000)):qbx XK szK (cfg sp) 106 [.str a0,.str a1,.int .i64 none a2,.int .i64 none a3] (qrb a0 a1 a2 a3):=
 qb6 qbi ju (qk (zi7 hq) (qk (q52 hq) zs)) hq (zh rfl) (by simp [P.flat,P.cellsOf,RT]) (q6w a0 a1 a2 a3) (q6v a0 a1 a2 a3 hp)
theorem zi3 (hq:zf (cfg sp)):qcg XK szK (cfg sp) 106 zi2:=by
 intro ns pre r h hp
 unfold zi2 at h
 dsimp only at h
 split at h
 .cases h
  exact ⟨_,rfl,q6u hq _ _ _ _ hp,zx rfl⟩
 .cases h
theorem zh9 (hq:zf (cfg sp)) (a0 a1:ZB) (hp:(ln a1=1/\ln a0<=100000000)):qbx XK szK (cfg sp) 55 [.str a0,.str a1] (q0q a0 a1):=
 qb6 qbi ju (qk (zi3 hq) zs) hq (zh rfl) (by simp [P.flat,P.cellsOf,RT]) (zib a0 a1) (zia a0 a1 hp)
theorem zok (hq:zf (cfg sp)):qcg XK szK (cfg sp) 55 zr8:=by
 intro ns pre r h hp
 unfold zr8 at h
 dsimp only at h
 split at h
 .cases h
  exact ⟨_,rfl,zh9 hq _ _ hp,zx rfl⟩
 .cases h
theorem zh2 (hq:zf (cfg sp)) (a0:ZB):qbx XK szK (cfg sp) 23 [.str a0] (q0o a0):=
 qb6 qbi ju (qk (zok hq) (qk (q5y hq) (qk (q3d hq) (qk (zi5 hq) zs)))) hq (zh rfl) (by simp [P.flat,P.cellsOf,RT]) (zh4 a0) (zh3 a0 )
theorem zoe (hq:zf (cfg sp)):qcg XK szK (cfg sp) 23 zr4:=by
 intro ns pre r h hp
 unfold zr4 at h
 dsimp only at h
 split at h
 .cases h
  exact ⟨_,rfl,zh2 hq _,zx rfl⟩
 .cases h
theorem zic (hq:zf (cfg sp)) (hf117:qcg XK szK (cfg sp) 117 qld) (a0:ZB) (a1:List Sign) (hp:(ln a0<=1000/\ln a1<=1000)):qbx XK szK (cfg sp) 15 [.agg [.str a0,.list 4 a1 none]] (q0r a0 a1):=
 qb6 qbi ju (qk (zcb hq) (qk (zb6 hq hf117) zs)) hq (zh rfl) (by simp [P.flat,P.cellsOf,RT]) (zie a0 a1) (zid a0 a1 hp)
theorem zn8 (hq:zf (cfg sp)) (hf117:qcg XK szK (cfg sp) 117 qld):qcg XK szK (cfg sp) 15 zrz:=by
 intro ns pre r h hp
 unfold zrz at h
 dsimp only at h
 split at h
 .cases h
  exact ⟨_,rfl,zic hq hf117 _ _ hp,zx rfl⟩
 .cases h
theorem zep (hq:zf (cfg sp)) (hf117:qcg XK szK (cfg sp) 117 qld) (a0:ZB) (hp:(ln a0<=1000000000)):qbx XK szK (cfg sp) 18 [.str a0] (qwh a0):=
 qb6 qbi ju (qk (zoe hq) (qk (zcc hq) (qk (zcb hq) (qk (zb8 hq hf117) zs)))) hq (zh rfl) (by simp [P.flat,P.cellsOf,RT]) (zer a0) (zeq a0 hp)
theorem zoa (hq:zf (cfg sp)) (hf117:qcg XK szK (cfg sp) 117 qld):qcg XK szK (cfg sp) 18 zr1:=by
 intro ns pre r h hp
 unfold zr1 at h
 dsimp only at h
 split at h
 .cases h
  exact ⟨_,rfl,zep hq hf117 _ hp,zx rfl⟩
 .cases h
theorem zrp (hq:zf (cfg sp)) (a0 a1:Int) (hp:(I64 a0/\(1:Int)<=a1/\(a1:Int)<=1048576)):qbx XK szK (cfg sp) 24 [.int .i64 none a0,.int .i64 none a1] (zbr a0 a1):=
 qb6 qbi ju zs hq (zh rfl) (by simp [P.flat,P.cellsOf,RT]) (zrr a0 a1) (zrq a0 a1 hp)
theorem q3b (hq:zf (cfg sp)):qcg XK szK (cfg sp) 24 zi8:=by
 intro ns pre r h hp
 unfold zi8 at h
 dsimp only at h
 split at h
 .cases h
  exact ⟨_,rfl,zrp hq _ _ hp,zx rfl⟩
 .cases h
theorem zrl (hq:zf (cfg sp)) (a0:List Int) (a1:Int) (hp:(ln a0<=9223372036854775807)):qbx XK szK (cfg sp) 25 [.list 1 a0 none,.int .i64 none a1] (zbq a0 a1):=
 qb6 qbi ju zs hq (zh rfl) (by simp [P.flat,P.cellsOf,RT]) (zrn a0 a1) (zrm a0 a1 hp)
theorem zof (hq:zf (cfg sp)):qcg XK szK (cfg sp) 25 zr5:=by
 intro ns pre r h hp
 unfold zr5 at h
 dsimp only at h
 split at h
 .cases h
  exact ⟨_,rfl,zrl hq _ _ hp,zx rfl⟩
 .cases h
theorem zhs (hq:zf (cfg sp)) (a0:Int) (hp:(I64 a0)):qbx XK szK (cfg sp) 22 [.int .i64 none a0] (q0k a0):=
 qb6 qbi ju (qk (q3b hq) zs) hq (zh rfl) (by simp [P.flat,P.cellsOf,RT]) (zhu a0) (zht a0 hp)
theorem zod (hq:zf (cfg sp)):qcg XK szK (cfg sp) 22 zr3:=by
 intro ns pre r h hp
 unfold zr3 at h
 dsimp only at h
 split at h
 .cases h
  exact ⟨_,rfl,zhs hq _ hp,zx rfl⟩
 .cases h
theorem zhl (hq:zf (cfg sp)) (a0 a1 a2 a3 a4:Int) (hp:((0:Int)<=a4/\(a4:Int)<=100)):qbx XK szK (cfg sp) 105 [.agg [.int .i64 none a0,.int .i64 none a1,.int .i64 none a2,.int .i64 none a3],.int .i64 none a4] (q0i a0 a1 a2 a3 a4):=
 qb6 qbi ju zs hq (zh rfl) (by simp [P.flat,P.cellsOf,RT]) (zhn a0 a1 a2 a3 a4) (zhm a0 a1 a2 a3 a4 hp)
theorem zi1 (hq:zf (cfg sp)):qcg XK szK (cfg sp) 105 zi0:=by
 intro ns pre r h hp
 unfold zi0 at h
 dsimp only at h
 split at h
 .cases h
  exact ⟨_,rfl,zhl hq _ _ _ _ _ hp,zx rfl⟩
 .cases h
theorem znt (hq:zf (cfg sp)) (a0 a1 a2 a3:Int) (a4:List Int) (a5:Int) (hp:(ln a4<=9223372036854775807/\qnh a4/\(a5:Int)<=30/\(0:Int)<=a5)):qbx XK szK (cfg sp) 54 [.agg [.int .i64 none a0,.int .i64 none a1,.int .i64 none a2,.int .i64 none a3],.list 1 a4 none,.int .i64 none a5] (q5b a0 a1 a2 a3 a4 a5):=
 qb6 qbi ju (qk (q3b hq) (qk (zi1 hq) zs)) hq (zh rfl) (by simp [P.flat,P.cellsOf,RT]) (znv a0 a1 a2 a3 a4 a5) (znu a0 a1 a2 a3 a4 a5 hp)
theorem zoj (hq:zf (cfg sp)):qcg XK szK (cfg sp) 54 zr7:=by
 intro ns pre r h hp
 unfold zr7 at h
 dsimp only at h
 split at h
 .cases h
  exact ⟨_,rfl,znt hq _ _ _ _ _ _ hp,zx rfl⟩
 .cases h
theorem zhp (hq:zf (cfg sp)) (a0 a1 a2 a3:Int) (a4:List Int) (a5:Int) (hp:(ln a4<=9223372036854775807/\qnh a4/\(a5:Int)<=30/\(0:Int)<=a5)):qbx XK szK (cfg sp) 21 [.agg [.int .i64 none a0,.int .i64 none a1,.int .i64 none a2,.int .i64 none a3],.list 1 a4 none,.int .i64 none a5] (q0j a0 a1 a2 a3 a4 a5):=
 qb6 qbi ju (qk (zoj hq) (qk (zof hq) (qk (q3b hq) zs))) hq (zh rfl) (by simp [P.flat,P.cellsOf,RT]) (zhr a0 a1 a2 a3 a4 a5) (zhq a0 a1 a2 a3 a4 a5 hp)
theorem zoc (hq:zf (cfg sp)):qcg XK szK (cfg sp) 21 zr2:=by
 intro ns pre r h hp
 unfold zr2 at h
 dsimp only at h
 split at h
 .cases h
  exact ⟨_,rfl,zhp hq _ _ _ _ _ _ hp,zx rfl⟩
 .cases h
theorem q93 (hq:zf (cfg sp)) (hf20:qcg XK szK (cfg sp) 20 zob) (hf117:qcg XK szK (cfg sp) 117 qld) (a0 a1 a2 a3:Int) (a4:Bool) (a5:Int) (a6 a7:Bool) (a8 a9 a10 a11:Int) (a12:Bool) (a13 a14 a15 a16:Int) (a17:List Int) (a18 a19:ZB) (hp:(qnh a17/\ln a18<=9223372036854775807/\ln a19<=9223372036854775807)):qbx XK szK (cfg sp) 6 [.agg [.int .i64 none a0,.int .i64 none a1,.int .i64 none a2,.int .i64 none a3,.sb 0 false a4 (a4=true) (a4=false),.int .i64 none a5,.sb 0 false a6 (a6=true) (a6=false),.sb 0 false a7 (a7=true) (a7=false),.int .i64 none a8,.int .i64 none a9,.int .i64 none a10,.int .i64 none a11,.sb 0 false a12 (a12=true) (a12=false),.int .i64 none a13,.int .i64 none a14,.int .i64 none a15,.int .i64 none a16],.list 1 a17 none,.str a18,.str a19] (quq a0 a1 a2 a3 a4 a5 a6 a7 a8 a9 a10 a11 a12 a13 a14 a15 a16 a17 a18 a19):=
 qb6 qbi ju (qk hf20 (qk (zb6 hq hf117) (qk (zb8 hq hf117) (qk (zod hq) (qk (zoc hq) (qk (zn8 hq hf117) (qk (zoa hq hf117) (qk (zn9 hq) zs)))))))) hq (zh rfl) (by simp [P.flat,P.cellsOf,RT]) (q95 a0 a1 a2 a3 a4 a5 a6 a7 a8 a9 a10 a11 a12 a13 a14 a15 a16 a17 a18 a19) (q94 a0 a1 a2 a3 a4 a5 a6 a7 a8 a9 a10 a11 a12 a13 a14 a15 a16 a17 a18 a19 hp)
end Go.Proofs.YtbopmiclcimjgaaGreatDoor
