import Derived.Test.YtbopmiclcimjgaaGreatDoorOks
namespace Go.Proofs.YtbopmiclcimjgaaGreatDoor
open Go Go.E2 Go.E3
set_option maxRecDepth 100000
variable {sp:Nat->Option (List V->Heap->Option (CR×Heap))}
theorem q4x (hq:qt (cfg sp)):qbf XK szK (cfg sp) 137 zbc:=by
 intro ns pre r h hp
 unfold zbc at h
 dsimp only at h
 split at h
 .cases h
  exact ⟨_,rfl,zes ka hq (f:=137) rfl (by kernel_rfl) _ _,zi rfl⟩
 .cases h
theorem zh9 (hq:qt (cfg sp)):qbf XK szK (cfg sp) 145 zh8:=by
 intro ns pre r h hp
 unfold zh8 at h
 dsimp only at h
 split at h
 .cases h
  exact ⟨_,rfl,zee ka hq (f:=145) rfl (by kernel_rfl) _ _,zi rfl⟩
 .cases h
theorem zde (hq:qt (cfg sp)) (a0:Int) (a1:Int) (a2:Int) (a3:Int):qal XK szK (cfg sp) 59 [.agg [.int .i64 none (a0),.int .i64 none (a1),.int .i64 none (a2),.int .i64 none (a3)]] (qvf a0 a1 a2 a3):=
 qae j5 ka (zd) hq (qw rfl) (by simp [P.flat,P.cellsOf,RT]) (zdg a0 a1 a2 a3) (zdf a0 a1 a2 a3 )
theorem zbg (hq:qt (cfg sp)):qbf XK szK (cfg sp) 59 zmk:=by
 intro ns pre r h hp
 unfold zmk at h
 dsimp only at h
 split at h
 .cases h
  exact ⟨_,rfl,zde hq _ _ _ _,zi rfl⟩
 .cases h
theorem zlv (hq:qt (cfg sp)) (a0:Int) (a1:Int) (a2:Int) (a3:Int) (a4:Bool) (a5:Int) (a6:Bool) (a7:Bool) (a8:Int) (a9:Int) (a10:Int) (a11:Int) (a12:Bool) (a13:Int) (a14:Int) (a15:Int) (a16:Int):qal XK szK (cfg sp) 32 [.agg [.int .i64 none (a0),.int .i64 none (a1),.int .i64 none (a2),.int .i64 none (a3),.sb 0 false (a4) (a4=true) (a4=false),.int .i64 none (a5),.sb 0 false (a6) (a6=true) (a6=false),.sb 0 false (a7) (a7=true) (a7=false),.int .i64 none (a8),.int .i64 none (a9),.int .i64 none (a10),.int .i64 none (a11),.sb 0 false (a12) (a12=true) (a12=false),.int .i64 none (a13),.int .i64 none (a14),.int .i64 none (a15),.int .i64 none (a16)]] (q31 a0 a1 a2 a3 a4 a5 a6 a7 a8 a9 a10 a11 a12 a13 a14 a15 a16):=
 qae j5 ka (qj (zbg hq) (zd)) hq (qw rfl) (by simp [P.flat,P.cellsOf,RT]) (zlx a0 a1 a2 a3 a4 a5 a6 a7 a8 a9 a10 a11 a12 a13 a14 a15 a16) (zlw a0 a1 a2 a3 a4 a5 a6 a7 a8 a9 a10 a11 a12 a13 a14 a15 a16 )
theorem zbd (hq:qt (cfg sp)):qbf XK szK (cfg sp) 32 zmb:=by
 intro ns pre r h hp
 unfold zmb at h
 dsimp only at h
 split at h
 .cases h
  exact ⟨_,rfl,zlv hq _ _ _ _ _ _ _ _ _ _ _ _ _ _ _ _ _,zi rfl⟩
 .cases h
theorem q1r (hq:qt (cfg sp)) (a0:ZB) (a1:ZB):qal XK szK (cfg sp) 94 [.str (a0),.str (a1)] (qny a0 a1):=
 qae j5 ka (zd) hq (qw rfl) (by simp [P.flat,P.cellsOf,RT]) (q1t a0 a1) (q1s a0 a1 )
theorem zmr (hq:qt (cfg sp)):qbf XK szK (cfg sp) 94 zqb:=by
 intro ns pre r h hp
 unfold zqb at h
 dsimp only at h
 split at h
 .cases h
  exact ⟨_,rfl,q1r hq _ _,zi rfl⟩
 .cases h
theorem zf4 (hq:qt (cfg sp)) (a0:Int) (a1:Int) (a2:Int) (a3:Int):qal XK szK (cfg sp) 114 [.agg [.int .i64 none (a0),.int .i64 none (a1),.int .i64 none (a2),.int .i64 none (a3)]] (qyd a0 a1 a2 a3):=
 qae j5 ka (zd) hq (qw rfl) (by simp [P.flat,P.cellsOf,RT]) (zf6 a0 a1 a2 a3) (zf5 a0 a1 a2 a3 )
theorem q4v (hq:qt (cfg sp)):qbf XK szK (cfg sp) 114 zba:=by
 intro ns pre r h hp
 unfold zba at h
 dsimp only at h
 split at h
 .cases h
  exact ⟨_,rfl,zf4 hq _ _ _ _,zi rfl⟩
 .cases h
theorem zdy (hq:qt (cfg sp)) (a0:Int) (a1:Int) (a2:Int) (a3:Int):qal XK szK (cfg sp) 74 [.agg [.int .i64 none (a0),.int .i64 none (a1),.int .i64 none (a2),.int .i64 none (a3)]] (qvu a0 a1 a2 a3):=
 qae j5 ka (qj (zbg hq) (qj (q4v hq) (zd))) hq (qw rfl) (by simp [P.flat,P.cellsOf,RT]) (zd0 a0 a1 a2 a3) (zdz a0 a1 a2 a3 )
theorem zml (hq:qt (cfg sp)):qbf XK szK (cfg sp) 74 zp7:=by
 intro ns pre r h hp
 unfold zp7 at h
 dsimp only at h
 split at h
 .cases h
  exact ⟨_,rfl,zdy hq _ _ _ _,zi rfl⟩
 .cases h
theorem q8f (hq:qt (cfg sp)) (a0:ZB):qal XK szK (cfg sp) 78 [.str (a0)] (qtd a0):=
 qae j5 ka (qj (q4v hq) (zd)) hq (qw rfl) (by simp [P.flat,P.cellsOf,RT]) (q8h a0) (q8g a0 )
theorem zmn (hq:qt (cfg sp)):qbf XK szK (cfg sp) 78 zp8:=by
 intro ns pre r h hp
 unfold zp8 at h
 dsimp only at h
 split at h
 .cases h
  exact ⟨_,rfl,q8f hq _,zi rfl⟩
 .cases h
theorem q78 (hq:qt (cfg sp)) (a0:ZB) (hp:(ln a0<=1000000)):qal XK szK (cfg sp) 118 [.str (a0)] (qta a0):=
 qae j5 ka (zd) hq (qw rfl) (by simp [P.flat,P.cellsOf,RT]) (q8a a0) (q79 a0 hp)
theorem q4w (hq:qt (cfg sp)):qbf XK szK (cfg sp) 118 zbb:=by
 intro ns pre r h hp
 unfold zbb at h
 dsimp only at h
 split at h
 .cases h
  exact ⟨_,rfl,q78 hq _ hp,zi rfl⟩
 .cases h
theorem q8o (hq:qt (cfg sp)) (a0:ZB) (hp:(ln a0<=1000000)):qal XK szK (cfg sp) 136 [.str (a0)] (qtg a0):=
 qae j5 ka (qj (q4w hq) (zd)) hq (qw rfl) (by simp [P.flat,P.cellsOf,RT]) (q8q a0) (q8p a0 hp)
theorem zh3 (hq:qt (cfg sp)):qbf XK szK (cfg sp) 136 zh2:=by
 intro ns pre r h hp
 unfold zh2 at h
 dsimp only at h
 split at h
 .cases h
  exact ⟨_,rfl,q8o hq _ hp,zi rfl⟩
 .cases h
theorem q75 (hq:qt (cfg sp)) (a0:ZB) (hp:(ln a0<=1000000)):qal XK szK (cfg sp) 101 [.str (a0)] (qs9 a0):=
 qae j5 ka (zd) hq (qw rfl) (by simp [P.flat,P.cellsOf,RT]) (q77 a0) (q76 a0 hp)
theorem q4s (hq:qt (cfg sp)):qbf XK szK (cfg sp) 101 za7:=by
 intro ns pre r h hp
 unfold za7 at h
 dsimp only at h
 split at h
 .cases h
  exact ⟨_,rfl,q75 hq _ hp,zi rfl⟩
 .cases h
theorem q8l (hq:qt (cfg sp)) (a0:ZB) (hp:(ln a0<=1000000)):qal XK szK (cfg sp) 125 [.str (a0)] (qtf a0):=
 qae j5 ka (qj (q4s hq) (zd)) hq (qw rfl) (by simp [P.flat,P.cellsOf,RT]) (q8n a0) (q8m a0 hp)
theorem zhx (hq:qt (cfg sp)):qbf XK szK (cfg sp) 125 zhw:=by
 intro ns pre r h hp
 unfold zhw at h
 dsimp only at h
 split at h
 .cases h
  exact ⟨_,rfl,q8l hq _ hp,zi rfl⟩
 .cases h
theorem zgk (hq:qt (cfg sp)) (a0:ZB) (a1:Int) (hp:(U8 a1/\ln a0<=1000000)):qal XK szK (cfg sp) 100 [.str (a0),.int .u8 none (a1)] (qzi a0 a1):=
 qae j5 ka (zd) hq (qw rfl) (by simp [P.flat,P.cellsOf,RT]) (zgm a0 a1) (zgl a0 a1 hp)
theorem zhl (hq:qt (cfg sp)):qbf XK szK (cfg sp) 100 zhk:=by
 intro ns pre r h hp
 unfold zhk at h
 dsimp only at h
 split at h
 .cases h
  exact ⟨_,rfl,zgk hq _ _ hp,zi rfl⟩
 .cases h
theorem q7t (hq:qt (cfg sp)) (a0:Int) (a1:Int) (a2:Int) (a3:Int):qal XK szK (cfg sp) 92 [.agg [.int .i64 none (a0),.int .i64 none (a1),.int .i64 none (a2),.int .i64 none (a3)]] (qs5 a0 a1 a2 a3):=
 qae j5 ka (zd) hq (qw rfl) (by simp [P.flat,P.cellsOf,RT]) (q7v a0 a1 a2 a3) (q7u a0 a1 a2 a3 )
theorem zbi (hq:qt (cfg sp)):qbf XK szK (cfg sp) 92 zmp:=by
 intro ns pre r h hp
 unfold zmp at h
 dsimp only at h
 split at h
 .cases h
  exact ⟨_,rfl,q7t hq _ _ _ _,zi rfl⟩
 .cases h
theorem zdv (hq:qt (cfg sp)) (a0:Int) (a1:Int) (a2:Int) (a3:Int):qal XK szK (cfg sp) 39 [.agg [.int .i64 none (a0),.int .i64 none (a1),.int .i64 none (a2),.int .i64 none (a3)]] (qvt a0 a1 a2 a3):=
 qae j5 ka (qj (zbi hq) (zd)) hq (qw rfl) (by simp [P.flat,P.cellsOf,RT]) (zdx a0 a1 a2 a3) (zdw a0 a1 a2 a3 )
theorem zmd (hq:qt (cfg sp)):qbf XK szK (cfg sp) 39 zp1:=by
 intro ns pre r h hp
 unfold zp1 at h
 dsimp only at h
 split at h
 .cases h
  exact ⟨_,rfl,zdv hq _ _ _ _,zi rfl⟩
 .cases h
theorem zpn (hq:qt (cfg sp)) (a0:Int) (hp:(0<=a0/\a0<=15)):qal XK szK (cfg sp) 140 [.int .i64 none (a0)] (zay a0):=
 qae j5 ka (zd) hq (qw rfl) (by simp [P.flat,P.cellsOf,RT]) (zpp a0) (zpo a0 hp)
theorem zh5 (hq:qt (cfg sp)):qbf XK szK (cfg sp) 140 zh4:=by
 intro ns pre r h hp
 unfold zh4 at h
 dsimp only at h
 split at h
 .cases h
  exact ⟨_,rfl,zpn hq _ hp,zi rfl⟩
 .cases h
theorem q8c (hq:qt (cfg sp)) (a0:ZB):qal XK szK (cfg sp) 124 [.str (a0)] (qtb a0):=
 qae j5 ka (qj (zh5 hq) (qj (zmd hq) (zd))) hq (qw rfl) (by simp [P.flat,P.cellsOf,RT]) (q8e a0) (q8d a0 )
theorem zhv (hq:qt (cfg sp)):qbf XK szK (cfg sp) 124 zhu:=by
 intro ns pre r h hp
 unfold zhu at h
 dsimp only at h
 split at h
 .cases h
  exact ⟨_,rfl,q8c hq _,zi rfl⟩
 .cases h
theorem qyn (hq:qt (cfg sp)) (a0:ZB) (a1:Int) (hp:(U8 a1)):qal XK szK (cfg sp) 77 [.str (a0),.int .u8 none (a1)] (qlz a0 a1):=
 qae j5 ka (qj (q4x hq) (zd)) hq (qw rfl) (by simp [P.flat,P.cellsOf,RT]) (qyp a0 a1) (qyo a0 a1 hp)
theorem zbh (hq:qt (cfg sp)):qbf XK szK (cfg sp) 77 zmm:=by
 intro ns pre r h hp
 unfold zmm at h
 dsimp only at h
 split at h
 .cases h
  exact ⟨_,rfl,qyn hq _ _ hp,zi rfl⟩
 .cases h
theorem zgy (hq:qt (cfg sp)) (hf117:qbf XK szK (cfg sp) 117 qtn) (a0:ZB) (hp:(ln a0<=1000)):qal XK szK (cfg sp) 12 [.str (a0)] (qzn a0):=
 qae j5 ka (qj hf117 (qj (zmr hq) (qj (zh3 hq) (qj (zml hq) (qj (zbh hq) (qj (zmn hq) (qj (q4w hq) (qj (zbd hq) (zd))))))))) hq (qw rfl) (by simp [P.flat,P.cellsOf,RT]) (zg0 a0) (zgz a0 hp)
theorem zl4 (hq:qt (cfg sp)) (hf117:qbf XK szK (cfg sp) 117 qtn):qbf XK szK (cfg sp) 12 zpu:=by
 intro ns pre r h hp
 unfold zpu at h
 dsimp only at h
 split at h
 .cases h
  exact ⟨_,rfl,zgy hq hf117 _ hp,zi rfl⟩
 .cases h
theorem zk8 (hq:qt (cfg sp)) (a0:ZB) (a1:Int) (hp:(U8 a1)):qal XK szK (cfg sp) 123 [.str (a0),.int .u8 none (a1)] (q1g a0 a1):=
 qae j5 ka (zd) hq (qw rfl) (by simp [P.flat,P.cellsOf,RT]) (zla a0 a1) (zk9 a0 a1 hp)
theorem zht (hq:qt (cfg sp)):qbf XK szK (cfg sp) 123 zhs:=by
 intro ns pre r h hp
 unfold zhs at h
 dsimp only at h
 split at h
 .cases h
  exact ⟨_,rfl,zk8 hq _ _ hp,zi rfl⟩
 .cases h
theorem zd1 (hq:qt (cfg sp)) (a0:ZB):qal XK szK (cfg sp) 29 [.str (a0)] (qvv a0):=
 qae j5 ka (zd) hq (qw rfl) (by simp [P.flat,P.cellsOf,RT]) (zd3 a0) (zd2 a0 )
theorem zma (hq:qt (cfg sp)):qbf XK szK (cfg sp) 29 zp0:=by
 intro ns pre r h hp
 unfold zp0 at h
 dsimp only at h
 split at h
 .cases h
  exact ⟨_,rfl,zd1 hq _,zi rfl⟩
 .cases h
theorem zot (hq:qt (cfg sp)) (a0:Int) (a1:Int) (a2:Int) (a3:Int) (a4:Bool) (a5:Int) (a6:Bool) (a7:Bool) (a8:Int) (a9:Int) (a10:Int) (a11:Int) (a12:Bool) (a13:Int) (a14:Int) (a15:Int) (a16:Int):qal XK szK (cfg sp) 91 [.agg [.int .i64 none (a0),.int .i64 none (a1),.int .i64 none (a2),.int .i64 none (a3),.sb 0 false (a4) (a4=true) (a4=false),.int .i64 none (a5),.sb 0 false (a6) (a6=true) (a6=false),.sb 0 false (a7) (a7=true) (a7=false),.int .i64 none (a8),.int .i64 none (a9),.int .i64 none (a10),.int .i64 none (a11),.sb 0 false (a12) (a12=true) (a12=false),.int .i64 none (a13),.int .i64 none (a14),.int .i64 none (a15),.int .i64 none (a16)]] (q7p a0 a1 a2 a3 a4 a5 a6 a7 a8 a9 a10 a11 a12 a13 a14 a15 a16):=
 qae j5 ka (zd) hq (qw rfl) (by simp [P.flat,P.cellsOf,RT]) (zov a0 a1 a2 a3 a4 a5 a6 a7 a8 a9 a10 a11 a12 a13 a14 a15 a16) (zou a0 a1 a2 a3 a4 a5 a6 a7 a8 a9 a10 a11 a12 a13 a14 a15 a16 )
theorem zmo (hq:qt (cfg sp)):qbf XK szK (cfg sp) 91 zp9:=by
 intro ns pre r h hp
 unfold zp9 at h
 dsimp only at h
 split at h
 .cases h
  exact ⟨_,rfl,zot hq _ _ _ _ _ _ _ _ _ _ _ _ _ _ _ _ _,zi rfl⟩
 .cases h
theorem zfr (hq:qt (cfg sp)) (a0:Int) (a1:Int) (a2:Int) (a3:Int) (a4:Bool) (a5:Int) (a6:Bool) (a7:Bool) (a8:Int) (a9:Int) (a10:Int) (a11:Int) (a12:Bool) (a13:Int) (a14:Int) (a15:Int) (a16:Int):qal XK szK (cfg sp) 93 [.agg [.int .i64 none (a0),.int .i64 none (a1),.int .i64 none (a2),.int .i64 none (a3),.sb 0 false (a4) (a4=true) (a4=false),.int .i64 none (a5),.sb 0 false (a6) (a6=true) (a6=false),.sb 0 false (a7) (a7=true) (a7=false),.int .i64 none (a8),.int .i64 none (a9),.int .i64 none (a10),.int .i64 none (a11),.sb 0 false (a12) (a12=true) (a12=false),.int .i64 none (a13),.int .i64 none (a14),.int .i64 none (a15),.int .i64 none (a16)]] (qxv a0 a1 a2 a3 a4 a5 a6 a7 a8 a9 a10 a11 a12 a13 a14 a15 a16):=
 qae j5 ka (zd) hq (qw rfl) (by simp [P.flat,P.cellsOf,RT]) (zft a0 a1 a2 a3 a4 a5 a6 a7 a8 a9 a10 a11 a12 a13 a14 a15 a16) (zfs a0 a1 a2 a3 a4 a5 a6 a7 a8 a9 a10 a11 a12 a13 a14 a15 a16 )
theorem zmq (hq:qt (cfg sp)):qbf XK szK (cfg sp) 93 zqa:=by
 intro ns pre r h hp
 unfold zqa at h
 dsimp only at h
 split at h
 .cases h
  exact ⟨_,rfl,zfr hq _ _ _ _ _ _ _ _ _ _ _ _ _ _ _ _ _,zi rfl⟩
 .cases h
theorem zls (hq:qt (cfg sp)) (a0:Int) (a1:Int) (a2:Int) (a3:Int) (a4:Bool) (a5:Int) (a6:Bool) (a7:Bool) (a8:Int) (a9:Int) (a10:Int) (a11:Int) (a12:Bool) (a13:Int) (a14:Int) (a15:Int) (a16:Int):qal XK szK (cfg sp) 36 [.agg [.int .i64 none (a0),.int .i64 none (a1),.int .i64 none (a2),.int .i64 none (a3),.sb 0 false (a4) (a4=true) (a4=false),.int .i64 none (a5),.sb 0 false (a6) (a6=true) (a6=false),.sb 0 false (a7) (a7=true) (a7=false),.int .i64 none (a8),.int .i64 none (a9),.int .i64 none (a10),.int .i64 none (a11),.sb 0 false (a12) (a12=true) (a12=false),.int .i64 none (a13),.int .i64 none (a14),.int .i64 none (a15),.int .i64 none (a16)]] (q30 a0 a1 a2 a3 a4 a5 a6 a7 a8 a9 a10 a11 a12 a13 a14 a15 a16):=
 qae j5 ka (qj (zmo hq) (qj (zbi hq) (qj (zmq hq) (zd)))) hq (qw rfl) (by simp [P.flat,P.cellsOf,RT]) (zlu a0 a1 a2 a3 a4 a5 a6 a7 a8 a9 a10 a11 a12 a13 a14 a15 a16) (zlt a0 a1 a2 a3 a4 a5 a6 a7 a8 a9 a10 a11 a12 a13 a14 a15 a16 )
theorem zbe (hq:qt (cfg sp)):qbf XK szK (cfg sp) 36 zmc:=by
 intro ns pre r h hp
 unfold zmc at h
 dsimp only at h
 split at h
 .cases h
  exact ⟨_,rfl,zls hq _ _ _ _ _ _ _ _ _ _ _ _ _ _ _ _ _,zi rfl⟩
 .cases h
theorem zgv (hq:qt (cfg sp)) (a0:ZB) (hp:(ln a0<=1000)):qal XK szK (cfg sp) 13 [.str (a0)] (qzm a0):=
 qae j5 ka (qj (zma hq) (qj (zhx hq) (qj (zht hq) (qj (zhv hq) (qj (q4s hq) (qj (zhl hq) (qj (zbe hq) (zd)))))))) hq (qw rfl) (by simp [P.flat,P.cellsOf,RT]) (zgx a0) (zgw a0 hp)
theorem zl5 (hq:qt (cfg sp)):qbf XK szK (cfg sp) 13 zpv:=by
 intro ns pre r h hp
 unfold zpv at h
 dsimp only at h
 split at h
 .cases h
  exact ⟨_,rfl,zgv hq _ hp,zi rfl⟩
 .cases h
theorem zgf (hq:qt (cfg sp)) (a0:ZB) (hp:(ln a0<=9223372036854775806)):qal XK szK (cfg sp) 49 [.str (a0)] (qzh a0):=
 qae j5 ka (zd) hq (qw rfl) (by simp [P.flat,P.cellsOf,RT]) (zgh a0) (zgg a0 hp)
theorem zbf (hq:qt (cfg sp)):qbf XK szK (cfg sp) 49 zmh:=by
 intro ns pre r h hp
 unfold zmh at h
 dsimp only at h
 split at h
 .cases h
  exact ⟨_,rfl,zgf hq _ hp,zi rfl⟩
 .cases h
theorem q70 (hq:qt (cfg sp)) (a0:ZB) (a1:List Sign) (hp:(ln a0<=1000000000/\ln a1<=1000000000)):qal XK szK (cfg sp) 44 [.agg [.str (a0),.list 4 (a1) none]] (qs7 a0 a1):=
 qae j5 ka (qj (zbf hq) (qj (zbd hq) (zd))) hq (qw rfl) (by simp [P.flat,P.cellsOf,RT]) (q72 a0 a1) (q71 a0 a1 hp)
theorem zme (hq:qt (cfg sp)):qbf XK szK (cfg sp) 44 zp2:=by
 intro ns pre r h hp
 unfold zp2 at h
 dsimp only at h
 split at h
 .cases h
  exact ⟨_,rfl,q70 hq _ _ hp,zi rfl⟩
 .cases h
theorem zgc (hq:qt (cfg sp)) (a0:ZB) (hp:(ln a0<=9223372036854775806)):qal XK szK (cfg sp) 102 [.str (a0)] (qzg a0):=
 qae j5 ka (zd) hq (qw rfl) (by simp [P.flat,P.cellsOf,RT]) (zge a0) (zgd a0 hp)
theorem q4t (hq:qt (cfg sp)):qbf XK szK (cfg sp) 102 za8:=by
 intro ns pre r h hp
 unfold za8 at h
 dsimp only at h
 split at h
 .cases h
  exact ⟨_,rfl,zgc hq _ hp,zi rfl⟩
 .cases h
theorem q7x (hq:qt (cfg sp)) (a0:ZB) (a1:List Sign) (hp:(ln a0<=1000000000/\ln a1<=1000000000)):qal XK szK (cfg sp) 46 [.agg [.str (a0),.list 4 (a1) none]] (qs6 a0 a1):=
 qae j5 ka (qj (q4t hq) (qj (zbe hq) (zd))) hq (qw rfl) (by simp [P.flat,P.cellsOf,RT]) (q7z a0 a1) (q7y a0 a1 hp)
theorem zmf (hq:qt (cfg sp)):qbf XK szK (cfg sp) 46 zp3:=by
 intro ns pre r h hp
 unfold zp3 at h
 dsimp only at h
 split at h
 .cases h
  exact ⟨_,rfl,q7x hq _ _ hp,zi rfl⟩
 .cases h
theorem q1x (hq:qt (cfg sp)) (a0:List Sign) (a1:List Sign) (hp:(ln a0<=10000000)):qal XK szK (cfg sp) 47 [.list 4 (a0) none,.list 4 (a1) none] (qn1 a0 a1):=
 qae j5 ka (zd) hq (qw rfl) (by simp [P.flat,P.cellsOf,RT]) (q1z a0 a1) (q1y a0 a1 hp)
theorem zmg (hq:qt (cfg sp)):qbf XK szK (cfg sp) 47 zp4:=by
 intro ns pre r h hp
 unfold zp4 at h
 dsimp only at h
 split at h
 .cases h
  exact ⟨_,rfl,q1x hq _ _ hp,zi rfl⟩
 .cases h
theorem q36 (hq:qt (cfg sp)) (a0:ZB) (a1:List Sign) (a2:ZB) (a3:List Sign) (hp:(ln a1<=10000000)):qal XK szK (cfg sp) 17 [.agg [.str (a0),.list 4 (a1) none],.agg [.str (a2),.list 4 (a3) none]] (qpr a0 a1 a2 a3):=
 qae j5 ka (qj (zmg hq) (zd)) hq (qw rfl) (by simp [P.flat,P.cellsOf,RT]) (q38 a0 a1 a2 a3) (q37 a0 a1 a2 a3 hp)
theorem zl6 (hq:qt (cfg sp)):qbf XK szK (cfg sp) 17 zpw:=by
 intro ns pre r h hp
 unfold zpw at h
 dsimp only at h
 split at h
 .cases h
  exact ⟨_,rfl,q36 hq _ _ _ _ hp,zi rfl⟩
 .cases h
theorem zhf (hq:qt (cfg sp)) (a0:Int) (hp:(U8 a0)):qal XK szK (cfg sp) 108 [.int .u8 none (a0)] (qzw a0):=
 qae j5 ka (zd) hq (qw rfl) (by simp [P.flat,P.cellsOf,RT]) (zhh a0) (zhg a0 hp)
theorem q4u (hq:qt (cfg sp)):qbf XK szK (cfg sp) 108 za9:=by
 intro ns pre r h hp
 unfold za9 at h
 dsimp only at h
 split at h
 .cases h
  exact ⟨_,rfl,zhf hq _ hp,zi rfl⟩
 .cases h
theorem zfo (hq:qt (cfg sp)) (a0:ZB) (hp:(ln a0<=1000000000)):qal XK szK (cfg sp) 109 [.str (a0)] (qxt a0):=
 qae j5 ka (qj (q4u hq) (zd)) hq (qw rfl) (by simp [P.flat,P.cellsOf,RT]) (zfq a0) (zfp a0 hp)
theorem zhr (hq:qt (cfg sp)):qbf XK szK (cfg sp) 109 zhq:=by
 intro ns pre r h hp
 unfold zhq at h
 dsimp only at h
 split at h
 .cases h
  exact ⟨_,rfl,zfo hq _ hp,zi rfl⟩
 .cases h
theorem q5o (hq:qt (cfg sp)) (a0:ZB) (a1:ZB) (a2:Int) (a3:Int) (hp:(ln a1=1/\(a2:Int)=0/\(a3:Int) = -1/\ln a0<=100000000)):qal XK szK (cfg sp) 106 [.str (a0),.str (a1),.int .i64 none (a2),.int .i64 none (a3)] (qqf a0 a1 a2 a3):=
 qae j5 ka (qj (zh9 hq) (qj (q4x hq) (zd))) hq (qw rfl) (by simp [P.flat,P.cellsOf,RT]) (q5q a0 a1 a2 a3) (q5p a0 a1 a2 a3 hp)
theorem zhp (hq:qt (cfg sp)):qbf XK szK (cfg sp) 106 zho:=by
 intro ns pre r h hp
 unfold zho at h
 dsimp only at h
 split at h
 .cases h
  exact ⟨_,rfl,q5o hq _ _ _ _ hp,zi rfl⟩
 .cases h
theorem zg1 (hq:qt (cfg sp)) (a0:ZB) (a1:ZB) (hp:(ln a1=1/\ln a0<=100000000)):qal XK szK (cfg sp) 55 [.str (a0),.str (a1)] (qzo a0 a1):=
 qae j5 ka (qj (zhp hq) (zd)) hq (qw rfl) (by simp [P.flat,P.cellsOf,RT]) (zg3 a0 a1) (zg2 a0 a1 hp)
theorem zmj (hq:qt (cfg sp)):qbf XK szK (cfg sp) 55 zp6:=by
 intro ns pre r h hp
 unfold zp6 at h
 dsimp only at h
 split at h
 .cases h
  exact ⟨_,rfl,zg1 hq _ _ hp,zi rfl⟩
 .cases h
theorem zfk (hq:qt (cfg sp)) (a0:Int):qal XK szK (cfg sp) 129 [.int .u8 none (a0)] (qxo a0):=
 qae j5 ka (zd) hq (qw rfl) (by simp [P.flat,P.cellsOf,RT]) (zfm a0) (zfl a0 )
theorem zh1 (hq:qt (cfg sp)):qbf XK szK (cfg sp) 129 zh0:=by
 intro ns pre r h hp
 unfold zh0 at h
 dsimp only at h
 split at h
 .cases h
  exact ⟨_,rfl,zfk hq _,zi rfl⟩
 .cases h
theorem q9k (hq:qt (cfg sp)) (a0:Int):qal XK szK (cfg sp) 141 [.int .u8 none (a0)] (qty a0):=
 qae j5 ka (zd) hq (qw rfl) (by simp [P.flat,P.cellsOf,RT]) (q9m a0) (q9l a0 )
theorem zh7 (hq:qt (cfg sp)):qbf XK szK (cfg sp) 141 zh6:=by
 intro ns pre r h hp
 unfold zh6 at h
 dsimp only at h
 split at h
 .cases h
  exact ⟨_,rfl,q9k hq _,zi rfl⟩
 .cases h
theorem q97 (hq:qt (cfg sp)) (a0:ZB) (a1:Int) (hp:(0<=a1/\a1<ln a0/\ln a0<=1000000000)):qal XK szK (cfg sp) 128 [.str (a0),.int .i64 none (a1)] (qua a0 a1):=
 qae j5 ka (qj (zh7 hq) (zd)) hq (qw rfl) (by simp [P.flat,P.cellsOf,RT]) (q99 a0 a1) (q98 a0 a1 hp)
theorem zhz (hq:qt (cfg sp)):qbf XK szK (cfg sp) 128 zhy:=by
 intro ns pre r h hp
 unfold zhy at h
 dsimp only at h
 split at h
 .cases h
  exact ⟨_,rfl,q97 hq _ _ hp,zi rfl⟩
 .cases h
theorem zms (hq:qt (cfg sp)) (a0:ZB) (a1:Int) (hp:(ln a0<=1000/\0<=a1/\a1<=100000)):qal XK szK (cfg sp) 104 [.str (a0),.int .i64 none (a1)] (q4y a0 a1):=
 qae j5 ka (qj (zhz hq) (qj (zh1 hq) (zd))) hq (qw rfl) (by simp [P.flat,P.cellsOf,RT]) (zmu a0 a1) (zmt a0 a1 hp)
theorem zhn (hq:qt (cfg sp)):qbf XK szK (cfg sp) 104 zhm:=by
 intro ns pre r h hp
 unfold zhm at h
 dsimp only at h
 split at h
 .cases h
  exact ⟨_,rfl,zms hq _ _ hp,zi rfl⟩
 .cases h
theorem zgp (hq:qt (cfg sp)) (a0:ZB):qal XK szK (cfg sp) 50 [.str (a0)] (qzk a0):=
 qae j5 ka (qj (zhn hq) (zd)) hq (qw rfl) (by simp [P.flat,P.cellsOf,RT]) (zgr a0) (zgq a0 )
theorem zmi (hq:qt (cfg sp)):qbf XK szK (cfg sp) 50 zp5:=by
 intro ns pre r h hp
 unfold zp5 at h
 dsimp only at h
 split at h
 .cases h
  exact ⟨_,rfl,zgp hq _,zi rfl⟩
 .cases h
theorem zgs (hq:qt (cfg sp)) (a0:ZB):qal XK szK (cfg sp) 23 [.str (a0)] (qzl a0):=
 qae j5 ka (qj (zmj hq) (qj (q4u hq) (qj (zbh hq) (qj (zhr hq) (zd))))) hq (qw rfl) (by simp [P.flat,P.cellsOf,RT]) (zgu a0) (zgt a0 )
theorem zl9 (hq:qt (cfg sp)):qbf XK szK (cfg sp) 23 zpz:=by
 intro ns pre r h hp
 unfold zpz at h
 dsimp only at h
 split at h
 .cases h
  exact ⟨_,rfl,zgs hq _,zi rfl⟩
 .cases h
theorem zdk (hq:qt (cfg sp)) (hf117:qbf XK szK (cfg sp) 117 qtn) (a0:ZB) (hp:(ln a0<=1000000000)):qal XK szK (cfg sp) 18 [.str (a0)] (qvk a0):=
 qae j5 ka (qj (zl9 hq) (qj (zbf hq) (qj (zme hq) (qj (zl4 hq hf117) (zd))))) hq (qw rfl) (by simp [P.flat,P.cellsOf,RT]) (zdm a0) (zdl a0 hp)
theorem zl7 (hq:qt (cfg sp)) (hf117:qbf XK szK (cfg sp) 117 qtn):qbf XK szK (cfg sp) 18 zpx:=by
 intro ns pre r h hp
 unfold zpx at h
 dsimp only at h
 split at h
 .cases h
  exact ⟨_,rfl,zdk hq hf117 _ hp,zi rfl⟩
 .cases h
theorem zdn (hq:qt (cfg sp)) (a0:ZB) (hp:(ln a0<=1000000000)):qal XK szK (cfg sp) 19 [.str (a0)] (qvl a0):=
 qae j5 ka (qj (zmi hq) (qj (q4t hq) (qj (zmf hq) (qj (zl5 hq) (zd))))) hq (qw rfl) (by simp [P.flat,P.cellsOf,RT]) (zdp a0) (zdo a0 hp)
theorem zl8 (hq:qt (cfg sp)):qbf XK szK (cfg sp) 19 zpy:=by
 intro ns pre r h hp
 unfold zpy at h
 dsimp only at h
 split at h
 .cases h
  exact ⟨_,rfl,zdn hq _ hp,zi rfl⟩
 .cases h
theorem q2m (hq:qt (cfg sp)) (hf9:qbf XK szK (cfg sp) 9 ct9) (hf117:qbf XK szK (cfg sp) 117 qtn) (a0:ZB) (hp:(ln a0<=9223372036854775807)):qal XK szK (cfg sp) 5 [.str (a0)] (qn5 a0):=
 qae j5 ka (qj hf9 (qj (zl7 hq hf117) (qj (zl8 hq) (qj (zl6 hq) (zd))))) hq (qw rfl) (by simp [P.flat,P.cellsOf,RT]) (q2o a0) (q2n a0 hp)
end Go.Proofs.YtbopmiclcimjgaaGreatDoor
