/- THE FUNCTIONS meet their contracts. Made by program (vc.py). -/
import Derived.Test.YtbopmiclcimjgaaGreatDoorOksB
namespace Go.Proofs.YtbopmiclcimjgaaGreatDoor
open Go Go.E2 Go.E3
set_option maxRecDepth 100000
variable {sp:Nat->Option (List V->Heap->Option (CR×Heap))}
theorem q5i (hq:zd (cfg sp)):qcp XK szK (cfg sp) 137 zbk:=by
 intro ns pre r h hp
 unfold zbk at h
 dsimp only at h
 split at h
 .cases h
  exact ⟨_,rfl,ze1 jx hq (f:=137) rfl (by kernel_rfl) _ _,zz rfl⟩
 .cases h
theorem zh7 (hq:zd (cfg sp)):qcp XK szK (cfg sp) 145 zh6:=by
 intro ns pre r h hp
 unfold zh6 at h
 dsimp only at h
 split at h
 .cases h
  exact ⟨_,rfl,zej jx hq (f:=145) rfl (by kernel_rfl) _ _,zz rfl⟩
 .cases h
theorem zdt (hq:zd (cfg sp)) (a0:Int) (a1:Int) (a2:Int) (a3:Int):qbu XK szK (cfg sp) 59 [.agg [.int .i64 none (a0),.int .i64 none (a1),.int .i64 none (a2),.int .i64 none (a3)]] (qv4 a0 a1 a2 a3):=
 qcf qbv jx (zt) hq (zh rfl) (by simp [P.flat,P.cellsOf,RT]) (zdv a0 a1 a2 a3) (zdu a0 a1 a2 a3 )
theorem zbo (hq:zd (cfg sp)):qcp XK szK (cfg sp) 59 znc:=by
 intro ns pre r h hp
 unfold znc at h
 dsimp only at h
 split at h
 .cases h
  exact ⟨_,rfl,zdt hq _ _ _ _,zz rfl⟩
 .cases h
theorem zmk (hq:zd (cfg sp)) (a0:Int) (a1:Int) (a2:Int) (a3:Int) (a4:Bool) (a5:Int) (a6:Bool) (a7:Bool) (a8:Int) (a9:Int) (a10:Int) (a11:Int) (a12:Bool) (a13:Int) (a14:Int) (a15:Int) (a16:Int):qbu XK szK (cfg sp) 32 [.agg [.int .i64 none (a0),.int .i64 none (a1),.int .i64 none (a2),.int .i64 none (a3),.sb 0 false (a4) (a4=true) (a4=false),.int .i64 none (a5),.sb 0 false (a6) (a6=true) (a6=false),.sb 0 false (a7) (a7=true) (a7=false),.int .i64 none (a8),.int .i64 none (a9),.int .i64 none (a10),.int .i64 none (a11),.sb 0 false (a12) (a12=true) (a12=false),.int .i64 none (a13),.int .i64 none (a14),.int .i64 none (a15),.int .i64 none (a16)]] (q4m a0 a1 a2 a3 a4 a5 a6 a7 a8 a9 a10 a11 a12 a13 a14 a15 a16):=
 qcf qbv jx (ql (zbo hq) (zt)) hq (zh rfl) (by simp [P.flat,P.cellsOf,RT]) (zmm a0 a1 a2 a3 a4 a5 a6 a7 a8 a9 a10 a11 a12 a13 a14 a15 a16) (zml a0 a1 a2 a3 a4 a5 a6 a7 a8 a9 a10 a11 a12 a13 a14 a15 a16 )
theorem q2t (hq:zd (cfg sp)):qcp XK szK (cfg sp) 32 zh8:=by
 intro ns pre r h hp
 unfold zh8 at h
 dsimp only at h
 split at h
 .cases h
  exact ⟨_,rfl,zmk hq _ _ _ _ _ _ _ _ _ _ _ _ _ _ _ _ _,zz rfl⟩
 .cases h
theorem q2b (hq:zd (cfg sp)) (a0:ZB) (a1:ZB):qbu XK szK (cfg sp) 94 [.str (a0),.str (a1)] (qop a0 a1):=
 qcf qbv jx (zt) hq (zh rfl) (by simp [P.flat,P.cellsOf,RT]) (q2d a0 a1) (q2c a0 a1 )
theorem zbr (hq:zd (cfg sp)):qcp XK szK (cfg sp) 94 znf:=by
 intro ns pre r h hp
 unfold znf at h
 dsimp only at h
 split at h
 .cases h
  exact ⟨_,rfl,q2b hq _ _,zz rfl⟩
 .cases h
theorem zgd (hq:zd (cfg sp)) (a0:Int) (a1:Int) (a2:Int) (a3:Int):qbu XK szK (cfg sp) 114 [.agg [.int .i64 none (a0),.int .i64 none (a1),.int .i64 none (a2),.int .i64 none (a3)]] (qy2 a0 a1 a2 a3):=
 qcf qbv jx (zt) hq (zh rfl) (by simp [P.flat,P.cellsOf,RT]) (zgf a0 a1 a2 a3) (zge a0 a1 a2 a3 )
theorem q5f (hq:zd (cfg sp)):qcp XK szK (cfg sp) 114 zbi:=by
 intro ns pre r h hp
 unfold zbi at h
 dsimp only at h
 split at h
 .cases h
  exact ⟨_,rfl,zgd hq _ _ _ _,zz rfl⟩
 .cases h
theorem zd5 (hq:zd (cfg sp)) (a0:Int) (a1:Int) (a2:Int) (a3:Int):qbu XK szK (cfg sp) 74 [.agg [.int .i64 none (a0),.int .i64 none (a1),.int .i64 none (a2),.int .i64 none (a3)]] (qwe a0 a1 a2 a3):=
 qcf qbv jx (ql (zbo hq) (ql (q5f hq) (zt))) hq (zh rfl) (by simp [P.flat,P.cellsOf,RT]) (zd7 a0 a1 a2 a3) (zd6 a0 a1 a2 a3 )
theorem zbp (hq:zd (cfg sp)):qcp XK szK (cfg sp) 74 znd:=by
 intro ns pre r h hp
 unfold znd at h
 dsimp only at h
 split at h
 .cases h
  exact ⟨_,rfl,zd5 hq _ _ _ _,zz rfl⟩
 .cases h
theorem q8l (hq:zd (cfg sp)) (a0:ZB):qbu XK szK (cfg sp) 78 [.str (a0)] (qtw a0):=
 qcf qbv jx (ql (q5f hq) (zt)) hq (zh rfl) (by simp [P.flat,P.cellsOf,RT]) (q8n a0) (q8m a0 )
theorem zbq (hq:zd (cfg sp)):qcp XK szK (cfg sp) 78 zne:=by
 intro ns pre r h hp
 unfold zne at h
 dsimp only at h
 split at h
 .cases h
  exact ⟨_,rfl,q8l hq _,zz rfl⟩
 .cases h
theorem q8i (hq:zd (cfg sp)) (a0:ZB) (hp:(ln a0<=1000000)):qbu XK szK (cfg sp) 118 [.str (a0)] (qtu a0):=
 qcf qbv jx (zt) hq (zh rfl) (by simp [P.flat,P.cellsOf,RT]) (q8k a0) (q8j a0 hp)
theorem qw1 (hq:zd (cfg sp)):qcp XK szK (cfg sp) 118 q5g:=by
 intro ns pre r h hp
 unfold q5g at h
 dsimp only at h
 split at h
 .cases h
  exact ⟨_,rfl,q8i hq _ hp,zz rfl⟩
 .cases h
theorem q8q (hq:zd (cfg sp)) (a0:ZB) (hp:(ln a0<=1000000)):qbu XK szK (cfg sp) 136 [.str (a0)] (qty a0):=
 qcf qbv jx (ql (qw1 hq) (zt)) hq (zh rfl) (by simp [P.flat,P.cellsOf,RT]) (q8s a0) (q8r a0 hp)
theorem q5h (hq:zd (cfg sp)):qcp XK szK (cfg sp) 136 zbj:=by
 intro ns pre r h hp
 unfold zbj at h
 dsimp only at h
 split at h
 .cases h
  exact ⟨_,rfl,q8q hq _ hp,zz rfl⟩
 .cases h
theorem qze (hq:zd (cfg sp)) (a0:ZB) (a1:Int) (hp:(U8 a1)):qbu XK szK (cfg sp) 77 [.str (a0),.int .u8 none (a1)] (qmf a0 a1):=
 qcf qbv jx (ql (q5i hq) (zt)) hq (zh rfl) (by simp [P.flat,P.cellsOf,RT]) (qzg a0 a1) (qzf a0 a1 hp)
theorem q2u (hq:zd (cfg sp)):qcp XK szK (cfg sp) 77 zh9:=by
 intro ns pre r h hp
 unfold zh9 at h
 dsimp only at h
 split at h
 .cases h
  exact ⟨_,rfl,qze hq _ _ hp,zz rfl⟩
 .cases h
theorem zhf (hq:zd (cfg sp)) (hf117:qcp XK szK (cfg sp) 117 qmw) (a0:Int) (a1:Int) (a2:Int) (a3:Int) (a4:Bool) (a5:Int) (a6:Bool) (a7:Bool) (a8:Int) (a9:Int) (a10:Int) (a11:Int) (a12:Bool) (a13:Int) (a14:Int) (a15:Int) (a16:Int):qbu XK szK (cfg sp) 10 [.agg [.int .i64 none (a0),.int .i64 none (a1),.int .i64 none (a2),.int .i64 none (a3),.sb 0 false (a4) (a4=true) (a4=false),.int .i64 none (a5),.sb 0 false (a6) (a6=true) (a6=false),.sb 0 false (a7) (a7=true) (a7=false),.int .i64 none (a8),.int .i64 none (a9),.int .i64 none (a10),.int .i64 none (a11),.sb 0 false (a12) (a12=true) (a12=false),.int .i64 none (a13),.int .i64 none (a14),.int .i64 none (a15),.int .i64 none (a16)]] (q0d a0 a1 a2 a3 a4 a5 a6 a7 a8 a9 a10 a11 a12 a13 a14 a15 a16):=
 qcf qbv jx (ql (q2t hq) (ql hf117 (ql (zbr hq) (ql (q5h hq) (ql (zbp hq) (ql (q2u hq) (ql (zbq hq) (ql (qw1 hq) (zt))))))))) hq (zh rfl) (by simp [P.flat,P.cellsOf,RT]) (zhh a0 a1 a2 a3 a4 a5 a6 a7 a8 a9 a10 a11 a12 a13 a14 a15 a16) (zhg a0 a1 a2 a3 a4 a5 a6 a7 a8 a9 a10 a11 a12 a13 a14 a15 a16 )
theorem zmy (hq:zd (cfg sp)) (hf117:qcp XK szK (cfg sp) 117 qmw):qcp XK szK (cfg sp) 10 zqo:=by
 intro ns pre r h hp
 unfold zqo at h
 dsimp only at h
 split at h
 .cases h
  exact ⟨_,rfl,zhf hq hf117 _ _ _ _ _ _ _ _ _ _ _ _ _ _ _ _ _,zz rfl⟩
 .cases h
theorem zg9 (hq:zd (cfg sp)) (hf117:qcp XK szK (cfg sp) 117 qmw) (a0:ZB) (hp:(ln a0<=1000)):qbu XK szK (cfg sp) 12 [.str (a0)] (q0b a0):=
 qcf qbv jx (ql hf117 (ql (zbr hq) (ql (q5h hq) (ql (zbp hq) (ql (q2u hq) (ql (zbq hq) (ql (qw1 hq) (ql (q2t hq) (zt))))))))) hq (zh rfl) (by simp [P.flat,P.cellsOf,RT]) (zhb a0) (zha a0 hp)
theorem zmz (hq:zd (cfg sp)) (hf117:qcp XK szK (cfg sp) 117 qmw):qcp XK szK (cfg sp) 12 zqp:=by
 intro ns pre r h hp
 unfold zqp at h
 dsimp only at h
 split at h
 .cases h
  exact ⟨_,rfl,zg9 hq hf117 _ hp,zz rfl⟩
 .cases h
theorem zgz (hq:zd (cfg sp)) (a0:ZB) (hp:(ln a0<=9223372036854775806)):qbu XK szK (cfg sp) 49 [.str (a0)] (qz8 a0):=
 qcf qbv jx (zt) hq (zh rfl) (by simp [P.flat,P.cellsOf,RT]) (zg1 a0) (zg0 a0 hp)
theorem zbn (hq:zd (cfg sp)):qcp XK szK (cfg sp) 49 zm9:=by
 intro ns pre r h hp
 unfold zm9 at h
 dsimp only at h
 split at h
 .cases h
  exact ⟨_,rfl,zgz hq _ hp,zz rfl⟩
 .cases h
theorem q8d (hq:zd (cfg sp)) (a0:ZB) (a1:List Sign) (hp:(ln a0<=1000000000/\ln a1<=1000000000)):qbu XK szK (cfg sp) 44 [.agg [.str (a0),.list 4 (a1) none]] (qts a0 a1):=
 qcf qbv jx (ql (zbn hq) (ql (q2t hq) (zt))) hq (zh rfl) (by simp [P.flat,P.cellsOf,RT]) (q8f a0 a1) (q8e a0 a1 hp)
theorem zm7 (hq:zd (cfg sp)):qcp XK szK (cfg sp) 44 zqu:=by
 intro ns pre r h hp
 unfold zqu at h
 dsimp only at h
 split at h
 .cases h
  exact ⟨_,rfl,q8d hq _ _ hp,zz rfl⟩
 .cases h
theorem q2h (hq:zd (cfg sp)) (a0:List Sign) (a1:List Sign) (hp:(ln a0<=10000000)):qbu XK szK (cfg sp) 47 [.list 4 (a0) none,.list 4 (a1) none] (qos a0 a1):=
 qcf qbv jx (zt) hq (zh rfl) (by simp [P.flat,P.cellsOf,RT]) (q2j a0 a1) (q2i a0 a1 hp)
theorem zm8 (hq:zd (cfg sp)):qcp XK szK (cfg sp) 47 zqv:=by
 intro ns pre r h hp
 unfold zqv at h
 dsimp only at h
 split at h
 .cases h
  exact ⟨_,rfl,q2h hq _ _ hp,zz rfl⟩
 .cases h
theorem q4r (hq:zd (cfg sp)) (a0:ZB) (a1:List Sign) (a2:ZB) (a3:List Sign) (hp:(ln a1<=10000000)):qbu XK szK (cfg sp) 17 [.agg [.str (a0),.list 4 (a1) none],.agg [.str (a2),.list 4 (a3) none]] (qqe a0 a1 a2 a3):=
 qcf qbv jx (ql (zm8 hq) (zt)) hq (zh rfl) (by simp [P.flat,P.cellsOf,RT]) (q4t a0 a1 a2 a3) (q4s a0 a1 a2 a3 hp)
theorem zm0 (hq:zd (cfg sp)):qcp XK szK (cfg sp) 17 zqq:=by
 intro ns pre r h hp
 unfold zqq at h
 dsimp only at h
 split at h
 .cases h
  exact ⟨_,rfl,q4r hq _ _ _ _ hp,zz rfl⟩
 .cases h
theorem zhv (hq:zd (cfg sp)) (a0:Int) (hp:(U8 a0)):qbu XK szK (cfg sp) 108 [.int .u8 none (a0)] (q0m a0):=
 qcf qbv jx (zt) hq (zh rfl) (by simp [P.flat,P.cellsOf,RT]) (zhx a0) (zhw a0 hp)
theorem q5e (hq:zd (cfg sp)):qcp XK szK (cfg sp) 108 zbh:=by
 intro ns pre r h hp
 unfold zbh at h
 dsimp only at h
 split at h
 .cases h
  exact ⟨_,rfl,zhv hq _ hp,zz rfl⟩
 .cases h
theorem zfz (hq:zd (cfg sp)) (a0:ZB) (hp:(ln a0<=1000000000)):qbu XK szK (cfg sp) 109 [.str (a0)] (qym a0):=
 qcf qbv jx (ql (q5e hq) (zt)) hq (zh rfl) (by simp [P.flat,P.cellsOf,RT]) (zf1 a0) (zf0 a0 hp)
theorem zh5 (hq:zd (cfg sp)):qcp XK szK (cfg sp) 109 zh4:=by
 intro ns pre r h hp
 unfold zh4 at h
 dsimp only at h
 split at h
 .cases h
  exact ⟨_,rfl,zfz hq _ hp,zz rfl⟩
 .cases h
theorem q6a (hq:zd (cfg sp)) (a0:ZB) (a1:ZB) (a2:Int) (a3:Int) (hp:(ln a1=1/\(a2:Int)=0/\(a3:Int) = -1/\ln a0<=100000000)):qbu XK szK (cfg sp) 106 [.str (a0),.str (a1),.int .i64 none (a2),.int .i64 none (a3)] (qq4 a0 a1 a2 a3):=
 qcf qbv jx (ql (zh7 hq) (ql (q5i hq) (zt))) hq (zh rfl) (by simp [P.flat,P.cellsOf,RT]) (q6c a0 a1 a2 a3) (q6b a0 a1 a2 a3 hp)
theorem zh3 (hq:zd (cfg sp)):qcp XK szK (cfg sp) 106 zh2:=by
 intro ns pre r h hp
 unfold zh2 at h
 dsimp only at h
 split at h
 .cases h
  exact ⟨_,rfl,q6a hq _ _ _ _ hp,zz rfl⟩
 .cases h
theorem zhc (hq:zd (cfg sp)) (a0:ZB) (a1:ZB) (hp:(ln a1=1/\ln a0<=100000000)):qbu XK szK (cfg sp) 55 [.str (a0),.str (a1)] (q0c a0 a1):=
 qcf qbv jx (ql (zh3 hq) (zt)) hq (zh rfl) (by simp [P.flat,P.cellsOf,RT]) (zhe a0 a1) (zhd a0 a1 hp)
theorem znb (hq:zd (cfg sp)):qcp XK szK (cfg sp) 55 zqx:=by
 intro ns pre r h hp
 unfold zqx at h
 dsimp only at h
 split at h
 .cases h
  exact ⟨_,rfl,zhc hq _ _ hp,zz rfl⟩
 .cases h
theorem zg5 (hq:zd (cfg sp)) (a0:ZB):qbu XK szK (cfg sp) 23 [.str (a0)] (q0a a0):=
 qcf qbv jx (ql (znb hq) (ql (q5e hq) (ql (q2u hq) (ql (zh5 hq) (zt))))) hq (zh rfl) (by simp [P.flat,P.cellsOf,RT]) (zg7 a0) (zg6 a0 )
theorem zbl (hq:zd (cfg sp)):qcp XK szK (cfg sp) 23 zm5:=by
 intro ns pre r h hp
 unfold zm5 at h
 dsimp only at h
 split at h
 .cases h
  exact ⟨_,rfl,zg5 hq _,zz rfl⟩
 .cases h
theorem zdz (hq:zd (cfg sp)) (hf117:qcp XK szK (cfg sp) 117 qmw) (a0:ZB) (hp:(ln a0<=1000000000)):qbu XK szK (cfg sp) 18 [.str (a0)] (qv8 a0):=
 qcf qbv jx (ql (zbl hq) (ql (zbn hq) (ql (zm7 hq) (ql (zmz hq hf117) (zt))))) hq (zh rfl) (by simp [P.flat,P.cellsOf,RT]) (zd1 a0) (zd0 a0 hp)
theorem zm1 (hq:zd (cfg sp)) (hf117:qcp XK szK (cfg sp) 117 qmw):qcp XK szK (cfg sp) 18 zqr:=by
 intro ns pre r h hp
 unfold zqr at h
 dsimp only at h
 split at h
 .cases h
  exact ⟨_,rfl,zdz hq hf117 _ hp,zz rfl⟩
 .cases h
theorem zqg (hq:zd (cfg sp)) (a0:Int) (a1:Int) (hp:(I64 a0/\(1:Int)<=a1/\(a1:Int)<=1048576)):qbu XK szK (cfg sp) 24 [.int .i64 none (a0),.int .i64 none (a1)] (za3 a0 a1):=
 qcf qbv jx (zt) hq (zh rfl) (by simp [P.flat,P.cellsOf,RT]) (zqi a0 a1) (zqh a0 a1 hp)
theorem qvo (hq:zd (cfg sp)):qcp XK szK (cfg sp) 24 zek:=by
 intro ns pre r h hp
 unfold zek at h
 dsimp only at h
 split at h
 .cases h
  exact ⟨_,rfl,zqg hq _ _ hp,zz rfl⟩
 .cases h
theorem zqc (hq:zd (cfg sp)) (a0:List Int) (a1:Int) (hp:(ln a0<=9223372036854775807)):qbu XK szK (cfg sp) 25 [.list 1 (a0) none,.int .i64 none (a1)] (za2 a0 a1):=
 qcf qbv jx (zt) hq (zh rfl) (by simp [P.flat,P.cellsOf,RT]) (zqe a0 a1) (zqd a0 a1 hp)
theorem zbm (hq:zd (cfg sp)):qcp XK szK (cfg sp) 25 zm6:=by
 intro ns pre r h hp
 unfold zm6 at h
 dsimp only at h
 split at h
 .cases h
  exact ⟨_,rfl,zqc hq _ _ hp,zz rfl⟩
 .cases h
theorem zgv (hq:zd (cfg sp)) (a0:Int) (hp:(I64 a0)):qbu XK szK (cfg sp) 22 [.int .i64 none (a0)] (qz7 a0):=
 qcf qbv jx (ql (qvo hq) (zt)) hq (zh rfl) (by simp [P.flat,P.cellsOf,RT]) (zgx a0) (zgw a0 hp)
theorem zm4 (hq:zd (cfg sp)):qcp XK szK (cfg sp) 22 zqt:=by
 intro ns pre r h hp
 unfold zqt at h
 dsimp only at h
 split at h
 .cases h
  exact ⟨_,rfl,zgv hq _ hp,zz rfl⟩
 .cases h
theorem zgo (hq:zd (cfg sp)) (a0:Int) (a1:Int) (a2:Int) (a3:Int) (a4:Int) (hp:((0:Int)<=a4/\(a4:Int)<=100)):qbu XK szK (cfg sp) 105 [.agg [.int .i64 none (a0),.int .i64 none (a1),.int .i64 none (a2),.int .i64 none (a3)],.int .i64 none (a4)] (qz5 a0 a1 a2 a3 a4):=
 qcf qbv jx (zt) hq (zh rfl) (by simp [P.flat,P.cellsOf,RT]) (zgq a0 a1 a2 a3 a4) (zgp a0 a1 a2 a3 a4 hp)
theorem zh1 (hq:zd (cfg sp)):qcp XK szK (cfg sp) 105 zh0:=by
 intro ns pre r h hp
 unfold zh0 at h
 dsimp only at h
 split at h
 .cases h
  exact ⟨_,rfl,zgo hq _ _ _ _ _ hp,zz rfl⟩
 .cases h
theorem zmo (hq:zd (cfg sp)) (a0:Int) (a1:Int) (a2:Int) (a3:Int) (a4:List Int) (a5:Int) (hp:(ln a4<=9223372036854775807/\qk5 a4/\(a5:Int)<=30/\(0:Int)<=a5)):qbu XK szK (cfg sp) 54 [.agg [.int .i64 none (a0),.int .i64 none (a1),.int .i64 none (a2),.int .i64 none (a3)],.list 1 (a4) none,.int .i64 none (a5)] (q4q a0 a1 a2 a3 a4 a5):=
 qcf qbv jx (ql (qvo hq) (ql (zh1 hq) (zt))) hq (zh rfl) (by simp [P.flat,P.cellsOf,RT]) (zmq a0 a1 a2 a3 a4 a5) (zmp a0 a1 a2 a3 a4 a5 hp)
theorem zna (hq:zd (cfg sp)):qcp XK szK (cfg sp) 54 zqw:=by
 intro ns pre r h hp
 unfold zqw at h
 dsimp only at h
 split at h
 .cases h
  exact ⟨_,rfl,zmo hq _ _ _ _ _ _ hp,zz rfl⟩
 .cases h
theorem zgs (hq:zd (cfg sp)) (a0:Int) (a1:Int) (a2:Int) (a3:Int) (a4:List Int) (a5:Int) (hp:(ln a4<=9223372036854775807/\qk5 a4/\(a5:Int)<=30/\(0:Int)<=a5)):qbu XK szK (cfg sp) 21 [.agg [.int .i64 none (a0),.int .i64 none (a1),.int .i64 none (a2),.int .i64 none (a3)],.list 1 (a4) none,.int .i64 none (a5)] (qz6 a0 a1 a2 a3 a4 a5):=
 qcf qbv jx (ql (zna hq) (ql (zbm hq) (ql (qvo hq) (zt)))) hq (zh rfl) (by simp [P.flat,P.cellsOf,RT]) (zgu a0 a1 a2 a3 a4 a5) (zgt a0 a1 a2 a3 a4 a5 hp)
theorem zm3 (hq:zd (cfg sp)):qcp XK szK (cfg sp) 21 zqs:=by
 intro ns pre r h hp
 unfold zqs at h
 dsimp only at h
 split at h
 .cases h
  exact ⟨_,rfl,zgs hq _ _ _ _ _ _ hp,zz rfl⟩
 .cases h
theorem q6k (hq:zd (cfg sp)) (hf20:qcp XK szK (cfg sp) 20 zm2) (hf117:qcp XK szK (cfg sp) 117 qmw) (a0:List Int) (a1:List Int) (hp:(qk5 a0/\qk5 a1)):qbu XK szK (cfg sp) 7 [.list 1 (a0) none,.list 1 (a1) none] (qrf a0 a1):=
 qcf qbv jx (ql hf20 (ql (zm4 hq) (ql (zm3 hq) (ql (zmy hq hf117) (ql (zbl hq) (ql (zbm hq) (ql (qvo hq) (ql (zm1 hq hf117) (ql (zm0 hq) (zt)))))))))) hq (zh rfl) (by simp [P.flat,P.cellsOf,RT]) (q6m a0 a1) (q6l a0 a1 hp)
end Go.Proofs.YtbopmiclcimjgaaGreatDoor
