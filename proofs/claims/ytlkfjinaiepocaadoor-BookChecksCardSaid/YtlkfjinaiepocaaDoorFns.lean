/- THE FUNCTIONS meet their contracts. Made by program (vc.py). -/
import Derived.Test.YtlkfjinaiepocaaDoorOks
namespace Go.Proofs.YtlkfjinaiepocaaDoor
open Go Go.E2 Go.E3
set_option maxRecDepth 100000
variable {sp:Nat->Option (List V->Heap->Option (CR×Heap))}
theorem za6 (hq:qm (cfg sp)) (a0:ZB) (hp:(ln a0<=9223372036854775806)):qaa XK szK (cfg sp) 49 [.str (a0)] (qxh a0):=
 ja kx zo (qw) hq (qo rfl) (by simp [P.flat,P.cellsOf,RT]) (za8 a0) (za7 a0 hp)
theorem q6r (hq:qm (cfg sp)):qba XK szK (cfg sp) 49 zfu:=by
 intro ns pre r h hp
 unfold zfu at h
 dsimp only at h
 split at h
 .cases h
  exact ⟨_,rfl,za6 hq _ hp,qz rfl⟩
 .cases h
theorem q7x (hq:qm (cfg sp)) (a0:Int) (a1:Int) (a2:Int) (a3:Int):qaa XK szK (cfg sp) 80 [.agg [.int .i64 none (a0),.int .i64 none (a1),.int .i64 none (a2),.int .i64 none (a3)]] (qts a0 a1 a2 a3):=
 ja kx zo (qw) hq (qo rfl) (by simp [P.flat,P.cellsOf,RT]) (q7z a0 a1 a2 a3) (q7y a0 a1 a2 a3 )
theorem zf5 (hq:qm (cfg sp)):qba XK szK (cfg sp) 80 zja:=by
 intro ns pre r h hp
 unfold zja at h
 dsimp only at h
 split at h
 .cases h
  exact ⟨_,rfl,q7x hq _ _ _ _,qz rfl⟩
 .cases h
theorem zet (hq:qm (cfg sp)) (a0:Int) (a1:Int) (a2:Int) (a3:Int) (a4:Bool) (a5:Int) (a6:Bool) (a7:Bool) (a8:Int) (a9:Int) (a10:Int) (a11:Int) (a12:Bool) (a13:Int) (a14:Int) (a15:Int) (a16:Int):qaa XK szK (cfg sp) 60 [.agg [.int .i64 none (a0),.int .i64 none (a1),.int .i64 none (a2),.int .i64 none (a3),.sb 0 false (a4) (a4=true) (a4=false),.int .i64 none (a5),.sb 0 false (a6) (a6=true) (a6=false),.sb 0 false (a7) (a7=true) (a7=false),.int .i64 none (a8),.int .i64 none (a9),.int .i64 none (a10),.int .i64 none (a11),.sb 0 false (a12) (a12=true) (a12=false),.int .i64 none (a13),.int .i64 none (a14),.int .i64 none (a15),.int .i64 none (a16)]] (q1f a0 a1 a2 a3 a4 a5 a6 a7 a8 a9 a10 a11 a12 a13 a14 a15 a16):=
 ja kx zo (qd (zf5 hq) (qw)) hq (qo rfl) (by simp [P.flat,P.cellsOf,RT]) (zev a0 a1 a2 a3 a4 a5 a6 a7 a8 a9 a10 a11 a12 a13 a14 a15 a16) (zeu a0 a1 a2 a3 a4 a5 a6 a7 a8 a9 a10 a11 a12 a13 a14 a15 a16 )
theorem zf1 (hq:qm (cfg sp)):qba XK szK (cfg sp) 60 zi6:=by
 intro ns pre r h hp
 unfold zi6 at h
 dsimp only at h
 split at h
 .cases h
  exact ⟨_,rfl,zet hq _ _ _ _ _ _ _ _ _ _ _ _ _ _ _ _ _,qz rfl⟩
 .cases h
theorem q4j (hq:qm (cfg sp)) (a0:ZB) (a1:List Sign) (hp:(ln a0<=1000000000/\ln a1<=1000000000)):qaa XK szK (cfg sp) 34 [.agg [.str (a0),.list 4 (a1) none]] (qry a0 a1):=
 ja kx zo (qd (q6r hq) (qd (zf1 hq) (qw))) hq (qo rfl) (by simp [P.flat,P.cellsOf,RT]) (q4l a0 a1) (q4k a0 a1 hp)
theorem zfj (hq:qm (cfg sp)):qba XK szK (cfg sp) 34 zir:=by
 intro ns pre r h hp
 unfold zir at h
 dsimp only at h
 split at h
 .cases h
  exact ⟨_,rfl,q4j hq _ _ hp,qz rfl⟩
 .cases h
theorem qzd (hq:qm (cfg sp)) (a0:List Sign) (a1:List Sign) (hp:(ln a0<=10000000)):qaa XK szK (cfg sp) 32 [.list 4 (a0) none,.list 4 (a1) none] (qnf a0 a1):=
 ja kx zo (qw) hq (qo rfl) (by simp [P.flat,P.cellsOf,RT]) (qze a0 a1) (qo4 a0 a1 hp)
theorem q6q (hq:qm (cfg sp)):qba XK szK (cfg sp) 32 zfh:=by
 intro ns pre r h hp
 unfold zfh at h
 dsimp only at h
 split at h
 .cases h
  exact ⟨_,rfl,qzd hq _ _ hp,qz rfl⟩
 .cases h
theorem q1o (hq:qm (cfg sp)) (a0:ZB) (a1:List Sign) (a2:ZB) (a3:List Sign) (hp:(ln a1<=10000000)):qaa XK szK (cfg sp) 13 [.agg [.str (a0),.list 4 (a1) none],.agg [.str (a2),.list 4 (a3) none]] (qo2 a0 a1 a2 a3):=
 ja kx zo (qd (q6q hq) (qw)) hq (qo rfl) (by simp [P.flat,P.cellsOf,RT]) (q1q a0 a1 a2 a3) (q1p a0 a1 a2 a3 hp)
theorem ze4 (hq:qm (cfg sp)):qba XK szK (cfg sp) 13 zic:=by
 intro ns pre r h hp
 unfold zic at h
 dsimp only at h
 split at h
 .cases h
  exact ⟨_,rfl,q1o hq _ _ _ _ hp,qz rfl⟩
 .cases h
theorem q0r (hq:qm (cfg sp)) (a0:List Sign) (a1:Int) (a2:Bool) (a3:Int) (a4:List Sign) (a5:Int) (a6:Bool) (a7:Int) (hp:(ln a0<=10000000)):qaa XK szK (cfg sp) 48 [.agg [.list 4 (a0) none,.int .i64 none (a1),.sb 0 false (a2) (a2=true) (a2=false),.int .i64 none (a3)],.agg [.list 4 (a4) none,.int .i64 none (a5),.sb 0 false (a6) (a6=true) (a6=false),.int .i64 none (a7)]] (qnw a0 a1 a2 a3 a4 a5 a6 a7):=
 ja kx zo (qd (q6q hq) (qw)) hq (qo rfl) (by simp [P.flat,P.cellsOf,RT]) (q0t a0 a1 a2 a3 a4 a5 a6 a7) (q0s a0 a1 a2 a3 a4 a5 a6 a7 hp)
theorem zft (hq:qm (cfg sp)):qba XK szK (cfg sp) 48 zi1:=by
 intro ns pre r h hp
 unfold zi1 at h
 dsimp only at h
 split at h
 .cases h
  exact ⟨_,rfl,q0r hq _ _ _ _ _ _ _ _ hp,qz rfl⟩
 .cases h
theorem q93 (hq:qm (cfg sp)) (a0:ZB) (a1:List Page) (a2:ZB) (a3:List Page) (hp:(ln a1<=500/\okB a1)):qaa XK szK (cfg sp) 12 [.agg [.str (a0),.list 8 (a1) none],.agg [.str (a2),.list 8 (a3) none]] (qv3 a0 a1 a2 a3):=
 ja kx zo (qd (zft hq) (qw)) hq (qo rfl) (by simp [P.flat,P.cellsOf,RT]) (q95 a0 a1 a2 a3) (q94 a0 a1 a2 a3 hp)
theorem ze3 (hq:qm (cfg sp)):qba XK szK (cfg sp) 12 zib:=by
 intro ns pre r h hp
 unfold zib at h
 dsimp only at h
 split at h
 .cases h
  exact ⟨_,rfl,q93 hq _ _ _ _ hp,qz rfl⟩
 .cases h
theorem zaz (hq:qm (cfg sp)) (a0:List Sign) (hp:(ln a0<=10000000)):qaa XK szK (cfg sp) 42 [.list 4 (a0) none] (qxf a0):=
 ja kx zo (qw) hq (qo rfl) (by simp [P.flat,P.cellsOf,RT]) (za1 a0) (za0 a0 hp)
theorem zfn (hq:qm (cfg sp)):qba XK szK (cfg sp) 42 ziv:=by
 intro ns pre r h hp
 unfold ziv at h
 dsimp only at h
 split at h
 .cases h
  exact ⟨_,rfl,zaz hq _ hp,qz rfl⟩
 .cases h
theorem zgj (hq:qm (cfg sp)) (a0:List Sign) (a1:List Sign) (hp:(ln a0<=1/\ln a1<=1)):qaa XK szK (cfg sp) 38 [.agg [.list 4 (a0) none,.list 4 (a1) none]] (q23 a0 a1):=
 ja kx zo (qd (zfn hq) (qw)) hq (qo rfl) (by simp [P.flat,P.cellsOf,RT]) (zgl a0 a1) (zgk a0 a1 hp)
theorem zfk (hq:qm (cfg sp)):qba XK szK (cfg sp) 38 zis:=by
 intro ns pre r h hp
 unfold zis at h
 dsimp only at h
 split at h
 .cases h
  exact ⟨_,rfl,zgj hq _ _ hp,qz rfl⟩
 .cases h
theorem zbn (hq:qm (cfg sp)) (a0:List Sign) (a1:List Sign) (a2:Int) (a3:Int) (a4:Int) (a5:Int) (a6:Bool) (a7:Int) (a8:Bool) (a9:Bool) (a10:Int) (a11:Int) (a12:Int) (a13:Int) (a14:Bool) (a15:Int) (a16:Int) (a17:Int) (a18:Int):qaa XK szK (cfg sp) 40 [.agg [.list 4 (a0) none,.list 4 (a1) none],.agg [.int .i64 none (a2),.int .i64 none (a3),.int .i64 none (a4),.int .i64 none (a5),.sb 0 false (a6) (a6=true) (a6=false),.int .i64 none (a7),.sb 0 false (a8) (a8=true) (a8=false),.sb 0 false (a9) (a9=true) (a9=false),.int .i64 none (a10),.int .i64 none (a11),.int .i64 none (a12),.int .i64 none (a13),.sb 0 false (a14) (a14=true) (a14=false),.int .i64 none (a15),.int .i64 none (a16),.int .i64 none (a17),.int .i64 none (a18)]] (qxn a0 a1 a2 a3 a4 a5 a6 a7 a8 a9 a10 a11 a12 a13 a14 a15 a16 a17 a18):=
 ja kx zo (qw) hq (qo rfl) (by simp [P.flat,P.cellsOf,RT]) (zbp a0 a1 a2 a3 a4 a5 a6 a7 a8 a9 a10 a11 a12 a13 a14 a15 a16 a17 a18) (zbo a0 a1 a2 a3 a4 a5 a6 a7 a8 a9 a10 a11 a12 a13 a14 a15 a16 a17 a18 )
theorem zfl (hq:qm (cfg sp)):qba XK szK (cfg sp) 40 zit:=by
 intro ns pre r h hp
 unfold zit at h
 dsimp only at h
 split at h
 .cases h
  exact ⟨_,rfl,zbn hq _ _ _ _ _ _ _ _ _ _ _ _ _ _ _ _ _ _ _,qz rfl⟩
 .cases h
theorem q8r (hq:qm (cfg sp)) (a0:List Sign) (hp:(ln a0<=1000000000)):qaa XK szK (cfg sp) 41 [.list 4 (a0) none] (quf a0):=
 ja kx zo (qw) hq (qo rfl) (by simp [P.flat,P.cellsOf,RT]) (q8t a0) (q8s a0 hp)
theorem zfm (hq:qm (cfg sp)):qba XK szK (cfg sp) 41 ziu:=by
 intro ns pre r h hp
 unfold ziu at h
 dsimp only at h
 split at h
 .cases h
  exact ⟨_,rfl,q8r hq _ hp,qz rfl⟩
 .cases h
theorem za3 (hq:qm (cfg sp)) (a0:ZB) (hp:(ln a0<=9223372036854775806)):qaa XK szK (cfg sp) 52 [.str (a0)] (qxg a0):=
 ja kx zo (qw) hq (qo rfl) (by simp [P.flat,P.cellsOf,RT]) (za5 a0) (za4 a0 hp)
theorem q6s (hq:qm (cfg sp)):qba XK szK (cfg sp) 52 zfx:=by
 intro ns pre r h hp
 unfold zfx at h
 dsimp only at h
 split at h
 .cases h
  exact ⟨_,rfl,za3 hq _ hp,qz rfl⟩
 .cases h
theorem q4b (hq:qm (cfg sp)) (a0:Int) (a1:Int) (a2:Int) (a3:Int):qaa XK szK (cfg sp) 84 [.agg [.int .i64 none (a0),.int .i64 none (a1),.int .i64 none (a2),.int .i64 none (a3)]] (qrw a0 a1 a2 a3):=
 ja kx zo (qw) hq (qo rfl) (by simp [P.flat,P.cellsOf,RT]) (q4d a0 a1 a2 a3) (q4c a0 a1 a2 a3 )
theorem zf7 (hq:qm (cfg sp)):qba XK szK (cfg sp) 84 zjc:=by
 intro ns pre r h hp
 unfold zjc at h
 dsimp only at h
 split at h
 .cases h
  exact ⟨_,rfl,q4b hq _ _ _ _,qz rfl⟩
 .cases h
theorem zhi (hq:qm (cfg sp)) (a0:Int) (a1:Int) (a2:Int) (a3:Int) (a4:Bool) (a5:Int) (a6:Bool) (a7:Bool) (a8:Int) (a9:Int) (a10:Int) (a11:Int) (a12:Bool) (a13:Int) (a14:Int) (a15:Int) (a16:Int):qaa XK szK (cfg sp) 83 [.agg [.int .i64 none (a0),.int .i64 none (a1),.int .i64 none (a2),.int .i64 none (a3),.sb 0 false (a4) (a4=true) (a4=false),.int .i64 none (a5),.sb 0 false (a6) (a6=true) (a6=false),.sb 0 false (a7) (a7=true) (a7=false),.int .i64 none (a8),.int .i64 none (a9),.int .i64 none (a10),.int .i64 none (a11),.sb 0 false (a12) (a12=true) (a12=false),.int .i64 none (a13),.int .i64 none (a14),.int .i64 none (a15),.int .i64 none (a16)]] (q38 a0 a1 a2 a3 a4 a5 a6 a7 a8 a9 a10 a11 a12 a13 a14 a15 a16):=
 ja kx zo (qw) hq (qo rfl) (by simp [P.flat,P.cellsOf,RT]) (zhk a0 a1 a2 a3 a4 a5 a6 a7 a8 a9 a10 a11 a12 a13 a14 a15 a16) (zhj a0 a1 a2 a3 a4 a5 a6 a7 a8 a9 a10 a11 a12 a13 a14 a15 a16 )
theorem zf6 (hq:qm (cfg sp)):qba XK szK (cfg sp) 83 zjb:=by
 intro ns pre r h hp
 unfold zjb at h
 dsimp only at h
 split at h
 .cases h
  exact ⟨_,rfl,zhi hq _ _ _ _ _ _ _ _ _ _ _ _ _ _ _ _ _,qz rfl⟩
 .cases h
theorem q9w (hq:qm (cfg sp)) (a0:Int) (a1:Int) (a2:Int) (a3:Int) (a4:Bool) (a5:Int) (a6:Bool) (a7:Bool) (a8:Int) (a9:Int) (a10:Int) (a11:Int) (a12:Bool) (a13:Int) (a14:Int) (a15:Int) (a16:Int):qaa XK szK (cfg sp) 85 [.agg [.int .i64 none (a0),.int .i64 none (a1),.int .i64 none (a2),.int .i64 none (a3),.sb 0 false (a4) (a4=true) (a4=false),.int .i64 none (a5),.sb 0 false (a6) (a6=true) (a6=false),.sb 0 false (a7) (a7=true) (a7=false),.int .i64 none (a8),.int .i64 none (a9),.int .i64 none (a10),.int .i64 none (a11),.sb 0 false (a12) (a12=true) (a12=false),.int .i64 none (a13),.int .i64 none (a14),.int .i64 none (a15),.int .i64 none (a16)]] (qvw a0 a1 a2 a3 a4 a5 a6 a7 a8 a9 a10 a11 a12 a13 a14 a15 a16):=
 ja kx zo (qw) hq (qo rfl) (by simp [P.flat,P.cellsOf,RT]) (q9y a0 a1 a2 a3 a4 a5 a6 a7 a8 a9 a10 a11 a12 a13 a14 a15 a16) (q9x a0 a1 a2 a3 a4 a5 a6 a7 a8 a9 a10 a11 a12 a13 a14 a15 a16 )
theorem zf8 (hq:qm (cfg sp)):qba XK szK (cfg sp) 85 zjd:=by
 intro ns pre r h hp
 unfold zjd at h
 dsimp only at h
 split at h
 .cases h
  exact ⟨_,rfl,q9w hq _ _ _ _ _ _ _ _ _ _ _ _ _ _ _ _ _,qz rfl⟩
 .cases h
theorem zeq (hq:qm (cfg sp)) (a0:Int) (a1:Int) (a2:Int) (a3:Int) (a4:Bool) (a5:Int) (a6:Bool) (a7:Bool) (a8:Int) (a9:Int) (a10:Int) (a11:Int) (a12:Bool) (a13:Int) (a14:Int) (a15:Int) (a16:Int):qaa XK szK (cfg sp) 63 [.agg [.int .i64 none (a0),.int .i64 none (a1),.int .i64 none (a2),.int .i64 none (a3),.sb 0 false (a4) (a4=true) (a4=false),.int .i64 none (a5),.sb 0 false (a6) (a6=true) (a6=false),.sb 0 false (a7) (a7=true) (a7=false),.int .i64 none (a8),.int .i64 none (a9),.int .i64 none (a10),.int .i64 none (a11),.sb 0 false (a12) (a12=true) (a12=false),.int .i64 none (a13),.int .i64 none (a14),.int .i64 none (a15),.int .i64 none (a16)]] (q1e a0 a1 a2 a3 a4 a5 a6 a7 a8 a9 a10 a11 a12 a13 a14 a15 a16):=
 ja kx zo (qd (zf6 hq) (qd (zf7 hq) (qd (zf8 hq) (qw)))) hq (qo rfl) (by simp [P.flat,P.cellsOf,RT]) (zes a0 a1 a2 a3 a4 a5 a6 a7 a8 a9 a10 a11 a12 a13 a14 a15 a16) (zer a0 a1 a2 a3 a4 a5 a6 a7 a8 a9 a10 a11 a12 a13 a14 a15 a16 )
theorem zf2 (hq:qm (cfg sp)):qba XK szK (cfg sp) 63 zi7:=by
 intro ns pre r h hp
 unfold zi7 at h
 dsimp only at h
 split at h
 .cases h
  exact ⟨_,rfl,zeq hq _ _ _ _ _ _ _ _ _ _ _ _ _ _ _ _ _,qz rfl⟩
 .cases h
theorem q4g (hq:qm (cfg sp)) (a0:ZB) (a1:List Sign) (hp:(ln a0<=1000000000/\ln a1<=1000000000)):qaa XK szK (cfg sp) 43 [.agg [.str (a0),.list 4 (a1) none]] (qrx a0 a1):=
 ja kx zo (qd (q6s hq) (qd (zf2 hq) (qw))) hq (qo rfl) (by simp [P.flat,P.cellsOf,RT]) (q4i a0 a1) (q4h a0 a1 hp)
theorem zfo (hq:qm (cfg sp)):qba XK szK (cfg sp) 43 ziw:=by
 intro ns pre r h hp
 unfold ziw at h
 dsimp only at h
 split at h
 .cases h
  exact ⟨_,rfl,q4g hq _ _ hp,qz rfl⟩
 .cases h
theorem q1g (hq:qm (cfg sp)) (a0:List Sign) (hp:(ln a0<=10000000)):qaa XK szK (cfg sp) 33 [.list 4 (a0) none] (qoz a0):=
 ja kx zo (qw) hq (qo rfl) (by simp [P.flat,P.cellsOf,RT]) (q1i a0) (q1h a0 hp)
theorem zfi (hq:qm (cfg sp)):qba XK szK (cfg sp) 33 ziq:=by
 intro ns pre r h hp
 unfold ziq at h
 dsimp only at h
 split at h
 .cases h
  exact ⟨_,rfl,q1g hq _ hp,qz rfl⟩
 .cases h
theorem q5f (hq:qm (cfg sp)) (a0:List Sign) (hp:(ln a0<=1000000000)):qaa XK szK (cfg sp) 45 [.list 4 (a0) none] (qsf a0):=
 ja kx zo (qw) hq (qo rfl) (by simp [P.flat,P.cellsOf,RT]) (q5h a0) (q5g a0 hp)
theorem zfq (hq:qm (cfg sp)):qba XK szK (cfg sp) 45 ziy:=by
 intro ns pre r h hp
 unfold ziy at h
 dsimp only at h
 split at h
 .cases h
  exact ⟨_,rfl,q5f hq _ hp,qz rfl⟩
 .cases h
theorem zcj (hq:qm (cfg sp)) (a0:List Sign) (a1:Int) (hp:(0<=a1/\a1<=ln a0/\ln a0<=1000000000)):qaa XK szK (cfg sp) 46 [.list 4 (a0) none,.int .i64 none (a1)] (qx6 a0 a1):=
 ja kx zo (qw) hq (qo rfl) (by simp [P.flat,P.cellsOf,RT]) (zcl a0 a1) (zck a0 a1 hp)
theorem zfr (hq:qm (cfg sp)):qba XK szK (cfg sp) 46 ziz:=by
 intro ns pre r h hp
 unfold ziz at h
 dsimp only at h
 split at h
 .cases h
  exact ⟨_,rfl,zcj hq _ _ hp,qz rfl⟩
 .cases h
theorem q8w (hq:qm (cfg sp)) (a0:List Sign) (a1:Int) (hp:(0<=a1/\a1<=ln a0/\ln a0<=1000000000)):qaa XK szK (cfg sp) 47 [.list 4 (a0) none,.int .i64 none (a1)] (qun a0 a1):=
 ja kx zo (qw) hq (qo rfl) (by simp [P.flat,P.cellsOf,RT]) (q8y a0 a1) (q8x a0 a1 hp)
theorem zfs (hq:qm (cfg sp)):qba XK szK (cfg sp) 47 zi0:=by
 intro ns pre r h hp
 unfold zi0 at h
 dsimp only at h
 split at h
 .cases h
  exact ⟨_,rfl,q8w hq _ _ hp,qz rfl⟩
 .cases h
theorem zhc (hq:qm (cfg sp)) (a0:List Sign) (hp:(ln a0<=1000000000)):qaa XK szK (cfg sp) 44 [.list 4 (a0) none] (q36 a0):=
 ja kx zo (qw) hq (qo rfl) (by simp [P.flat,P.cellsOf,RT]) (zhe a0) (zhd a0 hp)
theorem zfp (hq:qm (cfg sp)):qba XK szK (cfg sp) 44 zix:=by
 intro ns pre r h hp
 unfold zix at h
 dsimp only at h
 split at h
 .cases h
  exact ⟨_,rfl,zhc hq _ hp,qz rfl⟩
 .cases h
theorem zag (hq:qm (cfg sp)) (a0:ZB) (a1:List Page) (hp:(smB a1)):qaa XK szK (cfg sp) 68 [.agg [.str (a0),.list 8 (a1) none]] (qwb a0 a1):=
 ja kx zo (qw) hq (qo rfl) (by simp [P.flat,P.cellsOf,RT]) (zai a0 a1) (zah a0 a1 hp)
theorem qzo (hq:qm (cfg sp)):qba XK szK (cfg sp) 68 zby:=by
 intro ns pre r h hp
 unfold zby at h
 dsimp only at h
 split at h
 .cases h
  exact ⟨_,rfl,zag hq _ _ hp,qz rfl⟩
 .cases h
theorem zg1 (hq:qm (cfg sp)) (a0:ZB) (a1:List Page) (hp:(smB a1/\qk a1)):qaa XK szK (cfg sp) 56 [.agg [.str (a0),.list 8 (a1) none]] (q3k a0 a1):=
 ja kx zo (qd (qzo hq) (qw)) hq (qo rfl) (by simp [P.flat,P.cellsOf,RT]) (zg3 a0 a1) (zg2 a0 a1 hp)
theorem q6t (hq:qm (cfg sp)):qba XK szK (cfg sp) 56 zf0:=by
 intro ns pre r h hp
 unfold zf0 at h
 dsimp only at h
 split at h
 .cases h
  exact ⟨_,rfl,zg1 hq _ _ hp,qz rfl⟩
 .cases h
theorem zda (hq:qm (cfg sp)) (a0:ZB) (a1:List Page) (a2:Int) (hp:(smB a1/\qk a1/\(0:Int)<=a2/\(a2:Int)<=1000000000000)):qaa XK szK (cfg sp) 66 [.agg [.str (a0),.list 8 (a1) none],.int .i64 none (a2)] (qyo a0 a1 a2):=
 ja kx zo (qd (qzo hq) (qw)) hq (qo rfl) (by simp [P.flat,P.cellsOf,RT]) (zdc a0 a1 a2) (zdb a0 a1 a2 hp)
theorem zf3 (hq:qm (cfg sp)):qba XK szK (cfg sp) 66 zi8:=by
 intro ns pre r h hp
 unfold zi8 at h
 dsimp only at h
 split at h
 .cases h
  exact ⟨_,rfl,zda hq _ _ _ hp,qz rfl⟩
 .cases h
theorem zaa (hq:qm (cfg sp)) (a0:List Sign) (a1:Int) (a2:Bool) (a3:Int) (a4:List Sign) (a5:List Sign) (hp:(ln a0<=500/\ln a4<=1/\ln a5<=1)):qaa XK szK (cfg sp) 50 [.agg [.list 4 (a0) none,.int .i64 none (a1),.sb 0 false (a2) (a2=true) (a2=false),.int .i64 none (a3)],.agg [.list 4 (a4) none,.list 4 (a5) none]] (qv8 a0 a1 a2 a3 a4 a5):=
 ja kx zo (qd (zfk hq) (qw)) hq (qo rfl) (by simp [P.flat,P.cellsOf,RT]) (zad a0 a1 a2 a3 a4 a5) (zac a0 a1 a2 a3 a4 a5 hp)
theorem zfv (hq:qm (cfg sp)):qba XK szK (cfg sp) 50 zi2:=by
 intro ns pre r h hp
 unfold zi2 at h
 dsimp only at h
 split at h
 .cases h
  exact ⟨_,rfl,zaa hq _ _ _ _ _ _ hp,qz rfl⟩
 .cases h
theorem zei (hq:qm (cfg sp)) (a0:ZB) (a1:List Page) (hp:(ln a0<=1000000000/\smB a1/\qk a1)):qaa XK szK (cfg sp) 51 [.agg [.str (a0),.list 8 (a1) none]] (qy4 a0 a1):=
 ja kx zo (qd (q6t hq) (qd (zfj hq) (qd (zf3 hq) (qd (qzo hq) (qd (zfm hq) (qw)))))) hq (qo rfl) (by simp [P.flat,P.cellsOf,RT]) (zek a0 a1) (zej a0 a1 hp)
theorem zfw (hq:qm (cfg sp)):qba XK szK (cfg sp) 51 zi3:=by
 intro ns pre r h hp
 unfold zi3 at h
 dsimp only at h
 split at h
 .cases h
  exact ⟨_,rfl,zei hq _ _ hp,qz rfl⟩
 .cases h
theorem q7u (hq:qm (cfg sp)) (a0:ZB) (a1:List Page) (hp:(ln a0<=1000000000/\smB a1)):qaa XK szK (cfg sp) 16 [.agg [.str (a0),.list 8 (a1) none]] (qtr a0 a1):=
 ja kx zo (qd (q6r hq) (qd (zfv hq) (qd (zfl hq) (qd (zfw hq) (qw))))) hq (qo rfl) (by simp [P.flat,P.cellsOf,RT]) (q7w a0 a1) (q7v a0 a1 hp)
theorem qpg (hq:qm (cfg sp)):qba XK szK (cfg sp) 16 q44:=by
 intro ns pre r h hp
 unfold q44 at h
 dsimp only at h
 split at h
 .cases h
  exact ⟨_,rfl,q7u hq _ _ hp,qz rfl⟩
 .cases h
theorem zat (hq:qm (cfg sp)) (a0:ZB) (a1:List Page) (hp:(ln a0<=1000000000/\smB a1)):qaa XK szK (cfg sp) 18 [.agg [.str (a0),.list 8 (a1) none]] (qxd a0 a1):=
 ja kx zo (qd (qpg hq) (qd (q6t hq) (qw))) hq (qo rfl) (by simp [P.flat,P.cellsOf,RT]) (zav a0 a1) (zau a0 a1 hp)
theorem ze7 (hq:qm (cfg sp)):qba XK szK (cfg sp) 18 zif:=by
 intro ns pre r h hp
 unfold zif at h
 dsimp only at h
 split at h
 .cases h
  exact ⟨_,rfl,zat hq _ _ hp,qz rfl⟩
 .cases h
theorem q8c (hq:qm (cfg sp)) (a0:ZB) (a1:List Page) (hp:(ln a0<=1000000000/\smB a1)):qaa XK szK (cfg sp) 22 [.agg [.str (a0),.list 8 (a1) none]] (qt0 a0 a1):=
 ja kx zo (qd (qpg hq) (qw)) hq (qo rfl) (by simp [P.flat,P.cellsOf,RT]) (q8e a0 a1) (q8d a0 a1 hp)
theorem zfb (hq:qm (cfg sp)):qba XK szK (cfg sp) 22 zij:=by
 intro ns pre r h hp
 unfold zij at h
 dsimp only at h
 split at h
 .cases h
  exact ⟨_,rfl,q8c hq _ _ hp,qz rfl⟩
 .cases h
theorem q55 (hq:qm (cfg sp)) (a0:ZB) (a1:List Page) (hp:(smB a1)):qaa XK szK (cfg sp) 53 [.agg [.str (a0),.list 8 (a1) none]] (qs3 a0 a1):=
 ja kx zo (qw) hq (qo rfl) (by simp [P.flat,P.cellsOf,RT]) (q57 a0 a1) (q56 a0 a1 hp)
theorem qzn (hq:qm (cfg sp)):qba XK szK (cfg sp) 53 zbx:=by
 intro ns pre r h hp
 unfold zbx at h
 dsimp only at h
 split at h
 .cases h
  exact ⟨_,rfl,q55 hq _ _ hp,qz rfl⟩
 .cases h
theorem zdw (hq:qm (cfg sp)) (a0:List Sign) (a1:List Sign) (hp:(ln a0<=10000000)):qaa XK szK (cfg sp) 54 [.list 4 (a0) none,.list 4 (a1) none] (qyy a0 a1):=
 ja kx zo (qw) hq (qo rfl) (by simp [P.flat,P.cellsOf,RT]) (zdy a0 a1) (zdx a0 a1 hp)
theorem zfy (hq:qm (cfg sp)):qba XK szK (cfg sp) 54 zi4:=by
 intro ns pre r h hp
 unfold zi4 at h
 dsimp only at h
 split at h
 .cases h
  exact ⟨_,rfl,zdw hq _ _ hp,qz rfl⟩
 .cases h
theorem zh7 (hq:qm (cfg sp)) (a0:List Int) (a1:Int) (hp:(ln a0<=1000000000)):qaa XK szK (cfg sp) 71 [.list 1 (a0) none,.int .i64 none (a1)] (q6k a0 a1):=
 ja kx zo (qw) hq (qo rfl) (by simp [P.flat,P.cellsOf,RT]) (zh9 a0 a1) (zh8 a0 a1 hp)
theorem zf4 (hq:qm (cfg sp)):qba XK szK (cfg sp) 71 zi9:=by
 intro ns pre r h hp
 unfold zi9 at h
 dsimp only at h
 split at h
 .cases h
  exact ⟨_,rfl,zh7 hq _ _ hp,qz rfl⟩
 .cases h
theorem zao (hq:qm (cfg sp)) (a0:ZB) (a1:List Sign) (a2:List Int) (a3:List Staff) (hp:(ln a0<=1000000000/\qto a1 a2 a3)):qaa XK szK (cfg sp) 55 [.agg [.str (a0),.list 4 (a1) none],.list 1 (a2) none,.list 7 (a3) none] (qwh a0 a1 a2 a3):=
 ja kx zo (qd (zfo hq) (qd (zf4 hq) (qd (zfp hq) (qd (zfq hq) (qd (zfs hq) (qw)))))) hq (qo rfl) (by simp [P.flat,P.cellsOf,RT]) (zaq a0 a1 a2 a3) (zap a0 a1 a2 a3 hp)
theorem zfz (hq:qm (cfg sp)):qba XK szK (cfg sp) 55 zi5:=by
 intro ns pre r h hp
 unfold zi5 at h
 dsimp only at h
 split at h
 .cases h
  exact ⟨_,rfl,zao hq _ _ _ _ hp,qz rfl⟩
 .cases h
theorem q70 (hq:qm (cfg sp)) (a0:ZB) (a1:List Page) (hp:(ln a0<=1000000000/\smB a1)):qaa XK szK (cfg sp) 17 [.agg [.str (a0),.list 8 (a1) none]] (qtt a0 a1):=
 ja kx zo (qd (q6s hq) (qd (qzn hq) (qd (zfr hq) (qd (zfy hq) (qd (zfz hq) (qw)))))) hq (qo rfl) (by simp [P.flat,P.cellsOf,RT]) (q72 a0 a1) (q71 a0 a1 hp)
theorem qph (hq:qm (cfg sp)):qba XK szK (cfg sp) 17 q45:=by
 intro ns pre r h hp
 unfold q45 at h
 dsimp only at h
 split at h
 .cases h
  exact ⟨_,rfl,q70 hq _ _ hp,qz rfl⟩
 .cases h
theorem zaw (hq:qm (cfg sp)) (a0:ZB) (a1:List Page) (hp:(ln a0<=1000000000/\smB a1)):qaa XK szK (cfg sp) 19 [.agg [.str (a0),.list 8 (a1) none]] (qxe a0 a1):=
 ja kx zo (qd (qph hq) (qd (qzn hq) (qw))) hq (qo rfl) (by simp [P.flat,P.cellsOf,RT]) (zay a0 a1) (zax a0 a1 hp)
theorem ze8 (hq:qm (cfg sp)):qba XK szK (cfg sp) 19 zig:=by
 intro ns pre r h hp
 unfold zig at h
 dsimp only at h
 split at h
 .cases h
  exact ⟨_,rfl,zaw hq _ _ hp,qz rfl⟩
 .cases h
theorem q79 (hq:qm (cfg sp)) (a0:ZB) (a1:List Page) (a2:Int) (hp:(ln a0<=1000000000/\smB a1/\I64 a2)):qaa XK szK (cfg sp) 21 [.agg [.str (a0),.list 8 (a1) none],.int .i64 none (a2)] (qtx a0 a1 a2):=
 ja kx zo (qd (qph hq) (qd (qzn hq) (qw))) hq (qo rfl) (by simp [P.flat,P.cellsOf,RT]) (q8b a0 a1 a2) (q8a a0 a1 a2 hp)
theorem zfa (hq:qm (cfg sp)):qba XK szK (cfg sp) 21 zii:=by
 intro ns pre r h hp
 unfold zii at h
 dsimp only at h
 split at h
 .cases h
  exact ⟨_,rfl,q79 hq _ _ _ hp,qz rfl⟩
 .cases h
theorem q76 (hq:qm (cfg sp)) (a0:ZB) (a1:List Page) (a2:Int) (hp:(ln a0<=1000000000/\smB a1/\I64 a2)):qaa XK szK (cfg sp) 20 [.agg [.str (a0),.list 8 (a1) none],.int .i64 none (a2)] (qtw a0 a1 a2):=
 ja kx zo (qd (qpg hq) (qw)) hq (qo rfl) (by simp [P.flat,P.cellsOf,RT]) (q78 a0 a1 a2) (q77 a0 a1 a2 hp)
theorem ze9 (hq:qm (cfg sp)):qba XK szK (cfg sp) 20 zih:=by
 intro ns pre r h hp
 unfold zih at h
 dsimp only at h
 split at h
 .cases h
  exact ⟨_,rfl,q76 hq _ _ _ hp,qz rfl⟩
 .cases h
theorem q8f (hq:qm (cfg sp)) (a0:ZB) (a1:List Page) (hp:(ln a0<=1000000000/\smB a1)):qaa XK szK (cfg sp) 23 [.agg [.str (a0),.list 8 (a1) none]] (qt1 a0 a1):=
 ja kx zo (qd (qph hq) (qw)) hq (qo rfl) (by simp [P.flat,P.cellsOf,RT]) (q8h a0 a1) (q8g a0 a1 hp)
theorem zfc (hq:qm (cfg sp)):qba XK szK (cfg sp) 23 zik:=by
 intro ns pre r h hp
 unfold zik at h
 dsimp only at h
 split at h
 .cases h
  exact ⟨_,rfl,q8f hq _ _ hp,qz rfl⟩
 .cases h
theorem zbh (hq:qm (cfg sp)) (a0:ZB) (a1:List Page) (hp:(ln a0<=1000000000/\smB a1)):qaa XK szK (cfg sp) 27 [.agg [.str (a0),.list 8 (a1) none]] (qxk a0 a1):=
 ja kx zo (qd (qph hq) (qw)) hq (qo rfl) (by simp [P.flat,P.cellsOf,RT]) (zbj a0 a1) (zbi a0 a1 hp)
theorem zfg (hq:qm (cfg sp)):qba XK szK (cfg sp) 27 zio:=by
 intro ns pre r h hp
 unfold zio at h
 dsimp only at h
 split at h
 .cases h
  exact ⟨_,rfl,zbh hq _ _ hp,qz rfl⟩
 .cases h
theorem zbe (hq:qm (cfg sp)) (a0:ZB) (a1:List Page) (hp:(ln a0<=1000000000/\smB a1)):qaa XK szK (cfg sp) 26 [.agg [.str (a0),.list 8 (a1) none]] (qxj a0 a1):=
 ja kx zo (qd (qpg hq) (qw)) hq (qo rfl) (by simp [P.flat,P.cellsOf,RT]) (zbg a0 a1) (zbf a0 a1 hp)
theorem zff (hq:qm (cfg sp)):qba XK szK (cfg sp) 26 zin:=by
 intro ns pre r h hp
 unfold zin at h
 dsimp only at h
 split at h
 .cases h
  exact ⟨_,rfl,zbe hq _ _ hp,qz rfl⟩
 .cases h
theorem q1l (hq:qm (cfg sp)) (a0:List Int) (a1:List Int) (hp:(ln a0<=1000000000)):qaa XK szK (cfg sp) 24 [.list 1 (a0) none,.list 1 (a1) none] (qo1 a0 a1):=
 ja kx zo (qw) hq (qo rfl) (by simp [P.flat,P.cellsOf,RT]) (q1n a0 a1) (q1m a0 a1 hp)
theorem zfd (hq:qm (cfg sp)):qba XK szK (cfg sp) 24 zil:=by
 intro ns pre r h hp
 unfold zil at h
 dsimp only at h
 split at h
 .cases h
  exact ⟨_,rfl,q1l hq _ _ hp,qz rfl⟩
 .cases h
theorem qy8 (hq:qm (cfg sp)) (a0:List Bool) (a1:List Bool) (hp:(ln a0<=1000000000)):qaa XK szK (cfg sp) 25 [.list 3 (a0) none,.list 3 (a1) none] (qne a0 a1):=
 ja kx zo (qw) hq (qo rfl) (by simp [P.flat,P.cellsOf,RT]) (qza a0 a1) (qy9 a0 a1 hp)
theorem zfe (hq:qm (cfg sp)):qba XK szK (cfg sp) 25 zim:=by
 intro ns pre r h hp
 unfold zim at h
 dsimp only at h
 split at h
 .cases h
  exact ⟨_,rfl,qy8 hq _ _ hp,qz rfl⟩
 .cases h
theorem zcn (hq:qm (cfg sp)) (a0:ZB) (a1:List Page) (hp:(ln a0<=9223372036854775807/\ln a1<=9223372036854775807/\∀ p ∈ a1,ln p.Staves<=9223372036854775807/\∀ s ∈ p.Staves,ln s.Signs<=9223372036854775807)):qaa XK szK (cfg sp) 14 [.agg [.str (a0),.list 8 (a1) none]] (qx8 a0 a1):=
 ja kx zo (qw) hq (qo rfl) (by simp [P.flat,P.cellsOf,RT]) (zcq a0 a1) (zco a0 a1 hp)
theorem ze5 (hq:qm (cfg sp)):qba XK szK (cfg sp) 14 zid:=by
 intro ns pre r h hp
 unfold zid at h
 dsimp only at h
 split at h
 .cases h
  exact ⟨_,rfl,zcn hq _ _ hp,qz rfl⟩
 .cases h
theorem zjo (hq:qm (cfg sp)) (a0:ZB) (a1:List Page) (hp:(smB a1)):qaa XK szK (cfg sp) 15 [.agg [.str (a0),.list 8 (a1) none]] (q7h a0 a1):=
 ja kx zo (qd (zfi hq) (qw)) hq (qo rfl) (by simp [P.flat,P.cellsOf,RT]) (zjq a0 a1) (zjp a0 a1 hp)
theorem ze6 (hq:qm (cfg sp)):qba XK szK (cfg sp) 15 zie:=by
 intro ns pre r h hp
 unfold zie at h
 dsimp only at h
 split at h
 .cases h
  exact ⟨_,rfl,zjo hq _ _ hp,qz rfl⟩
 .cases h
theorem qz0 (hq:qm (cfg sp)) (hf8:qba XK szK (cfg sp) 8 ct8) (a0:ZB) (a1:List Page) (a2:Int) (hp:(ln a0<=9223372036854775807/\ln a1<=9223372036854775807/\(∀ p ∈ a1,ln p.Staves<=9223372036854775807/\∀ s ∈ p.Staves,ln s.Signs<=9223372036854775807)/\I64 a2)):qaa XK szK (cfg sp) 4 [.agg [.str (a0),.list 8 (a1) none],.int .i64 none (a2)] (qnj a0 a1 a2):=
 ja kx zo (qd (ze5 hq) (qd hf8 (qd (ze6 hq) (qd (qpg hq) (qd (qph hq) (qd (ze7 hq) (qd (ze8 hq) (qd (ze4 hq) (qd (ze9 hq) (qd (zfa hq) (qd (zfb hq) (qd (zfc hq) (qd (zfd hq) (qd (zfe hq) (qd (zff hq) (qd (zfg hq) (qd (ze3 hq) (qw)))))))))))))))))) hq (qo rfl) (by simp [P.flat,P.cellsOf,RT]) (qz2 a0 a1 a2) (qz1 a0 a1 a2 hp)
end Go.Proofs.YtlkfjinaiepocaaDoor
