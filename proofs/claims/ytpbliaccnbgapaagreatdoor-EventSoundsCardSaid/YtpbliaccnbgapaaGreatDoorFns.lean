import Derived.Test.YtpbliaccnbgapaaGreatDoorOks
namespace Go.Proofs.YtpbliaccnbgapaaGreatDoor
open Go Go.E2 Go.E3
set_option maxRecDepth 100000
variable {sp:Nat->Option (List V->Heap->Option (CR×Heap))}
theorem quy (hq:za (cfg sp)):qbk XK szK (cfg sp) 163 q36:=by
 intro ns pre r h hp
 unfold q36 at h
 dsimp only at h
 split at h
 .cases h
  exact ⟨_,rfl,zc0 ku hq (f:=163) rfl (by kernel_rfl) _ _,zo rfl⟩
 .cases h
theorem zf0 (hq:za (cfg sp)):qbk XK szK (cfg sp) 161 zfz:=by
 intro ns pre r h hp
 unfold zfz at h
 dsimp only at h
 split at h
 .cases h
  exact ⟨_,rfl,zcg ku hq (f:=161) rfl (by kernel_rfl) _ _,zo rfl⟩
 .cases h
theorem q38 (hq:za (cfg sp)):∀ (m:Nat) (a0 a1:Int),Int.toNat a1=m->(0<=a0/\0<=a1/\a0<=4611686018427387904/\a1<=4611686018427387904)->qau XK szK (cfg sp) 97 [.int .i64 none a0,.int .i64 none a1] (qlh a0 a1):=by
 intro m
 induction m using Nat.strongRecOn with
 | _ m ih=>
  intro a0 a1 hm hp
  have hc:qbk XK szK (cfg sp) 97 (zf2 a0 a1):=by
   intro ns pre r h hp2
   unfold zf2 at h
   dsimp only at h
   split at h
   .cases h
    exact ⟨_,rfl,ih _ (by rw [<-hm];exact hp2.2) _ _ rfl hp2.1,zo rfl⟩
   .cases h
  exact qaw qal ku (qk hc zl) hq (zg rfl) (by simp [P.flat,P.cellsOf,RT]) (q7u a0 a1) (q7t a0 a1 hp)
theorem q7s (hq:za (cfg sp)) (a0 a1:Int) (hp:(0<=a0/\0<=a1/\a0<=4611686018427387904/\a1<=4611686018427387904)):qau XK szK (cfg sp) 97 [.int .i64 none a0,.int .i64 none a1] (qlh a0 a1):=q38 hq _ a0 a1 rfl hp
theorem q9w (hq:za (cfg sp)):qbk XK szK (cfg sp) 97 zkp:=by
 intro ns pre r h hp
 unfold zkp at h
 dsimp only at h
 split at h
 .cases h
  exact ⟨_,rfl,q7s hq _ _ hp,zo rfl⟩
 .cases h
theorem zk4 (hq:za (cfg sp)) (a0 a1:Int) (hp:(0<=a0/\0<=a1/\a0<=4611686018427387904/\a1<=4611686018427387904)):qau XK szK (cfg sp) 84 [.int .i64 none a0,.int .i64 none a1] (q4v a0 a1):=
 qaw qal ku zl hq (zg rfl) (by simp [P.flat,P.cellsOf,RT]) (zk6 a0 a1) (zk5 a0 a1 hp)
theorem q9v (hq:za (cfg sp)):qbk XK szK (cfg sp) 84 zko:=by
 intro ns pre r h hp
 unfold zko at h
 dsimp only at h
 split at h
 .cases h
  exact ⟨_,rfl,zk4 hq _ _ hp,zo rfl⟩
 .cases h
theorem zbg (hq:za (cfg sp)) (a0 a1:Int):qau XK szK (cfg sp) 59 [.agg [.int .i64 none a0,.int .i64 none a1]] (qtv a0 a1):=
 qaw qal ku (qk (q9w hq) zl) hq (zg rfl) (by simp [P.flat,P.cellsOf,RT]) (zbi a0 a1) (zbh a0 a1 )
theorem qti (hq:za (cfg sp)):qbk XK szK (cfg sp) 59 zch:=by
 intro ns pre r h hp
 unfold zch at h
 dsimp only at h
 split at h
 .cases h
  exact ⟨_,rfl,zbg hq _ _,zo rfl⟩
 .cases h
theorem zbd (hq:za (cfg sp)) (a0 a1:Int):qau XK szK (cfg sp) 66 [.agg [.int .i64 none a0,.int .i64 none a1]] (qtu a0 a1):=
 qaw qal ku (qk (q9v hq) zl) hq (zg rfl) (by simp [P.flat,P.cellsOf,RT]) (zbf a0 a1) (zbe a0 a1 )
theorem zkh (hq:za (cfg sp)):qbk XK szK (cfg sp) 66 znx:=by
 intro ns pre r h hp
 unfold znx at h
 dsimp only at h
 split at h
 .cases h
  exact ⟨_,rfl,zbd hq _ _,zo rfl⟩
 .cases h
theorem zcr (hq:za (cfg sp)) (a0:List Time) (hp:(ln a0<=1000000000)):qau XK szK (cfg sp) 76 [.list 9 a0 none] (qvw a0):=
 qaw qal ku (qk (qti hq) zl) hq (zg rfl) (by simp [P.flat,P.cellsOf,RT]) (zct a0) (zcs a0 hp)
theorem q9u (hq:za (cfg sp)):qbk XK szK (cfg sp) 76 zkm:=by
 intro ns pre r h hp
 unfold zkm at h
 dsimp only at h
 split at h
 .cases h
  exact ⟨_,rfl,zcr hq _ hp,zo rfl⟩
 .cases h
theorem zer (hq:za (cfg sp)) (a0 a1:Int) (hp:(0<=a0/\1<=a1/\a0<=4611686018427387904/\a1<=4611686018427387904)):qau XK szK (cfg sp) 77 [.int .i64 none a0,.int .i64 none a1] (qyg a0 a1):=
 qaw qal ku (qk (q9w hq) zl) hq (zg rfl) (by simp [P.flat,P.cellsOf,RT]) (zet a0 a1) (zes a0 a1 hp)
theorem zkn (hq:za (cfg sp)):qbk XK szK (cfg sp) 77 zn3:=by
 intro ns pre r h hp
 unfold zn3 at h
 dsimp only at h
 split at h
 .cases h
  exact ⟨_,rfl,zer hq _ _ hp,zo rfl⟩
 .cases h
theorem zjc (hq:za (cfg sp)) (a0 a1 a2 a3:Int):qau XK szK (cfg sp) 36 [.agg [.int .i64 none a0,.int .i64 none a1],.agg [.int .i64 none a2,.int .i64 none a3]] (q3a a0 a1 a2 a3):=
 qaw qal ku (qk (q9u hq) (qk (zkn hq) zl)) hq (zg rfl) (by simp [P.flat,P.cellsOf,RT]) (zje a0 a1 a2 a3) (zjd a0 a1 a2 a3 )
theorem q09 (hq:za (cfg sp)):qbk XK szK (cfg sp) 36 zf1:=by
 intro ns pre r h hp
 unfold zf1 at h
 dsimp only at h
 split at h
 .cases h
  exact ⟨_,rfl,zjc hq _ _ _ _,zo rfl⟩
 .cases h
theorem zba (hq:za (cfg sp)) (a0 a1 a2:Int):qau XK szK (cfg sp) 61 [.agg [.int .i64 none a0,.int .i64 none a1,.int .i64 none a2]] (qtt a0 a1 a2):=
 qaw qal ku zl hq (zg rfl) (by simp [P.flat,P.cellsOf,RT]) (zbc a0 a1 a2) (zbb a0 a1 a2 )
theorem q9t (hq:za (cfg sp)):qbk XK szK (cfg sp) 61 zkg:=by
 intro ns pre r h hp
 unfold zkg at h
 dsimp only at h
 split at h
 .cases h
  exact ⟨_,rfl,zba hq _ _ _,zo rfl⟩
 .cases h
theorem zlu (hq:za (cfg sp)) (a0 a1 a2 a3 a4 a5 a6:Int) (a7:Bool) (a8 a9:Int):qau XK szK (cfg sp) 58 [.agg [.int .i64 none a0,.int .i64 none a1,.int .i64 none a2,.int .i64 none a3,.int .i64 none a4,.int .i64 none a5,.int .i64 none a6,.sb 0 false a7 (a7=true) (a7=false),.int .i64 none a8,.int .i64 none a9]] (q5n a0 a1 a2 a3 a4 a5 a6 a7 a8 a9):=
 qaw qal ku (qk (qti hq) (qk (q9t hq) zl)) hq (zg rfl) (by simp [P.flat,P.cellsOf,RT]) (zlw a0 a1 a2 a3 a4 a5 a6 a7 a8 a9) (zlv a0 a1 a2 a3 a4 a5 a6 a7 a8 a9 )
theorem zkf (hq:za (cfg sp)):qbk XK szK (cfg sp) 58 znw:=by
 intro ns pre r h hp
 unfold znw at h
 dsimp only at h
 split at h
 .cases h
  exact ⟨_,rfl,zlu hq _ _ _ _ _ _ _ _ _ _,zo rfl⟩
 .cases h
theorem za7 (hq:za (cfg sp)) (a0:List Event) (hp:(ln a0<=1000000000)):qau XK szK (cfg sp) 22 [.list 11 a0 none] (qts a0):=
 qaw qal ku (qk (zkf hq) (qk (q09 hq) zl)) hq (zg rfl) (by simp [P.flat,P.cellsOf,RT]) (za9 a0) (za8 a0 hp)
theorem q9r (hq:za (cfg sp)):qbk XK szK (cfg sp) 22 zj6:=by
 intro ns pre r h hp
 unfold zj6 at h
 dsimp only at h
 split at h
 .cases h
  exact ⟨_,rfl,za7 hq _ hp,zo rfl⟩
 .cases h
theorem q3b (hq:za (cfg sp)) (a0 a1 a2 a3:Int):qau XK szK (cfg sp) 47 [.agg [.int .i64 none a0,.int .i64 none a1],.agg [.int .i64 none a2,.int .i64 none a3]] (qot a0 a1 a2 a3):=
 qaw qal ku (qk (q9u hq) zl) hq (zg rfl) (by simp [P.flat,P.cellsOf,RT]) (q3d a0 a1 a2 a3) (q3c a0 a1 a2 a3 )
theorem q9s (hq:za (cfg sp)):qbk XK szK (cfg sp) 47 zkc:=by
 intro ns pre r h hp
 unfold zkc at h
 dsimp only at h
 split at h
 .cases h
  exact ⟨_,rfl,q3b hq _ _ _ _,zo rfl⟩
 .cases h
theorem zna (hq:za (cfg sp)) (a0 a1 a2 a3 a4 a5 a6:Int) (a7:Bool) (a8 a9 a10 a11:Int):qau XK szK (cfg sp) 49 [.agg [.int .i64 none a0,.int .i64 none a1,.int .i64 none a2,.int .i64 none a3,.int .i64 none a4,.int .i64 none a5,.int .i64 none a6,.sb 0 false a7 (a7=true) (a7=false),.int .i64 none a8,.int .i64 none a9],.agg [.int .i64 none a10,.int .i64 none a11]] (q9b a0 a1 a2 a3 a4 a5 a6 a7 a8 a9 a10 a11):=
 qaw qal ku (qk (q9s hq) zl) hq (zg rfl) (by simp [P.flat,P.cellsOf,RT]) (znc a0 a1 a2 a3 a4 a5 a6 a7 a8 a9 a10 a11) (znb a0 a1 a2 a3 a4 a5 a6 a7 a8 a9 a10 a11 )
theorem zkd (hq:za (cfg sp)):qbk XK szK (cfg sp) 49 znu:=by
 intro ns pre r h hp
 unfold znu at h
 dsimp only at h
 split at h
 .cases h
  exact ⟨_,rfl,zna hq _ _ _ _ _ _ _ _ _ _ _ _,zo rfl⟩
 .cases h
theorem zjh (hq:za (cfg sp)) (a0:List Event) (hp:(ln a0<=1000000000)):qau XK szK (cfg sp) 41 [.list 11 a0 none] (q3f a0):=
 qaw qal ku (qk (q9r hq) (qk (q09 hq) zl)) hq (zg rfl) (by simp [P.flat,P.cellsOf,RT]) (zjj a0) (zji a0 hp)
theorem zkb (hq:za (cfg sp)):qbk XK szK (cfg sp) 41 znt:=by
 intro ns pre r h hp
 unfold znt at h
 dsimp only at h
 split at h
 .cases h
  exact ⟨_,rfl,zjh hq _ hp,zo rfl⟩
 .cases h
theorem znd (hq:za (cfg sp)) (a0:List Event) (a1 a2:Int) (hp:(ln a0<=1000000000)):qau XK szK (cfg sp) 14 [.list 11 a0 none,.agg [.int .i64 none a1,.int .i64 none a2]] (q9c a0 a1 a2):=
 qaw qal ku (qk (zkb hq) (qk (q9s hq) (qk (zkd hq) zl))) hq (zg rfl) (by simp [P.flat,P.cellsOf,RT]) (znf a0 a1 a2) (zne a0 a1 a2 hp)
theorem zj1 (hq:za (cfg sp)):qbk XK szK (cfg sp) 14 znn:=by
 intro ns pre r h hp
 unfold znn at h
 dsimp only at h
 split at h
 .cases h
  exact ⟨_,rfl,znd hq _ _ _ hp,zo rfl⟩
 .cases h
theorem zed (hq:za (cfg sp)) (a0 a1 a2 a3:Int) (hp:((0:Int)<=a0/\(a0:Int)<=1099511627776/\(1:Int)<=a1/\(a1:Int)<=1048576/\(0:Int)<=a2/\(a2:Int)<=1099511627776/\(1:Int)<=a3/\(a3:Int)<=1048576/\(a0:Int) * a2<=1000000)):qau XK szK (cfg sp) 51 [.int .i64 none a0,.int .i64 none a1,.int .i64 none a2,.int .i64 none a3] (qxd a0 a1 a2 a3):=
 qaw qal ku (qk (q9v hq) zl) hq (zg rfl) (by simp [P.flat,P.cellsOf,RT]) (zef a0 a1 a2 a3) (zee a0 a1 a2 a3 hp)
theorem zke (hq:za (cfg sp)):qbk XK szK (cfg sp) 51 znv:=by
 intro ns pre r h hp
 unfold znv at h
 dsimp only at h
 split at h
 .cases h
  exact ⟨_,rfl,zed hq _ _ _ _ hp,zo rfl⟩
 .cases h
theorem zjo (hq:za (cfg sp)) (a0 a1 a2 a3:Int) (hp:(qe a0 a1=0/\qe a2 a3=0/\(a0:Int) * a2<=1000000)):qau XK szK (cfg sp) 15 [.agg [.int .i64 none a0,.int .i64 none a1],.agg [.int .i64 none a2,.int .i64 none a3]] (q3j a0 a1 a2 a3):=
 qaw qal ku (qk (zkh hq) (qk (zke hq) zl)) hq (zg rfl) (by simp [P.flat,P.cellsOf,RT]) (zjq a0 a1 a2 a3) (zjp a0 a1 a2 a3 hp)
theorem zj2 (hq:za (cfg sp)):qbk XK szK (cfg sp) 15 zno:=by
 intro ns pre r h hp
 unfold zno at h
 dsimp only at h
 split at h
 .cases h
  exact ⟨_,rfl,zjo hq _ _ _ _ hp,zo rfl⟩
 .cases h
theorem zjl (hq:za (cfg sp)) (a0 a1:Int) (hp:((1:Int)<=a1/\(a1:Int)<=1000000/\(-9223372036854775808:Int)<=a0/\(a0:Int)<=9223372036854775807)):qau XK szK (cfg sp) 17 [.int .i64 none a0,.int .i64 none a1] (q3i a0 a1):=
 qaw qal ku zl hq (zg rfl) (by simp [P.flat,P.cellsOf,RT]) (zjn a0 a1) (zjm a0 a1 hp)
theorem q9p (hq:za (cfg sp)):qbk XK szK (cfg sp) 17 zj4:=by
 intro ns pre r h hp
 unfold zj4 at h
 dsimp only at h
 split at h
 .cases h
  exact ⟨_,rfl,zjl hq _ _ hp,zo rfl⟩
 .cases h
theorem zp4 (hq:za (cfg sp)) (a0 a1:Int) (hp:((0:Int)<=a0/\(a0:Int)<=1000000000000/\(1:Int)<=a1/\(a1:Int)<=1000000000000)):qau XK szK (cfg sp) 16 [.int .i64 none a0,.int .i64 none a1] (ze7 a0 a1):=
 qaw qal ku zl hq (zg rfl) (by simp [P.flat,P.cellsOf,RT]) (zp6 a0 a1) (zp5 a0 a1 hp)
theorem q9o (hq:za (cfg sp)):qbk XK szK (cfg sp) 16 zj3:=by
 intro ns pre r h hp
 unfold zj3 at h
 dsimp only at h
 split at h
 .cases h
  exact ⟨_,rfl,zp4 hq _ _ hp,zo rfl⟩
 .cases h
theorem zew (hq:za (cfg sp)) (a0 a1 a2 a3:Int) (hp:((0:Int)<=a0/\(a0:Int)<=100000/\(1:Int)<=a1/\(a1:Int)<=100000/\(0:Int)<=a2/\(a2:Int)<=100000/\(1:Int)<=a3/\(a3:Int)<=100000)):qau XK szK (cfg sp) 18 [.agg [.int .i64 none a0,.int .i64 none a1],.agg [.int .i64 none a2,.int .i64 none a3]] (qyj a0 a1 a2 a3):=
 qaw qal ku (qk (q9o hq) zl) hq (zg rfl) (by simp [P.flat,P.cellsOf,RT]) (zey a0 a1 a2 a3) (zex a0 a1 a2 a3 hp)
theorem q9q (hq:za (cfg sp)):qbk XK szK (cfg sp) 18 zj5:=by
 intro ns pre r h hp
 unfold zj5 at h
 dsimp only at h
 split at h
 .cases h
  exact ⟨_,rfl,zew hq _ _ _ _ hp,zo rfl⟩
 .cases h
theorem zb1 (hq:za (cfg sp)) (a0:List Int) (a1:Int) (hp:(ln a0<=9223372036854775807/\(0:Int)<=a1/\(a1:Int)<=20/\∀ x ∈ a0,I64 x)):qau XK szK (cfg sp) 13 [.list 1 a0 none,.int .i64 none a1] (qt5 a0 a1):=
 qaw qal ku (qk (q9p hq) (qk (q9q hq) zl)) hq (zg rfl) (by simp [P.flat,P.cellsOf,RT]) (zb3 a0 a1) (zb2 a0 a1 hp)
theorem zj0 (hq:za (cfg sp)):qbk XK szK (cfg sp) 13 znm:=by
 intro ns pre r h hp
 unfold znm at h
 dsimp only at h
 split at h
 .cases h
  exact ⟨_,rfl,zb1 hq _ _ hp,zo rfl⟩
 .cases h
theorem zfb (hq:za (cfg sp)) (hf26:qbk XK szK (cfg sp) 26 q08) (a0 a1:Int):qau XK szK (cfg sp) 23 [.agg [.int .i64 none a0,.int .i64 none a1]] (qyq a0 a1):=
 qaw qal ku (qk (qti hq) (qk hf26 zl)) hq (zg rfl) (by simp [P.flat,P.cellsOf,RT]) (zfd a0 a1) (zfc a0 a1 )
theorem zj7 (hq:za (cfg sp)) (hf26:qbk XK szK (cfg sp) 26 q08):qbk XK szK (cfg sp) 23 znp:=by
 intro ns pre r h hp
 unfold znp at h
 dsimp only at h
 split at h
 .cases h
  exact ⟨_,rfl,zfb hq hf26 _ _,zo rfl⟩
 .cases h
theorem q8b (hq:za (cfg sp)) (a0:ZB) (hp:(ln a0<=1000)):qau XK szK (cfg sp) 108 [.str a0] (qsp a0):=
 qaw qal ku zl hq (zg rfl) (by simp [P.flat,P.cellsOf,RT]) (q8d a0) (q8c a0 hp)
theorem zfy (hq:za (cfg sp)):qbk XK szK (cfg sp) 108 zfx:=by
 intro ns pre r h hp
 unfold zfx at h
 dsimp only at h
 split at h
 .cases h
  exact ⟨_,rfl,q8b hq _ hp,zo rfl⟩
 .cases h
theorem zbq (hq:za (cfg sp)) (a0:ZB) (hp:(ln a0<=1000)):qau XK szK (cfg sp) 74 [.str a0] (qty a0):=
 qaw qal ku (qk (zfy hq) (qk (qti hq) zl)) hq (zg rfl) (by simp [P.flat,P.cellsOf,RT]) (zbs a0) (zbr a0 hp)
theorem zkk (hq:za (cfg sp)):qbk XK szK (cfg sp) 74 zn1:=by
 intro ns pre r h hp
 unfold zn1 at h
 dsimp only at h
 split at h
 .cases h
  exact ⟨_,rfl,zbq hq _ hp,zo rfl⟩
 .cases h
theorem zbx (hq:za (cfg sp)) (a0 a1 a2:Int):qau XK szK (cfg sp) 25 [.agg [.int .i64 none a0,.int .i64 none a1,.int .i64 none a2]] (qt4 a0 a1 a2):=
 qaw qal ku (qk (q9t hq) zl) hq (zg rfl) (by simp [P.flat,P.cellsOf,RT]) (zbz a0 a1 a2) (zby a0 a1 a2 )
theorem zj8 (hq:za (cfg sp)):qbk XK szK (cfg sp) 25 znq:=by
 intro ns pre r h hp
 unfold znq at h
 dsimp only at h
 split at h
 .cases h
  exact ⟨_,rfl,zbx hq _ _ _,zo rfl⟩
 .cases h
theorem zbn (hq:za (cfg sp)) (a0:ZB) (hp:(ln a0<=1000)):qau XK szK (cfg sp) 73 [.str a0] (qtx a0):=
 qaw qal ku (qk (quy hq) zl) hq (zg rfl) (by simp [P.flat,P.cellsOf,RT]) (zbp a0) (zbo a0 hp)
theorem zkj (hq:za (cfg sp)):qbk XK szK (cfg sp) 73 zn0:=by
 intro ns pre r h hp
 unfold zn0 at h
 dsimp only at h
 split at h
 .cases h
  exact ⟨_,rfl,zbn hq _ hp,zo rfl⟩
 .cases h
theorem q63 (hq:za (cfg sp)) (a0:ZB) (hp:(ln a0<=1000)):qau XK szK (cfg sp) 75 [.str a0] (qrz a0):=
 qaw qal ku zl hq (zg rfl) (by simp [P.flat,P.cellsOf,RT]) (q65 a0) (q64 a0 hp)
theorem zkl (hq:za (cfg sp)):qbk XK szK (cfg sp) 75 zn2:=by
 intro ns pre r h hp
 unfold zn2 at h
 dsimp only at h
 split at h
 .cases h
  exact ⟨_,rfl,q63 hq _ hp,zo rfl⟩
 .cases h
theorem ze8 (hq:za (cfg sp)) (hf26:qbk XK szK (cfg sp) 26 q08) (a0:List Event) (hp:(q43 a0)):qau XK szK (cfg sp) 6 [.list 11 a0 none] (qyo a0):=
 qaw qal ku (qk (q9r hq) (qk (zj7 hq hf26) (qk (zj8 hq) (qk hf26 zl)))) hq (zg rfl) (by simp [P.flat,P.cellsOf,RT]) (zfa a0) (ze9 a0 hp)
theorem znz (hq:za (cfg sp)) (hf26:qbk XK szK (cfg sp) 26 q08):qbk XK szK (cfg sp) 6 ct6:=by
 intro ns pre r h hp
 unfold ct6 at h
 dsimp only at h
 split at h
 .cases h
  exact ⟨_,rfl,ze8 hq hf26 _ hp,zo rfl⟩
 .cases h
theorem zfo (hq:za (cfg sp)) (a0:Int) (hp:(U8 a0)):qau XK szK (cfg sp) 102 [.int .u8 none a0] (qy0 a0):=
 qaw qal ku zl hq (zg rfl) (by simp [P.flat,P.cellsOf,RT]) (zfq a0) (zfp a0 hp)
theorem q35 (hq:za (cfg sp)):qbk XK szK (cfg sp) 102 q9n:=by
 intro ns pre r h hp
 unfold q9n at h
 dsimp only at h
 split at h
 .cases h
  exact ⟨_,rfl,zfo hq _ hp,zo rfl⟩
 .cases h
theorem zdv (hq:za (cfg sp)) (a0:ZB) (hp:(ln a0<=1000000000)):qau XK szK (cfg sp) 104 [.str a0] (qwu a0):=
 qaw qal ku (qk (q35 hq) zl) hq (zg rfl) (by simp [P.flat,P.cellsOf,RT]) (zdx a0) (zdw a0 hp)
theorem zfw (hq:za (cfg sp)):qbk XK szK (cfg sp) 104 zfv:=by
 intro ns pre r h hp
 unfold zfv at h
 dsimp only at h
 split at h
 .cases h
  exact ⟨_,rfl,zdv hq _ hp,zo rfl⟩
 .cases h
theorem q4w (hq:za (cfg sp)) (a0 a1:ZB) (a2 a3:Int) (hp:(ln a1=1/\(a2:Int)=0/\(a3:Int) = -1/\ln a0<=100000000)):qau XK szK (cfg sp) 100 [.str a0,.str a1,.int .i64 none a2,.int .i64 none a3] (qpm a0 a1 a2 a3):=
 qaw qal ku (qk (zf0 hq) (qk (quy hq) zl)) hq (zg rfl) (by simp [P.flat,P.cellsOf,RT]) (q4y a0 a1 a2 a3) (q4x a0 a1 a2 a3 hp)
theorem zfu (hq:za (cfg sp)):qbk XK szK (cfg sp) 100 zft:=by
 intro ns pre r h hp
 unfold zft at h
 dsimp only at h
 split at h
 .cases h
  exact ⟨_,rfl,q4w hq _ _ _ _ hp,zo rfl⟩
 .cases h
theorem ze4 (hq:za (cfg sp)) (a0 a1:ZB) (hp:(ln a1=1/\ln a0<=100000000)):qau XK szK (cfg sp) 69 [.str a0,.str a1] (qyn a0 a1):=
 qaw qal ku (qk (zfu hq) zl) hq (zg rfl) (by simp [P.flat,P.cellsOf,RT]) (ze6 a0 a1) (ze5 a0 a1 hp)
theorem zki (hq:za (cfg sp)):qbk XK szK (cfg sp) 69 zny:=by
 intro ns pre r h hp
 unfold zny at h
 dsimp only at h
 split at h
 .cases h
  exact ⟨_,rfl,ze4 hq _ _ hp,zo rfl⟩
 .cases h
theorem ze1 (hq:za (cfg sp)) (a0:ZB):qau XK szK (cfg sp) 33 [.str a0] (qym a0):=
 qaw qal ku (qk (zki hq) (qk (q35 hq) (qk (quy hq) (qk (zfw hq) zl)))) hq (zg rfl) (by simp [P.flat,P.cellsOf,RT]) (ze3 a0) (ze2 a0 )
theorem zj9 (hq:za (cfg sp)):qbk XK szK (cfg sp) 33 znr:=by
 intro ns pre r h hp
 unfold znr at h
 dsimp only at h
 split at h
 .cases h
  exact ⟨_,rfl,ze1 hq _,zo rfl⟩
 .cases h
theorem zme (hq:za (cfg sp)) (a0:List Word) (hp:(qp8 a0)):qau XK szK (cfg sp) 35 [.list 5 a0 none] (q53 a0):=
 qaw qal ku (qk (zkj hq) (qk (zkk hq) (qk (zkl hq) zl))) hq (zg rfl) (by simp [P.flat,P.cellsOf,RT]) (zmg a0) (zmf a0 hp)
theorem zka (hq:za (cfg sp)):qbk XK szK (cfg sp) 35 zns:=by
 intro ns pre r h hp
 unfold zns at h
 dsimp only at h
 split at h
 .cases h
  exact ⟨_,rfl,zme hq _ hp,zo rfl⟩
 .cases h
theorem zbk (hq:za (cfg sp)) (a0:ZB) (hp:(ln a0<=1000000000)):qau XK szK (cfg sp) 9 [.str a0] (qtw a0):=
 qaw qal ku (qk (zj9 hq) (qk (zka hq) (qk (q09 hq) zl))) hq (zg rfl) (by simp [P.flat,P.cellsOf,RT]) (zbm a0) (zbl a0 hp)
theorem zn4 (hq:za (cfg sp)):qbk XK szK (cfg sp) 9 ct9:=by
 intro ns pre r h hp
 unfold ct9 at h
 dsimp only at h
 split at h
 .cases h
  exact ⟨_,rfl,zbk hq _ hp,zo rfl⟩
 .cases h
theorem qxn (hq:za (cfg sp)) (a0 a1:List Event) (hp:(ln a0<=1000000000)):qau XK szK (cfg sp) 11 [.list 11 a0 none,.list 11 a1 none] (qk3 a0 a1):=
 qaw qal ku zl hq (zg rfl) (by simp [P.flat,P.cellsOf,RT]) (qxp a0 a1) (qxo a0 a1 hp)
theorem zjy (hq:za (cfg sp)):qbk XK szK (cfg sp) 11 znl:=by
 intro ns pre r h hp
 unfold znl at h
 dsimp only at h
 split at h
 .cases h
  exact ⟨_,rfl,qxn hq _ _ hp,zo rfl⟩
 .cases h
theorem q15 (hq:za (cfg sp)) (hf12:qbk XK szK (cfg sp) 12 zjz) (hf26:qbk XK szK (cfg sp) 26 q08) (a0:List Int) (a1:Int) (hp:(ln a0<=9223372036854775807/\(-9223372036854775808:Int)<=a1/\(a1:Int)<=9223372036854775807/\∀ x ∈ a0,I64 x)):qau XK szK (cfg sp) 4 [.list 1 a0 none,.int .i64 none a1] (qnd a0 a1):=
 qaw qal ku (qk hf12 (qk (zj0 hq) (qk (zj1 hq) (qk (q9p hq) (qk (q9o hq) (qk (zj2 hq) (qk (q9q hq) (qk (znz hq hf26) (qk (zn4 hq) (qk (zjy hq) zl)))))))))) hq (zg rfl) (by simp [P.flat,P.cellsOf,RT]) (q17 a0 a1) (q16 a0 a1 hp)
end Go.Proofs.YtpbliaccnbgapaaGreatDoor
