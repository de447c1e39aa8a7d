import Derived.Test.YtpbliaccnbgapaaGreatDoorOks
namespace Go.Proofs.YtpbliaccnbgapaaGreatDoor
open Go Go.E2 Go.E3
set_option maxRecDepth 100000
variable {sp:Nat->Option (List V->Heap->Option (CR×Heap))}
theorem qu8 (hq:qm (cfg sp)):j8 XK szK (cfg sp) 163 q3w:=by
 intro ns pre r h hp
 unfold q3w at h
 dsimp only at h
 split at h
 .cases h
  exact ⟨_,rfl,zdo zq hq (f:=163) rfl (by kernel_rfl) _ _,zd rfl⟩
 .cases h
theorem zgm (hq:qm (cfg sp)):j8 XK szK (cfg sp) 161 zgl:=by
 intro ns pre r h hp
 unfold zgl at h
 dsimp only at h
 split at h
 .cases h
  exact ⟨_,rfl,zc6 zq hq (f:=161) rfl (by kernel_rfl) _ _,zd rfl⟩
 .cases h
theorem q32 (hq:qm (cfg sp)):∀ (m:Nat) (a0 a1:Int),Int.toNat a1=m->(0<=a0/\0<=a1/\a0<=4611686018427387904/\a1<=4611686018427387904)->jm XK szK (cfg sp) 97 [.int .i64 none a0,.int .i64 none a1] (qlq a0 a1):=by
 intro m
 induction m using Nat.strongRecOn with
 | _ m ih=>
  intro a0 a1 hm hp
  have hc:j8 XK szK (cfg sp) 97 (zgr a0 a1):=by
   intro ns pre r h hp2
   unfold zgr at h
   dsimp only at h
   split at h
   .cases h
    exact ⟨_,rfl,ih _ (by rw [<-hm];exact hp2.2) _ _ rfl hp2.1,zd rfl⟩
   .cases h
  exact jk jc zq (qh hc qz) hq (qu rfl) (by simp [P.flat,P.cellsOf,RT]) (q8f a0 a1) (q8e a0 a1 hp)
theorem q8d (hq:qm (cfg sp)) (a0 a1:Int) (hp:(0<=a0/\0<=a1/\a0<=4611686018427387904/\a1<=4611686018427387904)):jm XK szK (cfg sp) 97 [.int .i64 none a0,.int .i64 none a1] (qlq a0 a1):=q32 hq _ a0 a1 rfl hp
theorem zah (hq:qm (cfg sp)):j8 XK szK (cfg sp) 97 zkr:=by
 intro ns pre r h hp
 unfold zkr at h
 dsimp only at h
 split at h
 .cases h
  exact ⟨_,rfl,q8d hq _ _ hp,zd rfl⟩
 .cases h
theorem zk7 (hq:qm (cfg sp)) (a0 a1:Int) (hp:(0<=a0/\0<=a1/\a0<=4611686018427387904/\a1<=4611686018427387904)):jm XK szK (cfg sp) 84 [.int .i64 none a0,.int .i64 none a1] (q4q a0 a1):=
 jk jc zq qz hq (qu rfl) (by simp [P.flat,P.cellsOf,RT]) (zk9 a0 a1) (zk8 a0 a1 hp)
theorem q08 (hq:qm (cfg sp)):j8 XK szK (cfg sp) 84 zgp:=by
 intro ns pre r h hp
 unfold zgp at h
 dsimp only at h
 split at h
 .cases h
  exact ⟨_,rfl,zk7 hq _ _ hp,zd rfl⟩
 .cases h
theorem zb0 (hq:qm (cfg sp)) (a0 a1:Int):jm XK szK (cfg sp) 59 [.agg [.int .i64 none a0,.int .i64 none a1]] (qt2 a0 a1):=
 jk jc zq (qh (zah hq) qz) hq (qu rfl) (by simp [P.flat,P.cellsOf,RT]) (zb2 a0 a1) (zb1 a0 a1 )
theorem qtn (hq:qm (cfg sp)):j8 XK szK (cfg sp) 59 zc7:=by
 intro ns pre r h hp
 unfold zc7 at h
 dsimp only at h
 split at h
 .cases h
  exact ⟨_,rfl,zb0 hq _ _,zd rfl⟩
 .cases h
theorem zbx (hq:qm (cfg sp)) (a0 a1:Int):jm XK szK (cfg sp) 66 [.agg [.int .i64 none a0,.int .i64 none a1]] (qt1 a0 a1):=
 jk jc zq (qh (q08 hq) qz) hq (qu rfl) (by simp [P.flat,P.cellsOf,RT]) (zbz a0 a1) (zby a0 a1 )
theorem q07 (hq:qm (cfg sp)):j8 XK szK (cfg sp) 66 zgo:=by
 intro ns pre r h hp
 unfold zgo at h
 dsimp only at h
 split at h
 .cases h
  exact ⟨_,rfl,zbx hq _ _,zd rfl⟩
 .cases h
theorem zdg (hq:qm (cfg sp)) (a0:List Time) (hp:(ln a0<=1000000000)):jm XK szK (cfg sp) 76 [.list 9 a0 none] (qvs a0):=
 jk jc zq (qh (qtn hq) qz) hq (qu rfl) (by simp [P.flat,P.cellsOf,RT]) (zdi a0) (zdh a0 hp)
theorem zkk (hq:qm (cfg sp)):j8 XK szK (cfg sp) 76 zn3:=by
 intro ns pre r h hp
 unfold zn3 at h
 dsimp only at h
 split at h
 .cases h
  exact ⟨_,rfl,zdg hq _ hp,zd rfl⟩
 .cases h
theorem ze4 (hq:qm (cfg sp)) (a0 a1:Int) (hp:(0<=a0/\1<=a1/\a0<=4611686018427387904/\a1<=4611686018427387904)):jm XK szK (cfg sp) 77 [.int .i64 none a0,.int .i64 none a1] (qyb a0 a1):=
 jk jc zq (qh (zah hq) qz) hq (qu rfl) (by simp [P.flat,P.cellsOf,RT]) (ze6 a0 a1) (ze5 a0 a1 hp)
theorem zkl (hq:qm (cfg sp)):j8 XK szK (cfg sp) 77 zn4:=by
 intro ns pre r h hp
 unfold zn4 at h
 dsimp only at h
 split at h
 .cases h
  exact ⟨_,rfl,ze4 hq _ _ hp,zd rfl⟩
 .cases h
theorem zov (hq:qm (cfg sp)) (a0 a1:Int) (hp:(0<=a0/\1<=a1/\a0<=4611686018427387904/\a1<=4611686018427387904)):jm XK szK (cfg sp) 82 [.int .i64 none a0,.int .i64 none a1] (za9 a0 a1):=
 jk jc zq (qh (q08 hq) qz) hq (qu rfl) (by simp [P.flat,P.cellsOf,RT]) (zow a0 a1) (zh1 a0 a1 hp)
theorem zkq (hq:qm (cfg sp)):j8 XK szK (cfg sp) 82 zoa:=by
 intro ns pre r h hp
 unfold zoa at h
 dsimp only at h
 split at h
 .cases h
  exact ⟨_,rfl,zov hq _ _ hp,zd rfl⟩
 .cases h
theorem zjo (hq:qm (cfg sp)) (a0 a1 a2 a3:Int):jm XK szK (cfg sp) 36 [.agg [.int .i64 none a0,.int .i64 none a1],.agg [.int .i64 none a2,.int .i64 none a3]] (q2x a0 a1 a2 a3):=
 jk jc zq (qh (zkk hq) (qh (zkl hq) qz)) hq (qu rfl) (by simp [P.flat,P.cellsOf,RT]) (zjq a0 a1 a2 a3) (zjp a0 a1 a2 a3 )
theorem zae (hq:qm (cfg sp)):j8 XK szK (cfg sp) 36 zj8:=by
 intro ns pre r h hp
 unfold zj8 at h
 dsimp only at h
 split at h
 .cases h
  exact ⟨_,rfl,zjo hq _ _ _ _,zd rfl⟩
 .cases h
theorem zjl (hq:qm (cfg sp)) (a0 a1 a2 a3:Int):jm XK szK (cfg sp) 39 [.agg [.int .i64 none a0,.int .i64 none a1],.agg [.int .i64 none a2,.int .i64 none a3]] (q2w a0 a1 a2 a3):=
 jk jc zq (qh (q07 hq) (qh (zkq hq) qz)) hq (qu rfl) (by simp [P.flat,P.cellsOf,RT]) (zjn a0 a1 a2 a3) (zjm a0 a1 a2 a3 )
theorem q06 (hq:qm (cfg sp)):j8 XK szK (cfg sp) 39 zgn:=by
 intro ns pre r h hp
 unfold zgn at h
 dsimp only at h
 split at h
 .cases h
  exact ⟨_,rfl,zjl hq _ _ _ _,zd rfl⟩
 .cases h
theorem zbu (hq:qm (cfg sp)) (a0 a1 a2:Int):jm XK szK (cfg sp) 61 [.agg [.int .i64 none a0,.int .i64 none a1,.int .i64 none a2]] (qt0 a0 a1 a2):=
 jk jc zq qz hq (qu rfl) (by simp [P.flat,P.cellsOf,RT]) (zbw a0 a1 a2) (zbv a0 a1 a2 )
theorem zaf (hq:qm (cfg sp)):j8 XK szK (cfg sp) 61 zkc:=by
 intro ns pre r h hp
 unfold zkc at h
 dsimp only at h
 split at h
 .cases h
  exact ⟨_,rfl,zbu hq _ _ _,zd rfl⟩
 .cases h
theorem q65 (hq:qm (cfg sp)) (a0 a1 a2:Int):jm XK szK (cfg sp) 68 [.agg [.int .i64 none a0,.int .i64 none a1,.int .i64 none a2]] (qrz a0 a1 a2):=
 jk jc zq qz hq (qu rfl) (by simp [P.flat,P.cellsOf,RT]) (q67 a0 a1 a2) (q66 a0 a1 a2 )
theorem zag (hq:qm (cfg sp)):j8 XK szK (cfg sp) 68 zkf:=by
 intro ns pre r h hp
 unfold zkf at h
 dsimp only at h
 split at h
 .cases h
  exact ⟨_,rfl,q65 hq _ _ _,zd rfl⟩
 .cases h
theorem zlu (hq:qm (cfg sp)) (a0 a1 a2 a3 a4 a5 a6:Int) (a7:Bool) (a8 a9:Int):jm XK szK (cfg sp) 58 [.agg [.int .i64 none a0,.int .i64 none a1,.int .i64 none a2,.int .i64 none a3,.int .i64 none a4,.int .i64 none a5,.int .i64 none a6,.sb 0 false a7 (a7=true) (a7=false),.int .i64 none a8,.int .i64 none a9]] (q5s a0 a1 a2 a3 a4 a5 a6 a7 a8 a9):=
 jk jc zq (qh (qtn hq) (qh (zaf hq) qz)) hq (qu rfl) (by simp [P.flat,P.cellsOf,RT]) (zlw a0 a1 a2 a3 a4 a5 a6 a7 a8 a9) (zlv a0 a1 a2 a3 a4 a5 a6 a7 a8 a9 )
theorem zkb (hq:qm (cfg sp)):j8 XK szK (cfg sp) 58 znv:=by
 intro ns pre r h hp
 unfold znv at h
 dsimp only at h
 split at h
 .cases h
  exact ⟨_,rfl,zlu hq _ _ _ _ _ _ _ _ _ _,zd rfl⟩
 .cases h
theorem zh2 (hq:qm (cfg sp)) (a0 a1 a2 a3 a4 a5 a6:Int) (a7:Bool) (a8 a9 a10 a11:Int):jm XK szK (cfg sp) 65 [.agg [.int .i64 none a0,.int .i64 none a1,.int .i64 none a2,.int .i64 none a3,.int .i64 none a4,.int .i64 none a5,.int .i64 none a6,.sb 0 false a7 (a7=true) (a7=false),.int .i64 none a8,.int .i64 none a9],.agg [.int .i64 none a10,.int .i64 none a11]] (qzt a0 a1 a2 a3 a4 a5 a6 a7 a8 a9 a10 a11):=
 jk jc zq (qh (q07 hq) (qh (zag hq) (qh (q06 hq) qz))) hq (qu rfl) (by simp [P.flat,P.cellsOf,RT]) (zh4 a0 a1 a2 a3 a4 a5 a6 a7 a8 a9 a10 a11) (zh3 a0 a1 a2 a3 a4 a5 a6 a7 a8 a9 a10 a11 )
theorem zkd (hq:qm (cfg sp)):j8 XK szK (cfg sp) 65 znw:=by
 intro ns pre r h hp
 unfold znw at h
 dsimp only at h
 split at h
 .cases h
  exact ⟨_,rfl,zh2 hq _ _ _ _ _ _ _ _ _ _ _ _,zd rfl⟩
 .cases h
theorem zbr (hq:qm (cfg sp)) (a0:List Event) (hp:(ln a0<=1000000000)):jm XK szK (cfg sp) 22 [.list 11 a0 none] (qtz a0):=
 jk jc zq (qh (zkb hq) (qh (zae hq) qz)) hq (qu rfl) (by simp [P.flat,P.cellsOf,RT]) (zbt a0) (zbs a0 hp)
theorem zjz (hq:qm (cfg sp)):j8 XK szK (cfg sp) 22 znl:=by
 intro ns pre r h hp
 unfold znl at h
 dsimp only at h
 split at h
 .cases h
  exact ⟨_,rfl,zbr hq _ hp,zd rfl⟩
 .cases h
theorem q61 (hq:qm (cfg sp)) (a0:List Event) (hp:(ln a0<=1000000000)):jm XK szK (cfg sp) 29 [.list 11 a0 none] (qry a0):=
 jk jc zq (qh (zkd hq) (qh (q06 hq) qz)) hq (qu rfl) (by simp [P.flat,P.cellsOf,RT]) (q63 a0) (q62 a0 hp)
theorem zj2 (hq:qm (cfg sp)):j8 XK szK (cfg sp) 29 zno:=by
 intro ns pre r h hp
 unfold zno at h
 dsimp only at h
 split at h
 .cases h
  exact ⟨_,rfl,q61 hq _ hp,zd rfl⟩
 .cases h
theorem q8a (hq:qm (cfg sp)) (a0:Int) (hp:((0:Int)<=a0/\(a0:Int)<=9223372036854775807)):jm XK szK (cfg sp) 67 [.int .i64 none a0] (qsb a0):=
 jk jc zq qz hq (qu rfl) (by simp [P.flat,P.cellsOf,RT]) (q8c a0) (q8b a0 hp)
theorem zke (hq:qm (cfg sp)):j8 XK szK (cfg sp) 67 znx:=by
 intro ns pre r h hp
 unfold znx at h
 dsimp only at h
 split at h
 .cases h
  exact ⟨_,rfl,q8a hq _ hp,zd rfl⟩
 .cases h
theorem q5k (hq:qm (cfg sp)):∀ (m:Nat) (a0:Int),Int.toNat a0=m->((0:Int)<=a0/\(a0:Int)<=9223372036854775807)->jm XK szK (cfg sp) 32 [.int .i64 none a0] (qmb a0):=by
 intro m
 induction m using Nat.strongRecOn with
 | _ m ih=>
  intro a0 hm hp
  have hc:j8 XK szK (cfg sp) 32 (zgq a0):=by
   intro ns pre r h hp2
   unfold zgq at h
   dsimp only at h
   split at h
   .cases h
    exact ⟨_,rfl,ih _ (by rw [<-hm];exact hp2.2) _ rfl hp2.1,zd rfl⟩
   .cases h
  exact jk jc zq (qh hc qz) hq (qu rfl) (by simp [P.flat,P.cellsOf,RT]) (q80 a0) (q8z a0 hp)
theorem q8y (hq:qm (cfg sp)) (a0:Int) (hp:((0:Int)<=a0/\(a0:Int)<=9223372036854775807)):jm XK szK (cfg sp) 32 [.int .i64 none a0] (qmb a0):=q5k hq _ a0 rfl hp
theorem zj5 (hq:qm (cfg sp)):j8 XK szK (cfg sp) 32 znq:=by
 intro ns pre r h hp
 unfold znq at h
 dsimp only at h
 split at h
 .cases h
  exact ⟨_,rfl,q8y hq _ hp,zd rfl⟩
 .cases h
theorem zfo (hq:qm (cfg sp)) (hf26:j8 XK szK (cfg sp) 26 q05) (a0 a1:Int):jm XK szK (cfg sp) 23 [.agg [.int .i64 none a0,.int .i64 none a1]] (qym a0 a1):=
 jk jc zq (qh (qtn hq) (qh hf26 qz)) hq (qu rfl) (by simp [P.flat,P.cellsOf,RT]) (zfp a0 a1) (q3d a0 a1 )
theorem zj0 (hq:qm (cfg sp)) (hf26:j8 XK szK (cfg sp) 26 q05):j8 XK szK (cfg sp) 23 znm:=by
 intro ns pre r h hp
 unfold znm at h
 dsimp only at h
 split at h
 .cases h
  exact ⟨_,rfl,zfo hq hf26 _ _,zd rfl⟩
 .cases h
theorem zfl (hq:qm (cfg sp)) (a0 a1:Int):jm XK szK (cfg sp) 30 [.agg [.int .i64 none a0,.int .i64 none a1]] (qyl a0 a1):=
 jk jc zq (qh (q07 hq) (qh (zke hq) qz)) hq (qu rfl) (by simp [P.flat,P.cellsOf,RT]) (zfn a0 a1) (zfm a0 a1 )
theorem zj3 (hq:qm (cfg sp)):j8 XK szK (cfg sp) 30 znp:=by
 intro ns pre r h hp
 unfold znp at h
 dsimp only at h
 split at h
 .cases h
  exact ⟨_,rfl,zfl hq _ _,zd rfl⟩
 .cases h
theorem q81 (hq:qm (cfg sp)) (a0:ZB) (hp:(ln a0<=1000)):jm XK szK (cfg sp) 108 [.str a0] (qsw a0):=
 jk jc zq qz hq (qu rfl) (by simp [P.flat,P.cellsOf,RT]) (q83 a0) (q82 a0 hp)
theorem zga (hq:qm (cfg sp)):j8 XK szK (cfg sp) 108 zf9:=by
 intro ns pre r h hp
 unfold zf9 at h
 dsimp only at h
 split at h
 .cases h
  exact ⟨_,rfl,q81 hq _ hp,zd rfl⟩
 .cases h
theorem zca (hq:qm (cfg sp)) (a0:ZB) (hp:(ln a0<=1000)):jm XK szK (cfg sp) 74 [.str a0] (qt7 a0):=
 jk jc zq (qh (zga hq) (qh (qtn hq) qz)) hq (qu rfl) (by simp [P.flat,P.cellsOf,RT]) (zcc a0) (zcb a0 hp)
theorem zki (hq:qm (cfg sp)):j8 XK szK (cfg sp) 74 zn1:=by
 intro ns pre r h hp
 unfold zn1 at h
 dsimp only at h
 split at h
 .cases h
  exact ⟨_,rfl,zca hq _ hp,zd rfl⟩
 .cases h
theorem q9d (hq:qm (cfg sp)) (a0:ZB) (hp:(ln a0<=1000)):jm XK szK (cfg sp) 112 [.str a0] (qsz a0):=
 jk jc zq qz hq (qu rfl) (by simp [P.flat,P.cellsOf,RT]) (q9f a0) (q9e a0 hp)
theorem zgg (hq:qm (cfg sp)):j8 XK szK (cfg sp) 112 zgf:=by
 intro ns pre r h hp
 unfold zgf at h
 dsimp only at h
 split at h
 .cases h
  exact ⟨_,rfl,q9d hq _ hp,zd rfl⟩
 .cases h
theorem q5m (hq:qm (cfg sp)) (a0:ZB) (a1:Int) (hp:(ln a0<=1000/\qas a0=true/\(0:Int)<=a1/\(a1:Int)<=1099511627776)):jm XK szK (cfg sp) 113 [.str a0,.int .i64 none a1] (qp1 a0 a1):=
 jk jc zq qz hq (qu rfl) (by simp [P.flat,P.cellsOf,RT]) (q5o a0 a1) (q5n a0 a1 hp)
theorem zgi (hq:qm (cfg sp)):j8 XK szK (cfg sp) 113 zgh:=by
 intro ns pre r h hp
 unfold zgh at h
 dsimp only at h
 split at h
 .cases h
  exact ⟨_,rfl,q5m hq _ _ hp,zd rfl⟩
 .cases h
theorem q7r (hq:qm (cfg sp)) (a0:ZB) (hp:(ln a0<=1000)):jm XK szK (cfg sp) 80 [.str a0] (qr4 a0):=
 jk jc zq (qh (zgg hq) (qh (zgi hq) (qh (q08 hq) qz))) hq (qu rfl) (by simp [P.flat,P.cellsOf,RT]) (q7t a0) (q7s a0 hp)
theorem zko (hq:qm (cfg sp)):j8 XK szK (cfg sp) 80 zn8:=by
 intro ns pre r h hp
 unfold zn8 at h
 dsimp only at h
 split at h
 .cases h
  exact ⟨_,rfl,q7r hq _ hp,zd rfl⟩
 .cases h
theorem zcn (hq:qm (cfg sp)) (a0 a1 a2:Int):jm XK szK (cfg sp) 25 [.agg [.int .i64 none a0,.int .i64 none a1,.int .i64 none a2]] (qug a0 a1 a2):=
 jk jc zq (qh (zaf hq) qz) hq (qu rfl) (by simp [P.flat,P.cellsOf,RT]) (zcp a0 a1 a2) (zco a0 a1 a2 )
theorem zj1 (hq:qm (cfg sp)):j8 XK szK (cfg sp) 25 znn:=by
 intro ns pre r h hp
 unfold znn at h
 dsimp only at h
 split at h
 .cases h
  exact ⟨_,rfl,zcn hq _ _ _,zd rfl⟩
 .cases h
theorem zck (hq:qm (cfg sp)) (a0 a1 a2:Int):jm XK szK (cfg sp) 31 [.agg [.int .i64 none a0,.int .i64 none a1,.int .i64 none a2]] (quf a0 a1 a2):=
 jk jc zq (qh (zag hq) qz) hq (qu rfl) (by simp [P.flat,P.cellsOf,RT]) (zcm a0 a1 a2) (zcl a0 a1 a2 )
theorem zad (hq:qm (cfg sp)):j8 XK szK (cfg sp) 31 zj4:=by
 intro ns pre r h hp
 unfold zj4 at h
 dsimp only at h
 split at h
 .cases h
  exact ⟨_,rfl,zck hq _ _ _,zd rfl⟩
 .cases h
theorem zb7 (hq:qm (cfg sp)) (a0:ZB) (hp:(ln a0<=1000)):jm XK szK (cfg sp) 73 [.str a0] (qt5 a0):=
 jk jc zq (qh (qu8 hq) qz) hq (qu rfl) (by simp [P.flat,P.cellsOf,RT]) (zb9 a0) (zb8 a0 hp)
theorem zkh (hq:qm (cfg sp)):j8 XK szK (cfg sp) 73 zn0:=by
 intro ns pre r h hp
 unfold zn0 at h
 dsimp only at h
 split at h
 .cases h
  exact ⟨_,rfl,zb7 hq _ hp,zd rfl⟩
 .cases h
theorem q7n (hq:qm (cfg sp)) (a0:ZB) (hp:(ln a0<=1000)):jm XK szK (cfg sp) 79 [.str a0] (qr3 a0):=
 jk jc zq (qh (zad hq) qz) hq (qu rfl) (by simp [P.flat,P.cellsOf,RT]) (q7p a0) (q7o a0 hp)
theorem zkn (hq:qm (cfg sp)):j8 XK szK (cfg sp) 79 zn6:=by
 intro ns pre r h hp
 unfold zn6 at h
 dsimp only at h
 split at h
 .cases h
  exact ⟨_,rfl,q7n hq _ hp,zd rfl⟩
 .cases h
theorem q7g (hq:qm (cfg sp)) (a0:ZB) (hp:(ln a0<=1000)):jm XK szK (cfg sp) 75 [.str a0] (qr1 a0):=
 jk jc zq qz hq (qu rfl) (by simp [P.flat,P.cellsOf,RT]) (q7i a0) (q7h a0 hp)
theorem zkj (hq:qm (cfg sp)):j8 XK szK (cfg sp) 75 zn2:=by
 intro ns pre r h hp
 unfold zn2 at h
 dsimp only at h
 split at h
 .cases h
  exact ⟨_,rfl,q7g hq _ hp,zd rfl⟩
 .cases h
theorem q7d (hq:qm (cfg sp)) (a0:ZB) (hp:(ln a0<=1000)):jm XK szK (cfg sp) 81 [.str a0] (qr0 a0):=
 jk jc zq qz hq (qu rfl) (by simp [P.flat,P.cellsOf,RT]) (q7f a0) (q7e a0 hp)
theorem zkp (hq:qm (cfg sp)):j8 XK szK (cfg sp) 81 zn9:=by
 intro ns pre r h hp
 unfold zn9 at h
 dsimp only at h
 split at h
 .cases h
  exact ⟨_,rfl,q7d hq _ hp,zd rfl⟩
 .cases h
theorem zfi (hq:qm (cfg sp)) (hf26:j8 XK szK (cfg sp) 26 q05) (a0:List Event) (hp:(qlx a0)):jm XK szK (cfg sp) 6 [.list 11 a0 none] (qyi a0):=
 jk jc zq (qh (zjz hq) (qh (zj0 hq hf26) (qh (zj1 hq) (qh hf26 qz)))) hq (qu rfl) (by simp [P.flat,P.cellsOf,RT]) (zfk a0) (zfj a0 hp)
theorem znz (hq:qm (cfg sp)) (hf26:j8 XK szK (cfg sp) 26 q05):j8 XK szK (cfg sp) 6 ct6:=by
 intro ns pre r h hp
 unfold ct6 at h
 dsimp only at h
 split at h
 .cases h
  exact ⟨_,rfl,zfi hq hf26 _ hp,zd rfl⟩
 .cases h
theorem zcg (hq:qm (cfg sp)) (a0:List Event) (hp:(qlx a0)):jm XK szK (cfg sp) 8 [.list 11 a0 none] (qud a0):=
 jk jc zq (qh (zj2 hq) (qh (zj3 hq) (qh (zad hq) (qh (zj5 hq) qz)))) hq (qu rfl) (by simp [P.flat,P.cellsOf,RT]) (zci a0) (zch a0 hp)
theorem zob (hq:qm (cfg sp)):j8 XK szK (cfg sp) 8 ct8:=by
 intro ns pre r h hp
 unfold ct8 at h
 dsimp only at h
 split at h
 .cases h
  exact ⟨_,rfl,zcg hq _ hp,zd rfl⟩
 .cases h
theorem zf0 (hq:qm (cfg sp)) (a0:Int) (hp:(U8 a0)):jm XK szK (cfg sp) 102 [.int .u8 none a0] (qyw a0):=
 jk jc zq qz hq (qu rfl) (by simp [P.flat,P.cellsOf,RT]) (zf2 a0) (zf1 a0 hp)
theorem q3v (hq:qm (cfg sp)):j8 XK szK (cfg sp) 102 zac:=by
 intro ns pre r h hp
 unfold zac at h
 dsimp only at h
 split at h
 .cases h
  exact ⟨_,rfl,zf0 hq _ hp,zd rfl⟩
 .cases h
theorem zej (hq:qm (cfg sp)) (a0:ZB) (hp:(ln a0<=1000000000)):jm XK szK (cfg sp) 104 [.str a0] (qws a0):=
 jk jc zq (qh (q3v hq) qz) hq (qu rfl) (by simp [P.flat,P.cellsOf,RT]) (zel a0) (zek a0 hp)
theorem zf8 (hq:qm (cfg sp)):j8 XK szK (cfg sp) 104 zf7:=by
 intro ns pre r h hp
 unfold zf7 at h
 dsimp only at h
 split at h
 .cases h
  exact ⟨_,rfl,zej hq _ hp,zd rfl⟩
 .cases h
theorem q4r (hq:qm (cfg sp)) (a0 a1:ZB) (a2 a3:Int) (hp:(ln a1=1/\(a2:Int)=0/\(a3:Int) = -1/\ln a0<=100000000)):jm XK szK (cfg sp) 100 [.str a0,.str a1,.int .i64 none a2,.int .i64 none a3] (qpm a0 a1 a2 a3):=
 jk jc zq (qh (zgm hq) (qh (qu8 hq) qz)) hq (qu rfl) (by simp [P.flat,P.cellsOf,RT]) (q4t a0 a1 a2 a3) (q4s a0 a1 a2 a3 hp)
theorem zf6 (hq:qm (cfg sp)):j8 XK szK (cfg sp) 100 zf5:=by
 intro ns pre r h hp
 unfold zf5 at h
 dsimp only at h
 split at h
 .cases h
  exact ⟨_,rfl,q4r hq _ _ _ _ hp,zd rfl⟩
 .cases h
theorem zff (hq:qm (cfg sp)) (a0 a1:ZB) (hp:(ln a1=1/\ln a0<=100000000)):jm XK szK (cfg sp) 69 [.str a0,.str a1] (qyh a0 a1):=
 jk jc zq (qh (zf6 hq) qz) hq (qu rfl) (by simp [P.flat,P.cellsOf,RT]) (zfh a0 a1) (zfg a0 a1 hp)
theorem zkg (hq:qm (cfg sp)):j8 XK szK (cfg sp) 69 zny:=by
 intro ns pre r h hp
 unfold zny at h
 dsimp only at h
 split at h
 .cases h
  exact ⟨_,rfl,zff hq _ _ hp,zd rfl⟩
 .cases h
theorem zeg (hq:qm (cfg sp)) (a0:Int):jm XK szK (cfg sp) 110 [.int .u8 none a0] (qwp a0):=
 jk jc zq qz hq (qu rfl) (by simp [P.flat,P.cellsOf,RT]) (zei a0) (zeh a0 )
theorem zge (hq:qm (cfg sp)):j8 XK szK (cfg sp) 110 zgd:=by
 intro ns pre r h hp
 unfold zgd at h
 dsimp only at h
 split at h
 .cases h
  exact ⟨_,rfl,zeg hq _,zd rfl⟩
 .cases h
theorem q8q (hq:qm (cfg sp)) (a0:Int):jm XK szK (cfg sp) 138 [.int .u8 none a0] (qso a0):=
 jk jc zq qz hq (qu rfl) (by simp [P.flat,P.cellsOf,RT]) (q8s a0) (q8r a0 )
theorem zgk (hq:qm (cfg sp)):j8 XK szK (cfg sp) 138 zgj:=by
 intro ns pre r h hp
 unfold zgj at h
 dsimp only at h
 split at h
 .cases h
  exact ⟨_,rfl,q8q hq _,zd rfl⟩
 .cases h
theorem q9j (hq:qm (cfg sp)) (a0:ZB) (a1:Int) (hp:(0<=a1/\a1<ln a0/\ln a0<=1000000000)):jm XK szK (cfg sp) 109 [.str a0,.int .i64 none a1] (qs1 a0 a1):=
 jk jc zq (qh (zgk hq) qz) hq (qu rfl) (by simp [P.flat,P.cellsOf,RT]) (q9l a0 a1) (q9k a0 a1 hp)
theorem zgc (hq:qm (cfg sp)):j8 XK szK (cfg sp) 109 zgb:=by
 intro ns pre r h hp
 unfold zgb at h
 dsimp only at h
 split at h
 .cases h
  exact ⟨_,rfl,q9j hq _ _ hp,zd rfl⟩
 .cases h
theorem zks (hq:qm (cfg sp)) (a0:ZB) (a1:Int) (hp:(ln a0<=1000/\0<=a1/\a1<=100000)):jm XK szK (cfg sp) 78 [.str a0,.int .i64 none a1] (q3x a0 a1):=
 jk jc zq (qh (zgc hq) (qh (zge hq) qz)) hq (qu rfl) (by simp [P.flat,P.cellsOf,RT]) (zku a0 a1) (zkt a0 a1 hp)
theorem zkm (hq:qm (cfg sp)):j8 XK szK (cfg sp) 78 zn5:=by
 intro ns pre r h hp
 unfold zn5 at h
 dsimp only at h
 split at h
 .cases h
  exact ⟨_,rfl,zks hq _ _ hp,zd rfl⟩
 .cases h
theorem ze9 (hq:qm (cfg sp)) (a0:ZB):jm XK szK (cfg sp) 37 [.str a0] (qyf a0):=
 jk jc zq (qh (zkm hq) qz) hq (qu rfl) (by simp [P.flat,P.cellsOf,RT]) (zfb a0) (zfa a0 )
theorem zj9 (hq:qm (cfg sp)):j8 XK szK (cfg sp) 37 znt:=by
 intro ns pre r h hp
 unfold znt at h
 dsimp only at h
 split at h
 .cases h
  exact ⟨_,rfl,ze9 hq _,zd rfl⟩
 .cases h
theorem zfc (hq:qm (cfg sp)) (a0:ZB):jm XK szK (cfg sp) 33 [.str a0] (qyg a0):=
 jk jc zq (qh (zkg hq) (qh (q3v hq) (qh (qu8 hq) (qh (zf8 hq) qz)))) hq (qu rfl) (by simp [P.flat,P.cellsOf,RT]) (zfe a0) (zfd a0 )
theorem zj6 (hq:qm (cfg sp)):j8 XK szK (cfg sp) 33 znr:=by
 intro ns pre r h hp
 unfold znr at h
 dsimp only at h
 split at h
 .cases h
  exact ⟨_,rfl,zfc hq _,zd rfl⟩
 .cases h
theorem zmh (hq:qm (cfg sp)) (a0:List Word) (hp:(qh4 a0)):jm XK szK (cfg sp) 35 [.list 5 a0 none] (q6d a0):=
 jk jc zq (qh (zkh hq) (qh (zki hq) (qh (zkj hq) qz))) hq (qu rfl) (by simp [P.flat,P.cellsOf,RT]) (zmj a0) (zmi a0 hp)
theorem zj7 (hq:qm (cfg sp)):j8 XK szK (cfg sp) 35 zns:=by
 intro ns pre r h hp
 unfold zns at h
 dsimp only at h
 split at h
 .cases h
  exact ⟨_,rfl,zmh hq _ hp,zd rfl⟩
 .cases h
theorem zme (hq:qm (cfg sp)) (a0:Int) (a1:List Word) (hp:(qh4 a1)):jm XK szK (cfg sp) 38 [.agg [.int .i64 none a0,.list 5 a1 none]] (q6c a0 a1):=
 jk jc zq (qh (zkn hq) (qh (zko hq) (qh (zkp hq) qz))) hq (qu rfl) (by simp [P.flat,P.cellsOf,RT]) (zmg a0 a1) (zmf a0 a1 hp)
theorem zka (hq:qm (cfg sp)):j8 XK szK (cfg sp) 38 znu:=by
 intro ns pre r h hp
 unfold znu at h
 dsimp only at h
 split at h
 .cases h
  exact ⟨_,rfl,zme hq _ _ hp,zd rfl⟩
 .cases h
theorem zb4 (hq:qm (cfg sp)) (a0:ZB) (hp:(ln a0<=1000000000)):jm XK szK (cfg sp) 9 [.str a0] (qt3 a0):=
 jk jc zq (qh (zj6 hq) (qh (zj7 hq) (qh (zae hq) qz))) hq (qu rfl) (by simp [P.flat,P.cellsOf,RT]) (zb6 a0) (zb5 a0 hp)
theorem zoc (hq:qm (cfg sp)):j8 XK szK (cfg sp) 9 ct9:=by
 intro ns pre r h hp
 unfold ct9 at h
 dsimp only at h
 split at h
 .cases h
  exact ⟨_,rfl,zb4 hq _ hp,zd rfl⟩
 .cases h
theorem q7j (hq:qm (cfg sp)) (a0:ZB) (hp:(ln a0<=1000000000)):jm XK szK (cfg sp) 10 [.str a0] (qr2 a0):=
 jk jc zq (qh (zj9 hq) (qh (zka hq) (qh (q06 hq) qz))) hq (qu rfl) (by simp [P.flat,P.cellsOf,RT]) (q7l a0) (q7k a0 hp)
theorem zjx (hq:qm (cfg sp)):j8 XK szK (cfg sp) 10 znj:=by
 intro ns pre r h hp
 unfold znj at h
 dsimp only at h
 split at h
 .cases h
  exact ⟨_,rfl,q7j hq _ hp,zd rfl⟩
 .cases h
theorem qxl (hq:qm (cfg sp)) (a0 a1:List Event) (hp:(ln a0<=1000000000)):jm XK szK (cfg sp) 11 [.list 11 a0 none,.list 11 a1 none] (qlf a0 a1):=
 jk jc zq qz hq (qu rfl) (by simp [P.flat,P.cellsOf,RT]) (qxn a0 a1) (qxm a0 a1 hp)
theorem zjy (hq:qm (cfg sp)):j8 XK szK (cfg sp) 11 znk:=by
 intro ns pre r h hp
 unfold znk at h
 dsimp only at h
 split at h
 .cases h
  exact ⟨_,rfl,qxl hq _ _ hp,zd rfl⟩
 .cases h
theorem q0v (hq:qm (cfg sp)) (a0:List Event) (hp:(ln a0<=100000000)):jm XK szK (cfg sp) 7 [.list 11 a0 none] (qm9 a0):=
 jk jc zq qz hq (qu rfl) (by simp [P.flat,P.cellsOf,RT]) (q0x a0) (q0w a0 hp)
theorem zn7 (hq:qm (cfg sp)):j8 XK szK (cfg sp) 7 ct7:=by
 intro ns pre r h hp
 unfold ct7 at h
 dsimp only at h
 split at h
 .cases h
  exact ⟨_,rfl,q0v hq _ hp,zd rfl⟩
 .cases h
theorem q42 (hq:qm (cfg sp)) (hf5:j8 XK szK (cfg sp) 5 ct5) (hf26:j8 XK szK (cfg sp) 26 q05) (a0:List Event) (a1:ZB) (hp:(ln a0<=9223372036854775807/\ln a1<=9223372036854775807/\∀ x ∈ a0,x.Sign<=9223372036854775807/\x.Pass<=9223372036854775807)):jm XK szK (cfg sp) 3 [.list 11 a0 none,.str a1] (qpu a0 a1):=
 jk jc zq (qh hf5 (qh (zn7 hq) (qh (znz hq hf26) (qh (zob hq) (qh (zoc hq) (qh (zjx hq) (qh (zjy hq) qz))))))) hq (qu rfl) (by simp [P.flat,P.cellsOf,RT]) (q44 a0 a1) (q43 a0 a1 hp)
end Go.Proofs.YtpbliaccnbgapaaGreatDoor
