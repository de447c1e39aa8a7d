import Derived.Test.YtcnoipglgpkpeaaGreatDoorOks
namespace Go.Proofs.YtcnoipglgpkpeaaGreatDoor
open Go Go.E2 Go.E3
set_option maxRecDepth 100000
variable {sp:Nat->Option (List V->Heap->Option (CR×Heap))}
theorem q4i (hq:qf (cfg sp)):∀ (m:Nat) (a0 a1:Int),Int.toNat a1=m->(0<=a0/\0<=a1/\a0<=4611686018427387904/\a1<=4611686018427387904)->kx XK szK (cfg sp) 79 [.int .i64 none a0,.int .i64 none a1] (qlp a0 a1):=by
 intro m
 induction m using Nat.strongRecOn with
 | _ m ih=>
  intro a0 a1 hm hp
  have hc:jc XK szK (cfg sp) 79 (zg3 a0 a1):=by
   intro ns pre r h hp2
   unfold zg3 at h
   dsimp only at h
   split at h
   .cases h
    exact ⟨_,rfl,ih _ (by rw [<-hm];exact hp2.2) _ _ rfl hp2.1,qx rfl⟩
   .cases h
  exact ke zw zk (qa hc qq) hq (qj rfl) (by simp [P.flat,P.cellsOf,RT]) (q79 a0 a1) (q78 a0 a1 hp)
theorem q77 (hq:qf (cfg sp)) (a0 a1:Int) (hp:(0<=a0/\0<=a1/\a0<=4611686018427387904/\a1<=4611686018427387904)):kx XK szK (cfg sp) 79 [.int .i64 none a0,.int .i64 none a1] (qlp a0 a1):=q4i hq _ a0 a1 rfl hp
theorem qth (hq:qf (cfg sp)):jc XK szK (cfg sp) 79 zdr:=by
 intro ns pre r h hp
 unfold zdr at h
 dsimp only at h
 split at h
 .cases h
  exact ⟨_,rfl,q77 hq _ _ hp,qx rfl⟩
 .cases h
theorem zb8 (hq:qf (cfg sp)) (a0 a1:Int):kx XK szK (cfg sp) 43 [.agg [.int .i64 none a0,.int .i64 none a1]] (qtw a0 a1):=
 ke zw zk (qa (qth hq) qq) hq (qj rfl) (by simp [P.flat,P.cellsOf,RT]) (zca a0 a1) (zb9 a0 a1 )
theorem qte (hq:qf (cfg sp)):jc XK szK (cfg sp) 43 zdo:=by
 intro ns pre r h hp
 unfold zdo at h
 dsimp only at h
 split at h
 .cases h
  exact ⟨_,rfl,zb8 hq _ _,qx rfl⟩
 .cases h
theorem zd1 (hq:qf (cfg sp)) (a0:List Time) (hp:(ln a0<=1000000000)):kx XK szK (cfg sp) 77 [.list 9 a0 none] (qvk a0):=
 ke zw zk (qa (qte hq) qq) hq (qj rfl) (by simp [P.flat,P.cellsOf,RT]) (zd3 a0) (zd2 a0 hp)
theorem qtg (hq:qf (cfg sp)):jc XK szK (cfg sp) 77 zdq:=by
 intro ns pre r h hp
 unfold zdq at h
 dsimp only at h
 split at h
 .cases h
  exact ⟨_,rfl,zd1 hq _ hp,qx rfl⟩
 .cases h
theorem zfz (hq:qf (cfg sp)) (a0 a1:Int) (hp:(0<=a0/\1<=a1/\a0<=4611686018427387904/\a1<=4611686018427387904)):kx XK szK (cfg sp) 78 [.int .i64 none a0,.int .i64 none a1] (qye a0 a1):=
 ke zw zk (qa (qth hq) qq) hq (qj rfl) (by simp [P.flat,P.cellsOf,RT]) (zf1 a0 a1) (zf0 a0 a1 hp)
theorem zac (hq:qf (cfg sp)):jc XK szK (cfg sp) 78 zlj:=by
 intro ns pre r h hp
 unfold zlj at h
 dsimp only at h
 split at h
 .cases h
  exact ⟨_,rfl,zfz hq _ _ hp,qx rfl⟩
 .cases h
theorem zjn (hq:qf (cfg sp)) (a0 a1 a2 a3:Int):kx XK szK (cfg sp) 42 [.agg [.int .i64 none a0,.int .i64 none a1],.agg [.int .i64 none a2,.int .i64 none a3]] (q2t a0 a1 a2 a3):=
 ke zw zk (qa (qtg hq) (qa (zac hq) qq)) hq (qj rfl) (by simp [P.flat,P.cellsOf,RT]) (zjp a0 a1 a2 a3) (zjo a0 a1 a2 a3 )
theorem qj9 (hq:qf (cfg sp)):jc XK szK (cfg sp) 42 q0z:=by
 intro ns pre r h hp
 unfold q0z at h
 dsimp only at h
 split at h
 .cases h
  exact ⟨_,rfl,zjn hq _ _ _ _,qx rfl⟩
 .cases h
theorem ze7 (hq:qf (cfg sp)) (a0 a1 a2 a3:Int) (hp:(qfs a0 a1 a2 a3)):kx XK szK (cfg sp) 106 [.int .i64 none a0,.int .i64 none a1,.int .i64 none a2,.int .i64 none a3] (qw6 a0 a1 a2 a3):=
 ke zw zk (qa (qth hq) (qa (zac hq) qq)) hq (qj rfl) (by simp [P.flat,P.cellsOf,RT]) (ze9 a0 a1 a2 a3) (ze8 a0 a1 a2 a3 hp)
theorem q4d (hq:qf (cfg sp)):jc XK szK (cfg sp) 106 q93:=by
 intro ns pre r h hp
 unfold q93 at h
 dsimp only at h
 split at h
 .cases h
  exact ⟨_,rfl,ze7 hq _ _ _ _ hp,qx rfl⟩
 .cases h
theorem zj2 (hq:qf (cfg sp)) (a0 a1 a2 a3:Int):kx XK szK (cfg sp) 90 [.agg [.int .i64 none a0,.int .i64 none a1],.agg [.int .i64 none a2,.int .i64 none a3]] (q3j a0 a1 a2 a3):=
 ke zw zk (qa (qtg hq) (qa (q4d hq) qq)) hq (qj rfl) (by simp [P.flat,P.cellsOf,RT]) (zj4 a0 a1 a2 a3) (zj3 a0 a1 a2 a3 )
theorem zlm (hq:qf (cfg sp)):jc XK szK (cfg sp) 90 zo0:=by
 intro ns pre r h hp
 unfold zo0 at h
 dsimp only at h
 split at h
 .cases h
  exact ⟨_,rfl,zj2 hq _ _ _ _,qx rfl⟩
 .cases h
theorem zb2 (hq:qf (cfg sp)) (a0 a1 a2:Int):kx XK szK (cfg sp) 9 [.agg [.int .i64 none a0,.int .i64 none a1,.int .i64 none a2]] (qtu a0 a1 a2):=
 ke zw zk qq hq (qj rfl) (by simp [P.flat,P.cellsOf,RT]) (zb4 a0 a1 a2) (zb3 a0 a1 a2 )
theorem qu2 (hq:qf (cfg sp)):jc XK szK (cfg sp) 9 ct9:=by
 intro ns pre r h hp
 unfold ct9 at h
 dsimp only at h
 split at h
 .cases h
  exact ⟨_,rfl,zb2 hq _ _ _,qx rfl⟩
 .cases h
theorem q7g (hq:qf (cfg sp)) (a0 a1 a2 a3 a4 a5:Int):kx XK szK (cfg sp) 120 [.agg [.int .i64 none a0,.int .i64 none a1,.int .i64 none a2],.agg [.int .i64 none a3,.int .i64 none a4,.int .i64 none a5]] (qrz a0 a1 a2 a3 a4 a5):=
 ke zw zk (qa (qu2 hq) qq) hq (qj rfl) (by simp [P.flat,P.cellsOf,RT]) (q7i a0 a1 a2 a3 a4 a5) (q7h a0 a1 a2 a3 a4 a5 )
theorem zgz (hq:qf (cfg sp)):jc XK szK (cfg sp) 120 zgy:=by
 intro ns pre r h hp
 unfold zgy at h
 dsimp only at h
 split at h
 .cases h
  exact ⟨_,rfl,q7g hq _ _ _ _ _ _,qx rfl⟩
 .cases h
theorem zf2 (hq:qf (cfg sp)) (a0 a1 a2 a3:Int):kx XK szK (cfg sp) 86 [.agg [.int .i64 none a0,.int .i64 none a1,.int .i64 none a2],.int .i64 none a3] (qyh a0 a1 a2 a3):=
 ke zw zk (qa (qu2 hq) qq) hq (qj rfl) (by simp [P.flat,P.cellsOf,RT]) (zf4 a0 a1 a2 a3) (zf3 a0 a1 a2 a3 )
theorem zlk (hq:qf (cfg sp)):jc XK szK (cfg sp) 86 zoz:=by
 intro ns pre r h hp
 unfold zoz at h
 dsimp only at h
 split at h
 .cases h
  exact ⟨_,rfl,zf2 hq _ _ _ _,qx rfl⟩
 .cases h
theorem zmh (hq:qf (cfg sp)) (a0 a1 a2 a3 a4 a5 a6:Int) (a7:Bool) (a8 a9:Int):kx XK szK (cfg sp) 41 [.agg [.int .i64 none a0,.int .i64 none a1,.int .i64 none a2,.int .i64 none a3,.int .i64 none a4,.int .i64 none a5,.int .i64 none a6,.sb 0 false a7 (a7=true) (a7=false),.int .i64 none a8,.int .i64 none a9]] (q5r a0 a1 a2 a3 a4 a5 a6 a7 a8 a9):=
 ke zw zk (qa (qte hq) (qa (qu2 hq) qq)) hq (qj rfl) (by simp [P.flat,P.cellsOf,RT]) (zmj a0 a1 a2 a3 a4 a5 a6 a7 a8 a9) (zmi a0 a1 a2 a3 a4 a5 a6 a7 a8 a9 )
theorem zkv (hq:qf (cfg sp)):jc XK szK (cfg sp) 41 zof:=by
 intro ns pre r h hp
 unfold zof at h
 dsimp only at h
 split at h
 .cases h
  exact ⟨_,rfl,zmh hq _ _ _ _ _ _ _ _ _ _,qx rfl⟩
 .cases h
theorem zbw (hq:qf (cfg sp)) (a0:List Event) (hp:(ln a0<=1000000000)):kx XK szK (cfg sp) 22 [.list 11 a0 none] (qtr a0):=
 ke zw zk (qa (zkv hq) (qa (qj9 hq) qq)) hq (qj rfl) (by simp [P.flat,P.cellsOf,RT]) (zby a0) (zbx a0 hp)
theorem qi3 (hq:qf (cfg sp)):jc XK szK (cfg sp) 22 qxn:=by
 intro ns pre r h hp
 unfold qxn at h
 dsimp only at h
 split at h
 .cases h
  exact ⟨_,rfl,zbw hq _ hp,qx rfl⟩
 .cases h
theorem zfj (hq:qf (cfg sp)) (a0:List Event) (hp:(ln a0<=1000000000)):kx XK szK (cfg sp) 45 [.list 11 a0 none] (qx8 a0):=
 qvn zw zk qq hq (qj rfl) (by simp [P.flat,P.cellsOf,RT]) (zfl a0) (zfk a0 hp)
theorem q98 (hq:qf (cfg sp)):jc XK szK (cfg sp) 45 zkx:=by
 intro ns pre r h hp
 unfold zkx at h
 dsimp only at h
 split at h
 .cases h
  exact ⟨_,rfl,zfj hq _ hp,qx rfl⟩
 .cases h
theorem zc7 (hq:qf (cfg sp)) (a0 a1:Int):kx XK szK (cfg sp) 88 [.agg [.int .i64 none a0,.int .i64 none a1]] (quc a0 a1):=
 ke zw zk (qa (qte hq) qq) hq (qj rfl) (by simp [P.flat,P.cellsOf,RT]) (zc9 a0 a1) (zc8 a0 a1 )
theorem zad (hq:qf (cfg sp)):jc XK szK (cfg sp) 88 zll:=by
 intro ns pre r h hp
 unfold zll at h
 dsimp only at h
 split at h
 .cases h
  exact ⟨_,rfl,zc7 hq _ _,qx rfl⟩
 .cases h
theorem zc1 (hq:qf (cfg sp)) (a0:List Event) (hp:(ln a0<=1000000000)):kx XK szK (cfg sp) 109 [.list 11 a0 none] (qt8 a0):=
 ke zw zk (qa (qi3 hq) (qa (qj9 hq) qq)) hq (qj rfl) (by simp [P.flat,P.cellsOf,RT]) (zc3 a0) (zc2 a0 hp)
theorem q4e (hq:qf (cfg sp)):jc XK szK (cfg sp) 109 q94:=by
 intro ns pre r h hp
 unfold q94 at h
 dsimp only at h
 split at h
 .cases h
  exact ⟨_,rfl,zc1 hq _ hp,qx rfl⟩
 .cases h
theorem q7m (hq:qf (cfg sp)) (a0:List Event) (a1 a2 a3:Int) (hp:(ln a0<=1000000000)):kx XK szK (cfg sp) 110 [.list 11 a0 none,.agg [.int .i64 none a1,.int .i64 none a2,.int .i64 none a3]] (qr1 a0 a1 a2 a3):=
 ke zw zk (qa (qi3 hq) (qa (qu2 hq) (qa (zgz hq) (qa (qj9 hq) qq)))) hq (qj rfl) (by simp [P.flat,P.cellsOf,RT]) (q7o a0 a1 a2 a3) (q7n a0 a1 a2 a3 hp)
theorem q4f (hq:qf (cfg sp)):jc XK szK (cfg sp) 110 q95:=by
 intro ns pre r h hp
 unfold q95 at h
 dsimp only at h
 split at h
 .cases h
  exact ⟨_,rfl,q7m hq _ _ _ _ hp,qx rfl⟩
 .cases h
theorem zf8 (hq:qf (cfg sp)) (a0:List Event) (a1:Int) (hp:(ln a0<=1000000000)):kx XK szK (cfg sp) 49 [.list 11 a0 none,.int .i64 none a1] (qyj a0 a1):=
 ke zw zk (qa (qi3 hq) (qa (zlk hq) (qa (qj9 hq) qq))) hq (qj rfl) (by simp [P.flat,P.cellsOf,RT]) (zga a0 a1) (zf9 a0 a1 hp)
theorem zky (hq:qf (cfg sp)):jc XK szK (cfg sp) 49 zoh:=by
 intro ns pre r h hp
 unfold zoh at h
 dsimp only at h
 split at h
 .cases h
  exact ⟨_,rfl,zf8 hq _ _ hp,qx rfl⟩
 .cases h
theorem q3p (hq:qf (cfg sp)) (a0:List Event) (a1 a2:Int) (hp:(ln a0<=1000000000)):kx XK szK (cfg sp) 51 [.list 11 a0 none,.agg [.int .i64 none a1,.int .i64 none a2]] (qoq a0 a1 a2):=
 ke zw zk (qa (qi3 hq) (qa (zad hq) (qa (zlm hq) (qa (qj9 hq) qq)))) hq (qj rfl) (by simp [P.flat,P.cellsOf,RT]) (q3r a0 a1 a2) (q3q a0 a1 a2 hp)
theorem zkz (hq:qf (cfg sp)):jc XK szK (cfg sp) 51 zoi:=by
 intro ns pre r h hp
 unfold zoi at h
 dsimp only at h
 split at h
 .cases h
  exact ⟨_,rfl,q3p hq _ _ _ hp,qx rfl⟩
 .cases h
theorem zcf (hq:qf (cfg sp)) (a0:List Event) (a1 a2:Int) (hp:(ln a0<=1000000000)):kx XK szK (cfg sp) 53 [.list 11 a0 none,.agg [.int .i64 none a1,.int .i64 none a2]] (qty a0 a1 a2):=
 ke zw zk (qa (qi3 hq) (qa (zad hq) (qa (qj9 hq) qq))) hq (qj rfl) (by simp [P.flat,P.cellsOf,RT]) (zch a0 a1 a2) (zcg a0 a1 a2 hp)
theorem zk0 (hq:qf (cfg sp)):jc XK szK (cfg sp) 53 zoj:=by
 intro ns pre r h hp
 unfold zoj at h
 dsimp only at h
 split at h
 .cases h
  exact ⟨_,rfl,zcf hq _ _ _ hp,qx rfl⟩
 .cases h
theorem zbz (hq:qf (cfg sp)) (a0 a1 a2 a3:Int):kx XK szK (cfg sp) 44 [.agg [.int .i64 none a0,.int .i64 none a1,.int .i64 none a2,.int .i64 none a3]] (qtt a0 a1 a2 a3):=
 ke zw zk qq hq (qj rfl) (by simp [P.flat,P.cellsOf,RT]) (zb1 a0 a1 a2 a3) (zb0 a0 a1 a2 a3 )
theorem zkw (hq:qf (cfg sp)):jc XK szK (cfg sp) 44 zog:=by
 intro ns pre r h hp
 unfold zog at h
 dsimp only at h
 split at h
 .cases h
  exact ⟨_,rfl,zbz hq _ _ _ _,qx rfl⟩
 .cases h
theorem zbt (hq:qf (cfg sp)) (a0 a1 a2:Int) (a3 a4:Bool) (a5 a6 a7 a8 a9 a10:Int):kx XK szK (cfg sp) 23 [.agg [.int .i64 none a0,.int .i64 none a1,.int .i64 none a2,.sb 0 false a3 (a3=true) (a3=false),.sb 0 false a4 (a4=true) (a4=false),.int .i64 none a5,.int .i64 none a6,.int .i64 none a7,.int .i64 none a8,.int .i64 none a9,.int .i64 none a10]] (qtp a0 a1 a2 a3 a4 a5 a6 a7 a8 a9 a10):=
 ke zw zk (qa (qte hq) (qa (zkw hq) qq)) hq (qj rfl) (by simp [P.flat,P.cellsOf,RT]) (zbv a0 a1 a2 a3 a4 a5 a6 a7 a8 a9 a10) (zbu a0 a1 a2 a3 a4 a5 a6 a7 a8 a9 a10 )
theorem zkn (hq:qf (cfg sp)):jc XK szK (cfg sp) 23 zn8:=by
 intro ns pre r h hp
 unfold zn8 at h
 dsimp only at h
 split at h
 .cases h
  exact ⟨_,rfl,zbt hq _ _ _ _ _ _ _ _ _ _ _,qx rfl⟩
 .cases h
theorem zdv (hq:qf (cfg sp)) (a0:List Event) (hp:(ln a0<=1000000000)):kx XK szK (cfg sp) 67 [.list 11 a0 none] (qvi a0):=
 ke zw zk qq hq (qj rfl) (by simp [P.flat,P.cellsOf,RT]) (zdx a0) (zdw a0 hp)
theorem zab (hq:qf (cfg sp)):jc XK szK (cfg sp) 67 zk9:=by
 intro ns pre r h hp
 unfold zk9 at h
 dsimp only at h
 split at h
 .cases h
  exact ⟨_,rfl,zdv hq _ hp,qx rfl⟩
 .cases h
theorem zft (hq:qf (cfg sp)) (a0:List Event) (a1 a2 a3:Int) (a4 a5:Bool) (a6 a7 a8 a9 a10 a11:Int) (hp:(ln a0<=1000000000)):kx XK szK (cfg sp) 8 [.list 11 a0 none,.agg [.int .i64 none a1,.int .i64 none a2,.int .i64 none a3,.sb 0 false a4 (a4=true) (a4=false),.sb 0 false a5 (a5=true) (a5=false),.int .i64 none a6,.int .i64 none a7,.int .i64 none a8,.int .i64 none a9,.int .i64 none a10,.int .i64 none a11]] (qyc a0 a1 a2 a3 a4 a5 a6 a7 a8 a9 a10 a11):=
 ke zw zk (qa (qi3 hq) (qa (zkn hq) (qa (q4e hq) (qa (zab hq) (qa (q4f hq) (qa (zky hq) (qa (zkz hq) (qa (zk0 hq) (qa (q98 hq) qq))))))))) hq (qj rfl) (by simp [P.flat,P.cellsOf,RT]) (zfv a0 a1 a2 a3 a4 a5 a6 a7 a8 a9 a10 a11) (zfu a0 a1 a2 a3 a4 a5 a6 a7 a8 a9 a10 a11 hp)
theorem zg1 (hq:qf (cfg sp)):jc XK szK (cfg sp) 8 ct8:=by
 intro ns pre r h hp
 unfold ct8 at h
 dsimp only at h
 split at h
 .cases h
  exact ⟨_,rfl,zft hq _ _ _ _ _ _ _ _ _ _ _ _ hp,qx rfl⟩
 .cases h
theorem q8p (hq:qf (cfg sp)) (a0 a1:Int) (hp:((0:Int)<=a0/\(a0:Int)<=62/\(-1:Int)<=a1/\(a1:Int)<=1)):kx XK szK (cfg sp) 105 [.agg [.int .i64 none a0,.int .i64 none a1]] (qsj a0 a1):=
 ke zw zk qq hq (qj rfl) (by simp [P.flat,P.cellsOf,RT]) (q8r a0 a1) (q8q a0 a1 hp)
theorem zgx (hq:qf (cfg sp)):jc XK szK (cfg sp) 105 zgw:=by
 intro ns pre r h hp
 unfold zgw at h
 dsimp only at h
 split at h
 .cases h
  exact ⟨_,rfl,q8p hq _ _ hp,qx rfl⟩
 .cases h
theorem zj9 (hq:qf (cfg sp)) (a0 a1 a2 a3:Int):kx XK szK (cfg sp) 70 [.agg [.int .i64 none a0,.int .i64 none a1],.agg [.int .i64 none a2,.int .i64 none a3]] (q3t a0 a1 a2 a3):=
 ke zw zk (qa (qtg hq) (qa (qth hq) qq)) hq (qj rfl) (by simp [P.flat,P.cellsOf,RT]) (zkb a0 a1 a2 a3) (zka a0 a1 a2 a3 )
theorem zlc (hq:qf (cfg sp)):jc XK szK (cfg sp) 70 zos:=by
 intro ns pre r h hp
 unfold zos at h
 dsimp only at h
 split at h
 .cases h
  exact ⟨_,rfl,zj9 hq _ _ _ _,qx rfl⟩
 .cases h
theorem zjt (hq:qf (cfg sp)) (a0 a1 a2 a3:Int):kx XK szK (cfg sp) 71 [.agg [.int .i64 none a0,.int .i64 none a1],.agg [.int .i64 none a2,.int .i64 none a3]] (q23 a0 a1 a2 a3):=
 ke zw zk (qa (qtg hq) (qa (q4d hq) qq)) hq (qj rfl) (by simp [P.flat,P.cellsOf,RT]) (zjv a0 a1 a2 a3) (zju a0 a1 a2 a3 )
theorem zld (hq:qf (cfg sp)):jc XK szK (cfg sp) 71 zot:=by
 intro ns pre r h hp
 unfold zot at h
 dsimp only at h
 split at h
 .cases h
  exact ⟨_,rfl,zjt hq _ _ _ _,qx rfl⟩
 .cases h
theorem q2u (hq:qf (cfg sp)) (a0 a1 a2 a3 a4 a5:Int):kx XK szK (cfg sp) 68 [.agg [.int .i64 none a0,.int .i64 none a1,.int .i64 none a2],.agg [.int .i64 none a3,.int .i64 none a4,.int .i64 none a5]] (qol a0 a1 a2 a3 a4 a5):=
 ke zw zk (qa (qu2 hq) (qa (zgx hq) qq)) hq (qj rfl) (by simp [P.flat,P.cellsOf,RT]) (q2w a0 a1 a2 a3 a4 a5) (q2v a0 a1 a2 a3 a4 a5 )
theorem zla (hq:qf (cfg sp)):jc XK szK (cfg sp) 68 zoq:=by
 intro ns pre r h hp
 unfold zoq at h
 dsimp only at h
 split at h
 .cases h
  exact ⟨_,rfl,q2u hq _ _ _ _ _ _,qx rfl⟩
 .cases h
theorem zjw (hq:qf (cfg sp)) (a0:List Event) (hp:(ln a0<=1000000000)):kx XK szK (cfg sp) 69 [.list 11 a0 none] (q26 a0):=
 ke zw zk (qa (qi3 hq) (qa (qj9 hq) qq)) hq (qj rfl) (by simp [P.flat,P.cellsOf,RT]) (zjx a0) (q9s a0 hp)
theorem zlb (hq:qf (cfg sp)):jc XK szK (cfg sp) 69 zor:=by
 intro ns pre r h hp
 unfold zor at h
 dsimp only at h
 split at h
 .cases h
  exact ⟨_,rfl,zjw hq _ hp,qx rfl⟩
 .cases h
theorem ze0 (hq:qf (cfg sp)) (a0:List Event) (a1 a2 a3:Int) (a4 a5:Bool) (a6 a7 a8 a9 a10 a11:Int) (a12:List Event) (hp:((qe a0).1=0/\(qe a12).1=0)):kx XK szK (cfg sp) 34 [.list 11 a0 none,.agg [.int .i64 none a1,.int .i64 none a2,.int .i64 none a3,.sb 0 false a4 (a4=true) (a4=false),.sb 0 false a5 (a5=true) (a5=false),.int .i64 none a6,.int .i64 none a7,.int .i64 none a8,.int .i64 none a9,.int .i64 none a10,.int .i64 none a11],.list 11 a12 none] (qwz a0 a1 a2 a3 a4 a5 a6 a7 a8 a9 a10 a11 a12):=
 ke zw zk (qa (q4e hq) (qa (zab hq) (qa (q4f hq) (qa (q98 hq) (qa (zla hq) qq))))) hq (qj rfl) (by simp [P.flat,P.cellsOf,RT]) (ze2 a0 a1 a2 a3 a4 a5 a6 a7 a8 a9 a10 a11 a12) (ze1 a0 a1 a2 a3 a4 a5 a6 a7 a8 a9 a10 a11 a12 hp)
theorem zkt (hq:qf (cfg sp)):jc XK szK (cfg sp) 34 zod:=by
 intro ns pre r h hp
 unfold zod at h
 dsimp only at h
 split at h
 .cases h
  exact ⟨_,rfl,ze0 hq _ _ _ _ _ _ _ _ _ _ _ _ _ hp,qx rfl⟩
 .cases h
theorem q8d (hq:qf (cfg sp)) (a0 a1:List Event) (a2 a3:Int) (hp:(ln a0<=1000000000/\ln a1<=1000000000)):kx XK szK (cfg sp) 35 [.list 11 a0 none,.list 11 a1 none,.agg [.int .i64 none a2,.int .i64 none a3]] (qse a0 a1 a2 a3):=
 ke zw zk (qa (zlb hq) (qa (zlc hq) (qa (zld hq) qq))) hq (qj rfl) (by simp [P.flat,P.cellsOf,RT]) (q8f a0 a1 a2 a3) (q8e a0 a1 a2 a3 hp)
theorem zku (hq:qf (cfg sp)):jc XK szK (cfg sp) 35 zoe:=by
 intro ns pre r h hp
 unfold zoe at h
 dsimp only at h
 split at h
 .cases h
  exact ⟨_,rfl,q8d hq _ _ _ _ hp,qx rfl⟩
 .cases h
theorem zcm (hq:qf (cfg sp)) (a0 a1:List Event) (hp:(ln a0<=1000000000/\ln a1<=1000000000)):kx XK szK (cfg sp) 14 [.list 11 a0 none,.list 11 a1 none] (qtz a0 a1):=
 ke zw zk (qa (qi3 hq) (qa (zkt hq) (qa (zku hq) (qa (zg1 hq) qq)))) hq (qj rfl) (by simp [P.flat,P.cellsOf,RT]) (zco a0 a1) (zcn a0 a1 hp)
theorem zkj (hq:qf (cfg sp)):jc XK szK (cfg sp) 14 zn4:=by
 intro ns pre r h hp
 unfold zn4 at h
 dsimp only at h
 split at h
 .cases h
  exact ⟨_,rfl,zcm hq _ _ hp,qx rfl⟩
 .cases h
theorem zlv (hq:qf (cfg sp)) (a0 a1:Int) (hp:(0<=a0/\0<=a1/\a0<=4611686018427387904/\a1<=4611686018427387904)):kx XK szK (cfg sp) 99 [.int .i64 none a0,.int .i64 none a1] (q44 a0 a1):=
 ke zw zk qq hq (qj rfl) (by simp [P.flat,P.cellsOf,RT]) (zlx a0 a1) (zlw a0 a1 hp)
theorem q02 (hq:qf (cfg sp)):jc XK szK (cfg sp) 99 zg2:=by
 intro ns pre r h hp
 unfold zg2 at h
 dsimp only at h
 split at h
 .cases h
  exact ⟨_,rfl,zlv hq _ _ hp,qx rfl⟩
 .cases h
theorem zb5 (hq:qf (cfg sp)) (a0 a1:Int):kx XK szK (cfg sp) 58 [.agg [.int .i64 none a0,.int .i64 none a1]] (qtv a0 a1):=
 ke zw zk (qa (q02 hq) qq) hq (qj rfl) (by simp [P.flat,P.cellsOf,RT]) (zb7 a0 a1) (zb6 a0 a1 )
theorem qka (hq:qf (cfg sp)):jc XK szK (cfg sp) 58 q00:=by
 intro ns pre r h hp
 unfold q00 at h
 dsimp only at h
 split at h
 .cases h
  exact ⟨_,rfl,zb5 hq _ _,qx rfl⟩
 .cases h
theorem zpz (hq:qf (cfg sp)) (a0 a1:Int) (hp:(0<=a0/\1<=a1/\a0<=4611686018427387904/\a1<=4611686018427387904)):kx XK szK (cfg sp) 98 [.int .i64 none a0,.int .i64 none a1] (za8 a0 a1):=
 ke zw zk (qa (q02 hq) qq) hq (qj rfl) (by simp [P.flat,P.cellsOf,RT]) (zp0 a0 a1) (zib a0 a1 hp)
theorem zae (hq:qf (cfg sp)):jc XK szK (cfg sp) 98 zln:=by
 intro ns pre r h hp
 unfold zln at h
 dsimp only at h
 split at h
 .cases h
  exact ⟨_,rfl,zpz hq _ _ hp,qx rfl⟩
 .cases h
theorem zjk (hq:qf (cfg sp)) (a0 a1 a2 a3:Int):kx XK szK (cfg sp) 57 [.agg [.int .i64 none a0,.int .i64 none a1],.agg [.int .i64 none a2,.int .i64 none a3]] (q2s a0 a1 a2 a3):=
 ke zw zk (qa (qka hq) (qa (zae hq) qq)) hq (qj rfl) (by simp [P.flat,P.cellsOf,RT]) (zjm a0 a1 a2 a3) (zjl a0 a1 a2 a3 )
theorem qtf (hq:qf (cfg sp)):jc XK szK (cfg sp) 57 zdp:=by
 intro ns pre r h hp
 unfold zdp at h
 dsimp only at h
 split at h
 .cases h
  exact ⟨_,rfl,zjk hq _ _ _ _,qx rfl⟩
 .cases h
theorem zj6 (hq:qf (cfg sp)) (a0 a1 a2 a3:Int):kx XK szK (cfg sp) 73 [.agg [.int .i64 none a0,.int .i64 none a1],.agg [.int .i64 none a2,.int .i64 none a3]] (q3s a0 a1 a2 a3):=
 ke zw zk (qa (qka hq) (qa (zae hq) qq)) hq (qj rfl) (by simp [P.flat,P.cellsOf,RT]) (zj8 a0 a1 a2 a3) (zj7 a0 a1 a2 a3 )
theorem zlf (hq:qf (cfg sp)):jc XK szK (cfg sp) 73 zov:=by
 intro ns pre r h hp
 unfold zov at h
 dsimp only at h
 split at h
 .cases h
  exact ⟨_,rfl,zj6 hq _ _ _ _,qx rfl⟩
 .cases h
theorem ze4 (hq:qf (cfg sp)) (a0 a1 a2 a3:Int) (hp:(qfs a0 a1 a2 a3)):kx XK szK (cfg sp) 103 [.int .i64 none a0,.int .i64 none a1,.int .i64 none a2,.int .i64 none a3] (qw5 a0 a1 a2 a3):=
 ke zw zk (qa (q02 hq) qq) hq (qj rfl) (by simp [P.flat,P.cellsOf,RT]) (ze6 a0 a1 a2 a3) (ze5 a0 a1 a2 a3 hp)
theorem q4c (hq:qf (cfg sp)):jc XK szK (cfg sp) 103 q92:=by
 intro ns pre r h hp
 unfold q92 at h
 dsimp only at h
 split at h
 .cases h
  exact ⟨_,rfl,ze4 hq _ _ _ _ hp,qx rfl⟩
 .cases h
theorem zjz (hq:qf (cfg sp)) (a0 a1 a2 a3:Int):kx XK szK (cfg sp) 65 [.agg [.int .i64 none a0,.int .i64 none a1],.agg [.int .i64 none a2,.int .i64 none a3]] (q3i a0 a1 a2 a3):=
 ke zw zk (qa (qka hq) (qa (q4c hq) qq)) hq (qj rfl) (by simp [P.flat,P.cellsOf,RT]) (zj1 a0 a1 a2 a3) (zj0 a0 a1 a2 a3 )
theorem zk8 (hq:qf (cfg sp)):jc XK szK (cfg sp) 65 zop:=by
 intro ns pre r h hp
 unfold zop at h
 dsimp only at h
 split at h
 .cases h
  exact ⟨_,rfl,zjz hq _ _ _ _,qx rfl⟩
 .cases h
theorem zjq (hq:qf (cfg sp)) (a0 a1 a2 a3:Int):kx XK szK (cfg sp) 74 [.agg [.int .i64 none a0,.int .i64 none a1],.agg [.int .i64 none a2,.int .i64 none a3]] (q22 a0 a1 a2 a3):=
 ke zw zk (qa (qka hq) (qa (q4c hq) qq)) hq (qj rfl) (by simp [P.flat,P.cellsOf,RT]) (zjs a0 a1 a2 a3) (zjr a0 a1 a2 a3 )
theorem zlg (hq:qf (cfg sp)):jc XK szK (cfg sp) 74 zow:=by
 intro ns pre r h hp
 unfold zow at h
 dsimp only at h
 split at h
 .cases h
  exact ⟨_,rfl,zjq hq _ _ _ _,qx rfl⟩
 .cases h
theorem q64 (hq:qf (cfg sp)) (a0 a1 a2:Int):kx XK szK (cfg sp) 96 [.agg [.int .i64 none a0,.int .i64 none a1,.int .i64 none a2]] (qrx a0 a1 a2):=
 ke zw zk qq hq (qj rfl) (by simp [P.flat,P.cellsOf,RT]) (q66 a0 a1 a2) (q65 a0 a1 a2 )
theorem qo3 (hq:qf (cfg sp)):jc XK szK (cfg sp) 96 q75:=by
 intro ns pre r h hp
 unfold q75 at h
 dsimp only at h
 split at h
 .cases h
  exact ⟨_,rfl,q64 hq _ _ _,qx rfl⟩
 .cases h
theorem q3a (hq:qf (cfg sp)) (a0 a1 a2 a3 a4 a5:Int):kx XK szK (cfg sp) 100 [.agg [.int .i64 none a0,.int .i64 none a1,.int .i64 none a2],.agg [.int .i64 none a3,.int .i64 none a4,.int .i64 none a5]] (qom a0 a1 a2 a3 a4 a5):=
 ke zw zk (qa (qo3 hq) qq) hq (qj rfl) (by simp [P.flat,P.cellsOf,RT]) (q3c a0 a1 a2 a3 a4 a5) (q3b a0 a1 a2 a3 a4 a5 )
theorem zgv (hq:qf (cfg sp)):jc XK szK (cfg sp) 100 zgu:=by
 intro ns pre r h hp
 unfold zgu at h
 dsimp only at h
 split at h
 .cases h
  exact ⟨_,rfl,q3a hq _ _ _ _ _ _,qx rfl⟩
 .cases h
theorem zcs (hq:qf (cfg sp)) (a0 a1 a2 a3:Int) (hp:(I64 a3)):kx XK szK (cfg sp) 63 [.agg [.int .i64 none a0,.int .i64 none a1,.int .i64 none a2],.int .i64 none a3] (qt3 a0 a1 a2 a3):=
 ke zw zk (qa (qo3 hq) qq) hq (qj rfl) (by simp [P.flat,P.cellsOf,RT]) (zcu a0 a1 a2 a3) (zct a0 a1 a2 a3 hp)
theorem zk6 (hq:qf (cfg sp)):jc XK szK (cfg sp) 63 zoo:=by
 intro ns pre r h hp
 unfold zoo at h
 dsimp only at h
 split at h
 .cases h
  exact ⟨_,rfl,zcs hq _ _ _ _ hp,qx rfl⟩
 .cases h
theorem q0h (hq:qf (cfg sp)) (a0 a1 a2 a3 a4 a5:Int):kx XK szK (cfg sp) 75 [.agg [.int .i64 none a0,.int .i64 none a1,.int .i64 none a2],.agg [.int .i64 none a3,.int .i64 none a4,.int .i64 none a5]] (qm4 a0 a1 a2 a3 a4 a5):=
 ke zw zk (qa (qo3 hq) qq) hq (qj rfl) (by simp [P.flat,P.cellsOf,RT]) (q0j a0 a1 a2 a3 a4 a5) (q0i a0 a1 a2 a3 a4 a5 )
theorem zlh (hq:qf (cfg sp)):jc XK szK (cfg sp) 75 zox:=by
 intro ns pre r h hp
 unfold zox at h
 dsimp only at h
 split at h
 .cases h
  exact ⟨_,rfl,q0h hq _ _ _ _ _ _,qx rfl⟩
 .cases h
theorem q60 (hq:qf (cfg sp)) (a0 a1 a2 a3:Int):kx XK szK (cfg sp) 59 [.agg [.int .i64 none a0,.int .i64 none a1,.int .i64 none a2,.int .i64 none a3]] (qrw a0 a1 a2 a3):=
 ke zw zk qq hq (qj rfl) (by simp [P.flat,P.cellsOf,RT]) (q62 a0 a1 a2 a3) (q61 a0 a1 a2 a3 )
theorem zk2 (hq:qf (cfg sp)):jc XK szK (cfg sp) 59 zol:=by
 intro ns pre r h hp
 unfold zol at h
 dsimp only at h
 split at h
 .cases h
  exact ⟨_,rfl,q60 hq _ _ _ _,qx rfl⟩
 .cases h
theorem zic (hq:qf (cfg sp)) (a0 a1 a2 a3 a4 a5 a6:Int) (a7:Bool) (a8 a9 a10 a11:Int):kx XK szK (cfg sp) 56 [.agg [.int .i64 none a0,.int .i64 none a1,.int .i64 none a2,.int .i64 none a3,.int .i64 none a4,.int .i64 none a5,.int .i64 none a6,.sb 0 false a7 (a7=true) (a7=false),.int .i64 none a8,.int .i64 none a9],.agg [.int .i64 none a10,.int .i64 none a11]] (qzs a0 a1 a2 a3 a4 a5 a6 a7 a8 a9 a10 a11):=
 ke zw zk (qa (qka hq) (qa (qo3 hq) (qa (qtf hq) qq))) hq (qj rfl) (by simp [P.flat,P.cellsOf,RT]) (zie a0 a1 a2 a3 a4 a5 a6 a7 a8 a9 a10 a11) (zid a0 a1 a2 a3 a4 a5 a6 a7 a8 a9 a10 a11 )
theorem zk1 (hq:qf (cfg sp)):jc XK szK (cfg sp) 56 zok:=by
 intro ns pre r h hp
 unfold zok at h
 dsimp only at h
 split at h
 .cases h
  exact ⟨_,rfl,zic hq _ _ _ _ _ _ _ _ _ _ _ _,qx rfl⟩
 .cases h
theorem q6w (hq:qf (cfg sp)) (a0:List Event) (hp:(ln a0<=1000000000)):kx XK szK (cfg sp) 28 [.list 11 a0 none] (qrv a0):=
 ke zw zk (qa (zk1 hq) (qa (qtf hq) qq)) hq (qj rfl) (by simp [P.flat,P.cellsOf,RT]) (q6y a0) (q6x a0 hp)
theorem qj8 (hq:qf (cfg sp)):jc XK szK (cfg sp) 28 q0y:=by
 intro ns pre r h hp
 unfold q0y at h
 dsimp only at h
 split at h
 .cases h
  exact ⟨_,rfl,q6w hq _ hp,qx rfl⟩
 .cases h
theorem zfo (hq:qf (cfg sp)) (a0:List Event) (hp:(ln a0<=1000000000)):kx XK szK (cfg sp) 72 [.list 11 a0 none] (qyb a0):=
 ke zw zk (qa (qj8 hq) (qa (qtf hq) qq)) hq (qj rfl) (by simp [P.flat,P.cellsOf,RT]) (zfq a0) (zfp a0 hp)
theorem zle (hq:qf (cfg sp)):jc XK szK (cfg sp) 72 zou:=by
 intro ns pre r h hp
 unfold zou at h
 dsimp only at h
 split at h
 .cases h
  exact ⟨_,rfl,zfo hq _ hp,qx rfl⟩
 .cases h
theorem zc4 (hq:qf (cfg sp)) (a0:List Event) (a1 a2:Int) (hp:(ln a0<=1000000000)):kx XK szK (cfg sp) 64 [.list 11 a0 none,.agg [.int .i64 none a1,.int .i64 none a2]] (qub a0 a1 a2):=
 ke zw zk (qa (qj8 hq) (qa (qka hq) qq)) hq (qj rfl) (by simp [P.flat,P.cellsOf,RT]) (zc6 a0 a1 a2) (zc5 a0 a1 a2 hp)
theorem zaa (hq:qf (cfg sp)):jc XK szK (cfg sp) 64 zk7:=by
 intro ns pre r h hp
 unfold zk7 at h
 dsimp only at h
 split at h
 .cases h
  exact ⟨_,rfl,zc4 hq _ _ _ hp,qx rfl⟩
 .cases h
theorem zdj (hq:qf (cfg sp)) (a0:List Event) (hp:(ln a0<=1000000000)):kx XK szK (cfg sp) 66 [.list 11 a0 none] (quw a0):=
 qvn zw zk (qa (qtf hq) qq) hq (qj rfl) (by simp [P.flat,P.cellsOf,RT]) (zdl a0) (zdk a0 hp)
theorem q01 (hq:qf (cfg sp)):jc XK szK (cfg sp) 66 zg0:=by
 intro ns pre r h hp
 unfold zg0 at h
 dsimp only at h
 split at h
 .cases h
  exact ⟨_,rfl,zdj hq _ hp,qx rfl⟩
 .cases h
theorem zcy (hq:qf (cfg sp)) (a0:List Event) (hp:(ln a0<=1000000000)):kx XK szK (cfg sp) 60 [.list 11 a0 none] (qt7 a0):=
 qvn zw zk (qa (qj8 hq) (qa (q01 hq) qq)) hq (qj rfl) (by simp [P.flat,P.cellsOf,RT]) (zc0 a0) (zcz a0 hp)
theorem zk3 (hq:qf (cfg sp)):jc XK szK (cfg sp) 60 zom:=by
 intro ns pre r h hp
 unfold zom at h
 dsimp only at h
 split at h
 .cases h
  exact ⟨_,rfl,zcy hq _ hp,qx rfl⟩
 .cases h
theorem q7j (hq:qf (cfg sp)) (a0:List Event) (a1 a2 a3:Int) (hp:(ln a0<=1000000000)):kx XK szK (cfg sp) 62 [.list 11 a0 none,.agg [.int .i64 none a1,.int .i64 none a2,.int .i64 none a3]] (qr0 a0 a1 a2 a3):=
 ke zw zk (qa (qj8 hq) (qa (qo3 hq) (qa (zgv hq) qq))) hq (qj rfl) (by simp [P.flat,P.cellsOf,RT]) (q7l a0 a1 a2 a3) (q7k a0 a1 a2 a3 hp)
theorem zk5 (hq:qf (cfg sp)):jc XK szK (cfg sp) 62 zon:=by
 intro ns pre r h hp
 unfold zon at h
 dsimp only at h
 split at h
 .cases h
  exact ⟨_,rfl,q7j hq _ _ _ _ hp,qx rfl⟩
 .cases h
theorem zf5 (hq:qf (cfg sp)) (a0:List Event) (a1:Int) (hp:(ln a0<=1000000000/\I64 a1)):kx XK szK (cfg sp) 31 [.list 11 a0 none,.int .i64 none a1] (qyi a0 a1):=
 ke zw zk (qa (qj8 hq) (qa (zk6 hq) qq)) hq (qj rfl) (by simp [P.flat,P.cellsOf,RT]) (zf7 a0 a1) (zf6 a0 a1 hp)
theorem zkq (hq:qf (cfg sp)):jc XK szK (cfg sp) 31 zoa:=by
 intro ns pre r h hp
 unfold zoa at h
 dsimp only at h
 split at h
 .cases h
  exact ⟨_,rfl,zf5 hq _ _ hp,qx rfl⟩
 .cases h
theorem q3m (hq:qf (cfg sp)) (a0:List Event) (a1 a2:Int) (hp:(ln a0<=1000000000)):kx XK szK (cfg sp) 32 [.list 11 a0 none,.agg [.int .i64 none a1,.int .i64 none a2]] (qop a0 a1 a2):=
 ke zw zk (qa (zaa hq) (qa (zk8 hq) (qa (q01 hq) qq))) hq (qj rfl) (by simp [P.flat,P.cellsOf,RT]) (q3o a0 a1 a2) (q3n a0 a1 a2 hp)
theorem zkr (hq:qf (cfg sp)):jc XK szK (cfg sp) 32 zob:=by
 intro ns pre r h hp
 unfold zob at h
 dsimp only at h
 split at h
 .cases h
  exact ⟨_,rfl,q3m hq _ _ _ hp,qx rfl⟩
 .cases h
theorem zcc (hq:qf (cfg sp)) (a0:List Event) (a1 a2:Int) (hp:(ln a0<=1000000000)):kx XK szK (cfg sp) 33 [.list 11 a0 none,.agg [.int .i64 none a1,.int .i64 none a2]] (qtx a0 a1 a2):=
 qvn zw zk (qa (zaa hq) (qa (q01 hq) qq)) hq (qj rfl) (by simp [P.flat,P.cellsOf,RT]) (zce a0 a1 a2) (zcd a0 a1 a2 hp)
theorem zks (hq:qf (cfg sp)):jc XK szK (cfg sp) 33 zoc:=by
 intro ns pre r h hp
 unfold zoc at h
 dsimp only at h
 split at h
 .cases h
  exact ⟨_,rfl,zcc hq _ _ _ hp,qx rfl⟩
 .cases h
theorem q6s (hq:qf (cfg sp)) (a0 a1 a2:Int) (a3 a4:Bool) (a5 a6 a7 a8 a9 a10:Int):kx XK szK (cfg sp) 29 [.agg [.int .i64 none a0,.int .i64 none a1,.int .i64 none a2,.sb 0 false a3 (a3=true) (a3=false),.sb 0 false a4 (a4=true) (a4=false),.int .i64 none a5,.int .i64 none a6,.int .i64 none a7,.int .i64 none a8,.int .i64 none a9,.int .i64 none a10]] (qru a0 a1 a2 a3 a4 a5 a6 a7 a8 a9 a10):=
 ke zw zk (qa (qka hq) (qa (zk2 hq) qq)) hq (qj rfl) (by simp [P.flat,P.cellsOf,RT]) (q6u a0 a1 a2 a3 a4 a5 a6 a7 a8 a9 a10) (q6t a0 a1 a2 a3 a4 a5 a6 a7 a8 a9 a10 )
theorem zko (hq:qf (cfg sp)):jc XK szK (cfg sp) 29 zn9:=by
 intro ns pre r h hp
 unfold zn9 at h
 dsimp only at h
 split at h
 .cases h
  exact ⟨_,rfl,q6s hq _ _ _ _ _ _ _ _ _ _ _,qx rfl⟩
 .cases h
theorem zdy (hq:qf (cfg sp)) (a0:List Event) (hp:(ln a0<=1000000000)):kx XK szK (cfg sp) 61 [.list 11 a0 none] (qvj a0):=
 ke zw zk qq hq (qj rfl) (by simp [P.flat,P.cellsOf,RT]) (zd0 a0) (zdz a0 hp)
theorem q99 (hq:qf (cfg sp)):jc XK szK (cfg sp) 61 zk4:=by
 intro ns pre r h hp
 unfold zk4 at h
 dsimp only at h
 split at h
 .cases h
  exact ⟨_,rfl,zdy hq _ hp,qx rfl⟩
 .cases h
theorem q9i (hq:qf (cfg sp)) (a0:List Event) (a1 a2:Bool) (hp:(ln a0<=1000000000)):kx XK szK (cfg sp) 30 [.list 11 a0 none,.sb 0 false a1 (a1=true) (a1=false),.sb 0 false a2 (a2=true) (a2=false)] (qs5 a0 a1 a2):=
 ke zw zk (qa (zk3 hq) (qa (q99 hq) (qa (zk5 hq) qq))) hq (qj rfl) (by simp [P.flat,P.cellsOf,RT]) (q9k a0 a1 a2) (q9j a0 a1 a2 hp)
theorem q97 (hq:qf (cfg sp)):jc XK szK (cfg sp) 30 zkp:=by
 intro ns pre r h hp
 unfold zkp at h
 dsimp only at h
 split at h
 .cases h
  exact ⟨_,rfl,q9i hq _ _ _ hp,qx rfl⟩
 .cases h
theorem zdc (hq:qf (cfg sp)) (a0 a1:List Event) (hp:(ln a0<=1000000000/\ln a1<=1000000000)):kx XK szK (cfg sp) 76 [.list 11 a0 none,.list 11 a1 none] (que a0 a1):=
 ke zw zk qq hq (qj rfl) (by simp [P.flat,P.cellsOf,RT]) (zde a0 a1) (zdd a0 a1 hp)
theorem zli (hq:qf (cfg sp)):jc XK szK (cfg sp) 76 zoy:=by
 intro ns pre r h hp
 unfold zoy at h
 dsimp only at h
 split at h
 .cases h
  exact ⟨_,rfl,zdc hq _ _ hp,qx rfl⟩
 .cases h
theorem zfw (hq:qf (cfg sp)) (a0:List Event) (a1 a2 a3:Int) (a4 a5:Bool) (a6 a7 a8 a9 a10 a11:Int) (hp:(ln a0<=1000000000/\I64 a3)):kx XK szK (cfg sp) 13 [.list 11 a0 none,.agg [.int .i64 none a1,.int .i64 none a2,.int .i64 none a3,.sb 0 false a4 (a4=true) (a4=false),.sb 0 false a5 (a5=true) (a5=false),.int .i64 none a6,.int .i64 none a7,.int .i64 none a8,.int .i64 none a9,.int .i64 none a10,.int .i64 none a11]] (qyd a0 a1 a2 a3 a4 a5 a6 a7 a8 a9 a10 a11):=
 ke zw zk (qa (qj8 hq) (qa (zko hq) (qa (q97 hq) (qa (zkq hq) (qa (zkr hq) (qa (zks hq) qq)))))) hq (qj rfl) (by simp [P.flat,P.cellsOf,RT]) (zfy a0 a1 a2 a3 a4 a5 a6 a7 a8 a9 a10 a11) (zfx a0 a1 a2 a3 a4 a5 a6 a7 a8 a9 a10 a11 hp)
theorem q96 (hq:qf (cfg sp)):jc XK szK (cfg sp) 13 zki:=by
 intro ns pre r h hp
 unfold zki at h
 dsimp only at h
 split at h
 .cases h
  exact ⟨_,rfl,zfw hq _ _ _ _ _ _ _ _ _ _ _ _ hp,qx rfl⟩
 .cases h
theorem zcp (hq:qf (cfg sp)) (a0 a1:List Event) (hp:(ln a0<=1000000000/\ln a1<=1000000000)):kx XK szK (cfg sp) 15 [.list 11 a0 none,.list 11 a1 none] (qt0 a0 a1):=
 ke zw zk (qa (qj8 hq) (qa (q97 hq) (qa (zle hq) (qa (zlf hq) (qa (zlg hq) (qa (q99 hq) (qa (zlh hq) (qa (q96 hq) (qa (zli hq) qq))))))))) hq (qj rfl) (by simp [P.flat,P.cellsOf,RT]) (zcr a0 a1) (zcq a0 a1 hp)
theorem zkk (hq:qf (cfg sp)):jc XK szK (cfg sp) 15 zn5:=by
 intro ns pre r h hp
 unfold zn5 at h
 dsimp only at h
 split at h
 .cases h
  exact ⟨_,rfl,zcp hq _ _ hp,qx rfl⟩
 .cases h
theorem qxh (hq:qf (cfg sp)) (a0 a1:List Event) (hp:(ln a0<=1000000000)):kx XK szK (cfg sp) 16 [.list 11 a0 none,.list 11 a1 none] (qlf a0 a1):=
 ke zw zk qq hq (qj rfl) (by simp [P.flat,P.cellsOf,RT]) (qxj a0 a1) (qxi a0 a1 hp)
theorem zkl (hq:qf (cfg sp)):jc XK szK (cfg sp) 16 zn6:=by
 intro ns pre r h hp
 unfold zn6 at h
 dsimp only at h
 split at h
 .cases h
  exact ⟨_,rfl,qxh hq _ _ hp,qx rfl⟩
 .cases h
theorem q0m (hq:qf (cfg sp)) (a0:List Event) (hp:(ln a0<=100000000)):kx XK szK (cfg sp) 12 [.list 11 a0 none] (qm5 a0):=
 qvn zw zk qq hq (qj rfl) (by simp [P.flat,P.cellsOf,RT]) (q0o a0) (q0n a0 hp)
theorem zkh (hq:qf (cfg sp)):jc XK szK (cfg sp) 12 zn3:=by
 intro ns pre r h hp
 unfold zn3 at h
 dsimp only at h
 split at h
 .cases h
  exact ⟨_,rfl,q0m hq _ hp,qx rfl⟩
 .cases h
theorem qx0 (hq:qf (cfg sp)) (a0 a1:List Canon) (hp:(ln a0<=1000000000)):kx XK szK (cfg sp) 17 [.list 25 a0 none,.list 25 a1 none] (qme a0 a1):=
 ke zw zk qq hq (qj rfl) (by simp [P.flat,P.cellsOf,RT]) (qx2 a0 a1) (qx1 a0 a1 hp)
theorem zkm (hq:qf (cfg sp)):jc XK szK (cfg sp) 17 zn7:=by
 intro ns pre r h hp
 unfold zn7 at h
 dsimp only at h
 split at h
 .cases h
  exact ⟨_,rfl,qx0 hq _ _ hp,qx rfl⟩
 .cases h
theorem q5e (hq:qf (cfg sp)) (hf10:jc XK szK (cfg sp) 10 zkg) (a0 a1:List Event) (a2 a3 a4:Int) (a5 a6:Bool) (a7 a8 a9 a10 a11 a12:Int) (hp:(ln a0<=9223372036854775807/\ln a1<=9223372036854775807/\I64 a4)):kx XK szK (cfg sp) 4 [.list 11 a0 none,.list 11 a1 none,.agg [.int .i64 none a2,.int .i64 none a3,.int .i64 none a4,.sb 0 false a5 (a5=true) (a5=false),.sb 0 false a6 (a6=true) (a6=false),.int .i64 none a7,.int .i64 none a8,.int .i64 none a9,.int .i64 none a10,.int .i64 none a11,.int .i64 none a12]] (qpl a0 a1 a2 a3 a4 a5 a6 a7 a8 a9 a10 a11 a12):=
 ke zw zk (qa hf10 (qa (zkh hq) (qa (zg1 hq) (qa (q96 hq) (qa (zkj hq) (qa (zkk hq) (qa (zkl hq) (qa (zkm hq) qq)))))))) hq (qj rfl) (by simp [P.flat,P.cellsOf,RT]) (q5g a0 a1 a2 a3 a4 a5 a6 a7 a8 a9 a10 a11 a12) (q5f a0 a1 a2 a3 a4 a5 a6 a7 a8 a9 a10 a11 a12 hp)
end Go.Proofs.YtcnoipglgpkpeaaGreatDoor
