/- THE FUNCTIONS on signs as words meet their contracts. Made by program (vc.py). -/
import Derived.Test.YtbopmiclcimjgaaGreatDoorOks
namespace Go.Proofs.YtbopmiclcimjgaaGreatDoor
open Go Go.E2 Go.E3
set_option maxRecDepth 100000
variable {sp:Nat->Option (List V->Heap->Option (CR×Heap))}

theorem za8 (hq:ze (cfg sp)):qb4 XK szK (cfg sp) 137 za7:=by
  intro ns pre r h hp
  unfold za7 at h
  dsimp only at h
  split at h
  . cases h
    exact ⟨_,rfl,q8p jd hq (f:=137) rfl (by kernel_rfl) _ _,zp rfl⟩
  . cases h
theorem q7r (hq:ze (cfg sp)) (a0:Int) (a1:Int) (a2:Int) (a3:Int):qa4 XK szK (cfg sp) 59 [.agg [.int .i64 none (a0),.int .i64 none (a1),.int .i64 none (a2),.int .i64 none (a3)]] (qsf a0 a1 a2 a3):=
  qbc qaw jd (zn) hq (zg rfl) (by simp [P.flat,P.cellsOf,RT]) (q7t a0 a1 a2 a3) (q7s a0 a1 a2 a3 )
theorem q5w (hq:ze (cfg sp)):qb4 XK szK (cfg sp) 59 zfg:=by
  intro ns pre r h hp
  unfold zfg at h
  dsimp only at h
  split at h
  . cases h
    exact ⟨_,rfl,q7r hq _ _ _ _,zp rfl⟩
  . cases h
theorem zeu (hq:ze (cfg sp)) (a0:Int) (a1:Int) (a2:Int) (a3:Int) (a4:Bool) (a5:Int) (a6:Bool) (a7:Bool) (a8:Int) (a9:Int) (a10:Int) (a11:Int) (a12:Bool) (a13:Int) (a14:Int) (a15:Int) (a16:Int):qa4 XK szK (cfg sp) 32 [.agg [.int .i64 none (a0),.int .i64 none (a1),.int .i64 none (a2),.int .i64 none (a3),.sb 0 false (a4) (a4=true) (a4=false),.int .i64 none (a5),.sb 0 false (a6) (a6=true) (a6=false),.sb 0 false (a7) (a7=true) (a7=false),.int .i64 none (a8),.int .i64 none (a9),.int .i64 none (a10),.int .i64 none (a11),.sb 0 false (a12) (a12=true) (a12=false),.int .i64 none (a13),.int .i64 none (a14),.int .i64 none (a15),.int .i64 none (a16)]] (qzm a0 a1 a2 a3 a4 a5 a6 a7 a8 a9 a10 a11 a12 a13 a14 a15 a16):=
  qbc qaw jd (ql (q5w hq) (zn)) hq (zg rfl) (by simp [P.flat,P.cellsOf,RT]) (zew a0 a1 a2 a3 a4 a5 a6 a7 a8 a9 a10 a11 a12 a13 a14 a15 a16) (zev a0 a1 a2 a3 a4 a5 a6 a7 a8 a9 a10 a11 a12 a13 a14 a15 a16 )
theorem q5r (hq:ze (cfg sp)):qb4 XK szK (cfg sp) 32 zfa:=by
  intro ns pre r h hp
  unfold zfa at h
  dsimp only at h
  split at h
  . cases h
    exact ⟨_,rfl,zeu hq _ _ _ _ _ _ _ _ _ _ _ _ _ _ _ _ _,zp rfl⟩
  . cases h
theorem qxt (hq:ze (cfg sp)) (a0:List UInt8) (a1:List UInt8):qa4 XK szK (cfg sp) 94 [.str (a0),.str (a1)] (ql3 a0 a1):=
  qbc qaw jd (zn) hq (zg rfl) (by simp [P.flat,P.cellsOf,RT]) (qxv a0 a1) (qxu a0 a1 )
theorem q51 (hq:ze (cfg sp)):qb4 XK szK (cfg sp) 94 zfn:=by
  intro ns pre r h hp
  unfold zfn at h
  dsimp only at h
  split at h
  . cases h
    exact ⟨_,rfl,qxt hq _ _,zp rfl⟩
  . cases h
theorem q9y (hq:ze (cfg sp)) (a0:Int) (a1:Int) (a2:Int) (a3:Int):qa4 XK szK (cfg sp) 114 [.agg [.int .i64 none (a0),.int .i64 none (a1),.int .i64 none (a2),.int .i64 none (a3)]] (quz a0 a1 a2 a3):=
  qbc qaw jd (zn) hq (zg rfl) (by simp [P.flat,P.cellsOf,RT]) (q90 a0 a1 a2 a3) (q9z a0 a1 a2 a3 )
theorem qz9 (hq:ze (cfg sp)):qb4 XK szK (cfg sp) 114 q5p:=by
  intro ns pre r h hp
  unfold q5p at h
  dsimp only at h
  split at h
  . cases h
    exact ⟨_,rfl,q9y hq _ _ _ _,zp rfl⟩
  . cases h
theorem q70 (hq:ze (cfg sp)) (a0:Int) (a1:Int) (a2:Int) (a3:Int):qa4 XK szK (cfg sp) 74 [.agg [.int .i64 none (a0),.int .i64 none (a1),.int .i64 none (a2),.int .i64 none (a3)]] (qsn a0 a1 a2 a3):=
  qbc qaw jd (ql (q5w hq) (ql (qz9 hq) (zn))) hq (zg rfl) (by simp [P.flat,P.cellsOf,RT]) (q72 a0 a1 a2 a3) (q71 a0 a1 a2 a3 )
theorem q5x (hq:ze (cfg sp)):qb4 XK szK (cfg sp) 74 zfh:=by
  intro ns pre r h hp
  unfold zfh at h
  dsimp only at h
  split at h
  . cases h
    exact ⟨_,rfl,q70 hq _ _ _ _,zp rfl⟩
  . cases h
theorem q3b (hq:ze (cfg sp)) (a0:List UInt8):qa4 XK szK (cfg sp) 78 [.str (a0)] (qqq a0):=
  qbc qaw jd (ql (qz9 hq) (zn)) hq (zg rfl) (by simp [P.flat,P.cellsOf,RT]) (q3d a0) (q3c a0 )
theorem q5z (hq:ze (cfg sp)):qb4 XK szK (cfg sp) 78 zfj:=by
  intro ns pre r h hp
  unfold zfj at h
  dsimp only at h
  split at h
  . cases h
    exact ⟨_,rfl,q3b hq _,zp rfl⟩
  . cases h
theorem q24 (hq:ze (cfg sp)) (a0:List UInt8) (hp:(ln a0<=1000000)):qa4 XK szK (cfg sp) 118 [.str (a0)] (qqn a0):=
  qbc qaw jd (zn) hq (zg rfl) (by simp [P.flat,P.cellsOf,RT]) (q26 a0) (q25 a0 hp)
theorem qta (hq:ze (cfg sp)):qb4 XK szK (cfg sp) 118 q0a:=by
  intro ns pre r h hp
  unfold q0a at h
  dsimp only at h
  split at h
  . cases h
    exact ⟨_,rfl,q24 hq _ hp,zp rfl⟩
  . cases h
theorem q3i (hq:ze (cfg sp)) (a0:List UInt8) (hp:(ln a0<=1000000)):qa4 XK szK (cfg sp) 136 [.str (a0)] (qqs a0):=
  qbc qaw jd (ql (qta hq) (zn)) hq (zg rfl) (by simp [P.flat,P.cellsOf,RT]) (q3k a0) (q3j a0 hp)
theorem q0b (hq:ze (cfg sp)):qb4 XK szK (cfg sp) 136 q5q:=by
  intro ns pre r h hp
  unfold q5q at h
  dsimp only at h
  split at h
  . cases h
    exact ⟨_,rfl,q3i hq _ hp,zp rfl⟩
  . cases h
theorem q21 (hq:ze (cfg sp)) (a0:List UInt8) (hp:(ln a0<=1000000)):qa4 XK szK (cfg sp) 101 [.str (a0)] (qqm a0):=
  qbc qaw jd (zn) hq (zg rfl) (by simp [P.flat,P.cellsOf,RT]) (q23 a0) (q22 a0 hp)
theorem qz8 (hq:ze (cfg sp)):qb4 XK szK (cfg sp) 101 q5o:=by
  intro ns pre r h hp
  unfold q5o at h
  dsimp only at h
  split at h
  . cases h
    exact ⟨_,rfl,q21 hq _ hp,zp rfl⟩
  . cases h
theorem q3f (hq:ze (cfg sp)) (a0:List UInt8) (hp:(ln a0<=1000000)):qa4 XK szK (cfg sp) 125 [.str (a0)] (qqr a0):=
  qbc qaw jd (ql (qz8 hq) (zn)) hq (zg rfl) (by simp [P.flat,P.cellsOf,RT]) (q3h a0) (q3g a0 hp)
theorem za6 (hq:ze (cfg sp)):qb4 XK szK (cfg sp) 125 za5:=by
  intro ns pre r h hp
  unfold za5 at h
  dsimp only at h
  split at h
  . cases h
    exact ⟨_,rfl,q3f hq _ hp,zp rfl⟩
  . cases h
theorem q98 (hq:ze (cfg sp)) (a0:List UInt8) (a1:Int) (hp:(U8 a1/\ln a0<=1000000)):qa4 XK szK (cfg sp) 100 [.str (a0),.int .u8 none (a1)] (qv1 a0 a1):=
  qbc qaw jd (zn) hq (zg rfl) (by simp [P.flat,P.cellsOf,RT]) (zaa a0 a1) (q99 a0 a1 hp)
theorem za0 (hq:ze (cfg sp)):qb4 XK szK (cfg sp) 100 zaz:=by
  intro ns pre r h hp
  unfold zaz at h
  dsimp only at h
  split at h
  . cases h
    exact ⟨_,rfl,q98 hq _ _ hp,zp rfl⟩
  . cases h
theorem q2s (hq:ze (cfg sp)) (a0:Int) (a1:Int) (a2:Int) (a3:Int):qa4 XK szK (cfg sp) 92 [.agg [.int .i64 none (a0),.int .i64 none (a1),.int .i64 none (a2),.int .i64 none (a3)]] (qqj a0 a1 a2 a3):=
  qbc qaw jd (zn) hq (zg rfl) (by simp [P.flat,P.cellsOf,RT]) (q2u a0 a1 a2 a3) (q2t a0 a1 a2 a3 )
theorem q50 (hq:ze (cfg sp)):qb4 XK szK (cfg sp) 92 zfl:=by
  intro ns pre r h hp
  unfold zfl at h
  dsimp only at h
  split at h
  . cases h
    exact ⟨_,rfl,q2s hq _ _ _ _,zp rfl⟩
  . cases h
theorem q7x (hq:ze (cfg sp)) (a0:Int) (a1:Int) (a2:Int) (a3:Int):qa4 XK szK (cfg sp) 39 [.agg [.int .i64 none (a0),.int .i64 none (a1),.int .i64 none (a2),.int .i64 none (a3)]] (qsm a0 a1 a2 a3):=
  qbc qaw jd (ql (q50 hq) (zn)) hq (zg rfl) (by simp [P.flat,P.cellsOf,RT]) (q7z a0 a1 a2 a3) (q7y a0 a1 a2 a3 )
theorem q5u (hq:ze (cfg sp)):qb4 XK szK (cfg sp) 39 zfe:=by
  intro ns pre r h hp
  unfold zfe at h
  dsimp only at h
  split at h
  . cases h
    exact ⟨_,rfl,q7x hq _ _ _ _,zp rfl⟩
  . cases h
theorem zh5 (hq:ze (cfg sp)) (a0:Int) (hp:(0<=a0/\a0<=15)):qa4 XK szK (cfg sp) 140 [.int .i64 none (a0)] (q5d a0):=
  qbc qaw jd (zn) hq (zg rfl) (by simp [P.flat,P.cellsOf,RT]) (zh7 a0) (zh6 a0 hp)
theorem zba (hq:ze (cfg sp)):qb4 XK szK (cfg sp) 140 za9:=by
  intro ns pre r h hp
  unfold za9 at h
  dsimp only at h
  split at h
  . cases h
    exact ⟨_,rfl,zh5 hq _ hp,zp rfl⟩
  . cases h
theorem q28 (hq:ze (cfg sp)) (a0:List UInt8):qa4 XK szK (cfg sp) 124 [.str (a0)] (qqo a0):=
  qbc qaw jd (ql (zba hq) (ql (q5u hq) (zn))) hq (zg rfl) (by simp [P.flat,P.cellsOf,RT]) (q3a a0) (q29 a0 )
theorem za4 (hq:ze (cfg sp)):qb4 XK szK (cfg sp) 124 za3:=by
  intro ns pre r h hp
  unfold za3 at h
  dsimp only at h
  split at h
  . cases h
    exact ⟨_,rfl,q28 hq _,zp rfl⟩
  . cases h
theorem qva (hq:ze (cfg sp)) (a0:List UInt8) (a1:Int) (hp:(U8 a1)):qa4 XK szK (cfg sp) 77 [.str (a0),.int .u8 none (a1)] (qkc a0 a1):=
  qbc qaw jd (ql (za8 hq) (zn)) hq (zg rfl) (by simp [P.flat,P.cellsOf,RT]) (qvc a0 a1) (qvb a0 a1 hp)
theorem q5y (hq:ze (cfg sp)):qb4 XK szK (cfg sp) 77 zfi:=by
  intro ns pre r h hp
  unfold zfi at h
  dsimp only at h
  split at h
  . cases h
    exact ⟨_,rfl,qva hq _ _ hp,zp rfl⟩
  . cases h
theorem zaj (hq:ze (cfg sp)) (hf117:qb4 XK szK (cfg sp) 117 qn0) (a0:Int) (a1:Int) (a2:Int) (a3:Int) (a4:Bool) (a5:Int) (a6:Bool) (a7:Bool) (a8:Int) (a9:Int) (a10:Int) (a11:Int) (a12:Bool) (a13:Int) (a14:Int) (a15:Int) (a16:Int):qa4 XK szK (cfg sp) 10 [.agg [.int .i64 none (a0),.int .i64 none (a1),.int .i64 none (a2),.int .i64 none (a3),.sb 0 false (a4) (a4=true) (a4=false),.int .i64 none (a5),.sb 0 false (a6) (a6=true) (a6=false),.sb 0 false (a7) (a7=true) (a7=false),.int .i64 none (a8),.int .i64 none (a9),.int .i64 none (a10),.int .i64 none (a11),.sb 0 false (a12) (a12=true) (a12=false),.int .i64 none (a13),.int .i64 none (a14),.int .i64 none (a15),.int .i64 none (a16)]] (qv5 a0 a1 a2 a3 a4 a5 a6 a7 a8 a9 a10 a11 a12 a13 a14 a15 a16):=
  qbc qaw jd (ql (q5r hq) (ql hf117 (ql (q51 hq) (ql (q0b hq) (ql (q5x hq) (ql (q5y hq) (ql (q5z hq) (ql (qta hq) (zn))))))))) hq (zg rfl) (by simp [P.flat,P.cellsOf,RT]) (zal a0 a1 a2 a3 a4 a5 a6 a7 a8 a9 a10 a11 a12 a13 a14 a15 a16) (zak a0 a1 a2 a3 a4 a5 a6 a7 a8 a9 a10 a11 a12 a13 a14 a15 a16 )
theorem ze4 (hq:ze (cfg sp)) (hf117:qb4 XK szK (cfg sp) 117 qn0):qb4 XK szK (cfg sp) 10 zib:=by
  intro ns pre r h hp
  unfold zib at h
  dsimp only at h
  split at h
  . cases h
    exact ⟨_,rfl,zaj hq hf117 _ _ _ _ _ _ _ _ _ _ _ _ _ _ _ _ _,zp rfl⟩
  . cases h
theorem zag (hq:ze (cfg sp)) (hf117:qb4 XK szK (cfg sp) 117 qn0) (a0:List UInt8) (hp:(ln a0<=300)):qa4 XK szK (cfg sp) 12 [.str (a0)] (qv4 a0):=
  qbc qaw jd (ql hf117 (ql (q51 hq) (ql (q0b hq) (ql (q5x hq) (ql (q5y hq) (ql (q5z hq) (ql (qta hq) (ql (q5r hq) (zn))))))))) hq (zg rfl) (by simp [P.flat,P.cellsOf,RT]) (zai a0) (zah a0 hp)
theorem ze6 (hq:ze (cfg sp)) (hf117:qb4 XK szK (cfg sp) 117 qn0):qb4 XK szK (cfg sp) 12 zid:=by
  intro ns pre r h hp
  unfold zid at h
  dsimp only at h
  split at h
  . cases h
    exact ⟨_,rfl,zag hq hf117 _ hp,zp rfl⟩
  . cases h
theorem zd6 (hq:ze (cfg sp)) (a0:List UInt8) (a1:Int) (hp:(U8 a1)):qa4 XK szK (cfg sp) 123 [.str (a0),.int .u8 none (a1)] (qxl a0 a1):=
  qbc qaw jd (zn) hq (zg rfl) (by simp [P.flat,P.cellsOf,RT]) (zd8 a0 a1) (zd7 a0 a1 hp)
theorem za2 (hq:ze (cfg sp)):qb4 XK szK (cfg sp) 123 za1:=by
  intro ns pre r h hp
  unfold za1 at h
  dsimp only at h
  split at h
  . cases h
    exact ⟨_,rfl,zd6 hq _ _ hp,zp rfl⟩
  . cases h
theorem q2y (hq:ze (cfg sp)) (a0:Int):qa4 XK szK (cfg sp) 27 [.int .i64 none (a0)] (qql a0):=
  qbc qaw jd (zn) hq (zg rfl) (by simp [P.flat,P.cellsOf,RT]) (q20 a0) (q2z a0 )
theorem ze8 (hq:ze (cfg sp)):qb4 XK szK (cfg sp) 27 zif:=by
  intro ns pre r h hp
  unfold zif at h
  dsimp only at h
  split at h
  . cases h
    exact ⟨_,rfl,q2y hq _,zp rfl⟩
  . cases h
theorem q73 (hq:ze (cfg sp)) (a0:List UInt8):qa4 XK szK (cfg sp) 29 [.str (a0)] (qso a0):=
  qbc qaw jd (zn) hq (zg rfl) (by simp [P.flat,P.cellsOf,RT]) (q75 a0) (q74 a0 )
theorem ze9 (hq:ze (cfg sp)):qb4 XK szK (cfg sp) 29 zig:=by
  intro ns pre r h hp
  unfold zig at h
  dsimp only at h
  split at h
  . cases h
    exact ⟨_,rfl,q73 hq _,zp rfl⟩
  . cases h
theorem q0d (hq:ze (cfg sp)):∀ (m:Nat) (a0:Int),((if a0<0 then (1000:Nat) else Int.toNat a0))=m->(-100<=a0/\a0<=100)->qa4 XK szK (cfg sp) 40 [.int .i64 none (a0)] (qku a0):=by
  intro m
  induction m using Nat.strongRecOn with
  | _ m ih=>
    intro a0 hm hp
    have hc:qb4 XK szK (cfg sp) 40 (zbb a0):=by
      intro ns pre r h hp2
      unfold zbb at h
      dsimp only at h
      split at h
      . cases h
        exact ⟨_,rfl,ih _ (by rw [<-hm];exact hp2.2) _ rfl hp2.1,zp rfl⟩
      . cases h
    exact qbc qaw jd (ql hc (zn)) hq (zg rfl) (by simp [P.flat,P.cellsOf,RT]) (q30 a0) (q3z a0 hp)
theorem q3y (hq:ze (cfg sp)) (a0:Int) (hp:(-100<=a0/\a0<=100)):qa4 XK szK (cfg sp) 40 [.int .i64 none (a0)] (qku a0):=q0d hq _ a0 rfl hp
theorem q5v (hq:ze (cfg sp)):qb4 XK szK (cfg sp) 40 zff:=by
  intro ns pre r h hp
  unfold zff at h
  dsimp only at h
  split at h
  . cases h
    exact ⟨_,rfl,q3y hq _ hp,zp rfl⟩
  . cases h
theorem zbq (hq:ze (cfg sp)) (a0:Int) (a1:Int) (a2:Int) (a3:Int) (a4:Bool) (a5:Int) (a6:Bool) (a7:Bool) (a8:Int) (a9:Int) (a10:Int) (a11:Int) (a12:Bool) (a13:Int) (a14:Int) (a15:Int) (a16:Int) (hp:(-100<=a2/\a2<=100)):qa4 XK szK (cfg sp) 37 [.agg [.int .i64 none (a0),.int .i64 none (a1),.int .i64 none (a2),.int .i64 none (a3),.sb 0 false (a4) (a4=true) (a4=false),.int .i64 none (a5),.sb 0 false (a6) (a6=true) (a6=false),.sb 0 false (a7) (a7=true) (a7=false),.int .i64 none (a8),.int .i64 none (a9),.int .i64 none (a10),.int .i64 none (a11),.sb 0 false (a12) (a12=true) (a12=false),.int .i64 none (a13),.int .i64 none (a14),.int .i64 none (a15),.int .i64 none (a16)]] (qwo a0 a1 a2 a3 a4 a5 a6 a7 a8 a9 a10 a11 a12 a13 a14 a15 a16):=
  qbc qaw jd (ql (q5v hq) (zn)) hq (zg rfl) (by simp [P.flat,P.cellsOf,RT]) (zbs a0 a1 a2 a3 a4 a5 a6 a7 a8 a9 a10 a11 a12 a13 a14 a15 a16) (zbr a0 a1 a2 a3 a4 a5 a6 a7 a8 a9 a10 a11 a12 a13 a14 a15 a16 hp)
theorem q5t (hq:ze (cfg sp)):qb4 XK szK (cfg sp) 37 zfc:=by
  intro ns pre r h hp
  unfold zfc at h
  dsimp only at h
  split at h
  . cases h
    exact ⟨_,rfl,zbq hq _ _ _ _ _ _ _ _ _ _ _ _ _ _ _ _ _ hp,zp rfl⟩
  . cases h
theorem zd9 (hq:ze (cfg sp)) (a0:Int) (a1:Int) (a2:Int) (a3:Int) (a4:Bool) (a5:Int) (a6:Bool) (a7:Bool) (a8:Int) (a9:Int) (a10:Int) (a11:Int) (a12:Bool) (a13:Int) (a14:Int) (a15:Int) (a16:Int) (hp:(-100<=a2/\a2<=100/\0<=a5/\a5<=3)):qa4 XK szK (cfg sp) 38 [.agg [.int .i64 none (a0),.int .i64 none (a1),.int .i64 none (a2),.int .i64 none (a3),.sb 0 false (a4) (a4=true) (a4=false),.int .i64 none (a5),.sb 0 false (a6) (a6=true) (a6=false),.sb 0 false (a7) (a7=true) (a7=false),.int .i64 none (a8),.int .i64 none (a9),.int .i64 none (a10),.int .i64 none (a11),.sb 0 false (a12) (a12=true) (a12=false),.int .i64 none (a13),.int .i64 none (a14),.int .i64 none (a15),.int .i64 none (a16)]] (qxn a0 a1 a2 a3 a4 a5 a6 a7 a8 a9 a10 a11 a12 a13 a14 a15 a16):=
  qbc qaw jd (ql (q5t hq) (zn)) hq (zg rfl) (by simp [P.flat,P.cellsOf,RT]) (zeb a0 a1 a2 a3 a4 a5 a6 a7 a8 a9 a10 a11 a12 a13 a14 a15 a16) (zea a0 a1 a2 a3 a4 a5 a6 a7 a8 a9 a10 a11 a12 a13 a14 a15 a16 hp)
theorem zfd (hq:ze (cfg sp)):qb4 XK szK (cfg sp) 38 zih:=by
  intro ns pre r h hp
  unfold zih at h
  dsimp only at h
  split at h
  . cases h
    exact ⟨_,rfl,zd9 hq _ _ _ _ _ _ _ _ _ _ _ _ _ _ _ _ _ hp,zp rfl⟩
  . cases h
theorem zhd (hq:ze (cfg sp)) (a0:Int) (a1:Int) (a2:Int) (a3:Int) (a4:Bool) (a5:Int) (a6:Bool) (a7:Bool) (a8:Int) (a9:Int) (a10:Int) (a11:Int) (a12:Bool) (a13:Int) (a14:Int) (a15:Int) (a16:Int):qa4 XK szK (cfg sp) 91 [.agg [.int .i64 none (a0),.int .i64 none (a1),.int .i64 none (a2),.int .i64 none (a3),.sb 0 false (a4) (a4=true) (a4=false),.int .i64 none (a5),.sb 0 false (a6) (a6=true) (a6=false),.sb 0 false (a7) (a7=true) (a7=false),.int .i64 none (a8),.int .i64 none (a9),.int .i64 none (a10),.int .i64 none (a11),.sb 0 false (a12) (a12=true) (a12=false),.int .i64 none (a13),.int .i64 none (a14),.int .i64 none (a15),.int .i64 none (a16)]] (q2o a0 a1 a2 a3 a4 a5 a6 a7 a8 a9 a10 a11 a12 a13 a14 a15 a16):=
  qbc qaw jd (zn) hq (zg rfl) (by simp [P.flat,P.cellsOf,RT]) (zhf a0 a1 a2 a3 a4 a5 a6 a7 a8 a9 a10 a11 a12 a13 a14 a15 a16) (zhe a0 a1 a2 a3 a4 a5 a6 a7 a8 a9 a10 a11 a12 a13 a14 a15 a16 )
theorem zfk (hq:ze (cfg sp)):qb4 XK szK (cfg sp) 91 zii:=by
  intro ns pre r h hp
  unfold zii at h
  dsimp only at h
  split at h
  . cases h
    exact ⟨_,rfl,zhd hq _ _ _ _ _ _ _ _ _ _ _ _ _ _ _ _ _,zp rfl⟩
  . cases h
theorem q9k (hq:ze (cfg sp)) (a0:Int) (a1:Int) (a2:Int) (a3:Int) (a4:Bool) (a5:Int) (a6:Bool) (a7:Bool) (a8:Int) (a9:Int) (a10:Int) (a11:Int) (a12:Bool) (a13:Int) (a14:Int) (a15:Int) (a16:Int):qa4 XK szK (cfg sp) 93 [.agg [.int .i64 none (a0),.int .i64 none (a1),.int .i64 none (a2),.int .i64 none (a3),.sb 0 false (a4) (a4=true) (a4=false),.int .i64 none (a5),.sb 0 false (a6) (a6=true) (a6=false),.sb 0 false (a7) (a7=true) (a7=false),.int .i64 none (a8),.int .i64 none (a9),.int .i64 none (a10),.int .i64 none (a11),.sb 0 false (a12) (a12=true) (a12=false),.int .i64 none (a13),.int .i64 none (a14),.int .i64 none (a15),.int .i64 none (a16)]] (quh a0 a1 a2 a3 a4 a5 a6 a7 a8 a9 a10 a11 a12 a13 a14 a15 a16):=
  qbc qaw jd (zn) hq (zg rfl) (by simp [P.flat,P.cellsOf,RT]) (q9m a0 a1 a2 a3 a4 a5 a6 a7 a8 a9 a10 a11 a12 a13 a14 a15 a16) (q9l a0 a1 a2 a3 a4 a5 a6 a7 a8 a9 a10 a11 a12 a13 a14 a15 a16 )
theorem zfm (hq:ze (cfg sp)):qb4 XK szK (cfg sp) 93 zij:=by
  intro ns pre r h hp
  unfold zij at h
  dsimp only at h
  split at h
  . cases h
    exact ⟨_,rfl,q9k hq _ _ _ _ _ _ _ _ _ _ _ _ _ _ _ _ _,zp rfl⟩
  . cases h
theorem zer (hq:ze (cfg sp)) (a0:Int) (a1:Int) (a2:Int) (a3:Int) (a4:Bool) (a5:Int) (a6:Bool) (a7:Bool) (a8:Int) (a9:Int) (a10:Int) (a11:Int) (a12:Bool) (a13:Int) (a14:Int) (a15:Int) (a16:Int):qa4 XK szK (cfg sp) 36 [.agg [.int .i64 none (a0),.int .i64 none (a1),.int .i64 none (a2),.int .i64 none (a3),.sb 0 false (a4) (a4=true) (a4=false),.int .i64 none (a5),.sb 0 false (a6) (a6=true) (a6=false),.sb 0 false (a7) (a7=true) (a7=false),.int .i64 none (a8),.int .i64 none (a9),.int .i64 none (a10),.int .i64 none (a11),.sb 0 false (a12) (a12=true) (a12=false),.int .i64 none (a13),.int .i64 none (a14),.int .i64 none (a15),.int .i64 none (a16)]] (qzl a0 a1 a2 a3 a4 a5 a6 a7 a8 a9 a10 a11 a12 a13 a14 a15 a16):=
  qbc qaw jd (ql (zfk hq) (ql (q50 hq) (ql (zfm hq) (zn)))) hq (zg rfl) (by simp [P.flat,P.cellsOf,RT]) (zet a0 a1 a2 a3 a4 a5 a6 a7 a8 a9 a10 a11 a12 a13 a14 a15 a16) (zes a0 a1 a2 a3 a4 a5 a6 a7 a8 a9 a10 a11 a12 a13 a14 a15 a16 )
theorem q5s (hq:ze (cfg sp)):qb4 XK szK (cfg sp) 36 zfb:=by
  intro ns pre r h hp
  unfold zfb at h
  dsimp only at h
  split at h
  . cases h
    exact ⟨_,rfl,zer hq _ _ _ _ _ _ _ _ _ _ _ _ _ _ _ _ _,zp rfl⟩
  . cases h
theorem zam (hq:ze (cfg sp)) (a0:Int) (a1:Int) (a2:Int) (a3:Int) (a4:Bool) (a5:Int) (a6:Bool) (a7:Bool) (a8:Int) (a9:Int) (a10:Int) (a11:Int) (a12:Bool) (a13:Int) (a14:Int) (a15:Int) (a16:Int):qa4 XK szK (cfg sp) 11 [.agg [.int .i64 none (a0),.int .i64 none (a1),.int .i64 none (a2),.int .i64 none (a3),.sb 0 false (a4) (a4=true) (a4=false),.int .i64 none (a5),.sb 0 false (a6) (a6=true) (a6=false),.sb 0 false (a7) (a7=true) (a7=false),.int .i64 none (a8),.int .i64 none (a9),.int .i64 none (a10),.int .i64 none (a11),.sb 0 false (a12) (a12=true) (a12=false),.int .i64 none (a13),.int .i64 none (a14),.int .i64 none (a15),.int .i64 none (a16)]] (qv6 a0 a1 a2 a3 a4 a5 a6 a7 a8 a9 a10 a11 a12 a13 a14 a15 a16):=
  qbc qaw jd (ql (q5s hq) (ql (ze8 hq) (ql (q5t hq) (ql (zfd hq) (ql (q5u hq) (ql (q5v hq) (zn))))))) hq (zg rfl) (by simp [P.flat,P.cellsOf,RT]) (zao a0 a1 a2 a3 a4 a5 a6 a7 a8 a9 a10 a11 a12 a13 a14 a15 a16) (zan a0 a1 a2 a3 a4 a5 a6 a7 a8 a9 a10 a11 a12 a13 a14 a15 a16 )
theorem ze5 (hq:ze (cfg sp)):qb4 XK szK (cfg sp) 11 zic:=by
  intro ns pre r h hp
  unfold zic at h
  dsimp only at h
  split at h
  . cases h
    exact ⟨_,rfl,zam hq _ _ _ _ _ _ _ _ _ _ _ _ _ _ _ _ _,zp rfl⟩
  . cases h
theorem zad (hq:ze (cfg sp)) (a0:List UInt8) (hp:(ln a0<=300)):qa4 XK szK (cfg sp) 13 [.str (a0)] (qv3 a0):=
  qbc qaw jd (ql (ze9 hq) (ql (za6 hq) (ql (za2 hq) (ql (za4 hq) (ql (qz8 hq) (ql (za0 hq) (ql (q5s hq) (zn)))))))) hq (zg rfl) (by simp [P.flat,P.cellsOf,RT]) (zaf a0) (zae a0 hp)
theorem ze7 (hq:ze (cfg sp)):qb4 XK szK (cfg sp) 13 zie:=by
  intro ns pre r h hp
  unfold zie at h
  dsimp only at h
  split at h
  . cases h
    exact ⟨_,rfl,zad hq _ hp,zp rfl⟩
  . cases h
theorem q03 (hq:ze (cfg sp)) (hf9:qb4 XK szK (cfg sp) 9 ct9) (hf117:qb4 XK szK (cfg sp) 117 qn0) (a0:Int) (a1:Int) (a2:Int) (a3:Int) (a4:Bool) (a5:Int) (a6:Bool) (a7:Bool) (a8:Int) (a9:Int) (a10:Int) (a11:Int) (a12:Bool) (a13:Int) (a14:Int) (a15:Int) (a16:Int) (a17:List UInt8) (hp:(ln a17<=9223372036854775807)):qa4 XK szK (cfg sp) 3 [.agg [.int .i64 none (a0),.int .i64 none (a1),.int .i64 none (a2),.int .i64 none (a3),.sb 0 false (a4) (a4=true) (a4=false),.int .i64 none (a5),.sb 0 false (a6) (a6=true) (a6=false),.sb 0 false (a7) (a7=true) (a7=false),.int .i64 none (a8),.int .i64 none (a9),.int .i64 none (a10),.int .i64 none (a11),.sb 0 false (a12) (a12=true) (a12=false),.int .i64 none (a13),.int .i64 none (a14),.int .i64 none (a15),.int .i64 none (a16)],.str (a17)] (qoh a0 a1 a2 a3 a4 a5 a6 a7 a8 a9 a10 a11 a12 a13 a14 a15 a16 a17):=
  qbc qaw jd (ql hf9 (ql (ze4 hq hf117) (ql (ze5 hq) (ql (ze6 hq hf117) (ql (ze7 hq) (zn)))))) hq (zg rfl) (by simp [P.flat,P.cellsOf,RT]) (q05 a0 a1 a2 a3 a4 a5 a6 a7 a8 a9 a10 a11 a12 a13 a14 a15 a16 a17) (q04 a0 a1 a2 a3 a4 a5 a6 a7 a8 a9 a10 a11 a12 a13 a14 a15 a16 a17 hp)
end Go.Proofs.YtbopmiclcimjgaaGreatDoor
