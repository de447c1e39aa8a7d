/- THE FUNCTIONS on signs as words meet their contracts. Made by program (vc.py). -/
import Derived.Test.YtbopmiclcimjgaaGreatDoorOks
namespace Go.Proofs.YtbopmiclcimjgaaGreatDoor
open Go Go.E2 Go.E3
set_option maxRecDepth 100000
variable {sp:Nat->Option (List V->Heap->Option (CR×Heap))}

theorem q7e (hq:qw (cfg sp)):qba XK szK (cfg sp) 137 q7d:=by
  intro ns pre r h hp
  unfold q7d at h
  dsimp only at h
  split at h
  . cases h
    exact ⟨_,rfl,q4z kf hq (f:=137) rfl (by kernel_rfl) _ _,ze rfl⟩
  . cases h
theorem q33 (hq:qw (cfg sp)) (a0:Int) (a1:Int) (a2:Int) (a3:Int):qaj XK szK (cfg sp) 59 [.agg [.int .i64 none (a0),.int .i64 none (a1),.int .i64 none (a2),.int .i64 none (a3)]] (qqc a0 a1 a2 a3):=
  qam qag kf (zd) hq (qy rfl) (by simp [P.flat,P.cellsOf,RT]) (q35 a0 a1 a2 a3) (q34 a0 a1 a2 a3 )
theorem q2v (hq:qw (cfg sp)):qba XK szK (cfg sp) 59 zaz:=by
  intro ns pre r h hp
  unfold zaz at h
  dsimp only at h
  split at h
  . cases h
    exact ⟨_,rfl,q33 hq _ _ _ _,ze rfl⟩
  . cases h
theorem q98 (hq:qw (cfg sp)) (a0:Int) (a1:Int) (a2:Int) (a3:Int) (a4:Bool) (a5:Int) (a6:Bool) (a7:Bool) (a8:Int) (a9:Int) (a10:Int) (a11:Int) (a12:Bool) (a13:Int) (a14:Int) (a15:Int) (a16:Int):qaj XK szK (cfg sp) 32 [.agg [.int .i64 none (a0),.int .i64 none (a1),.int .i64 none (a2),.int .i64 none (a3),.sb 0 false (a4) (a4=true) (a4=false),.int .i64 none (a5),.sb 0 false (a6) (a6=true) (a6=false),.sb 0 false (a7) (a7=true) (a7=false),.int .i64 none (a8),.int .i64 none (a9),.int .i64 none (a10),.int .i64 none (a11),.sb 0 false (a12) (a12=true) (a12=false),.int .i64 none (a13),.int .i64 none (a14),.int .i64 none (a15),.int .i64 none (a16)]] (qw4 a0 a1 a2 a3 a4 a5 a6 a7 a8 a9 a10 a11 a12 a13 a14 a15 a16):=
  qam qag kf (ql (q2v hq) (zd)) hq (qy rfl) (by simp [P.flat,P.cellsOf,RT]) (zaa a0 a1 a2 a3 a4 a5 a6 a7 a8 a9 a10 a11 a12 a13 a14 a15 a16) (q99 a0 a1 a2 a3 a4 a5 a6 a7 a8 a9 a10 a11 a12 a13 a14 a15 a16 )
theorem q2r (hq:qw (cfg sp)):qba XK szK (cfg sp) 32 zao:=by
  intro ns pre r h hp
  unfold zao at h
  dsimp only at h
  split at h
  . cases h
    exact ⟨_,rfl,q98 hq _ _ _ _ _ _ _ _ _ _ _ _ _ _ _ _ _,ze rfl⟩
  . cases h
theorem qvc (hq:qw (cfg sp)) (a0:List UInt8) (a1:List UInt8):qaj XK szK (cfg sp) 94 [.str (a0),.str (a1)] (qj3 a0 a1):=
  qam qag kf (zd) hq (qy rfl) (by simp [P.flat,P.cellsOf,RT]) (qve a0 a1) (qvd a0 a1 )
theorem za6 (hq:qw (cfg sp)):qba XK szK (cfg sp) 94 zdm:=by
  intro ns pre r h hp
  unfold zdm at h
  dsimp only at h
  split at h
  . cases h
    exact ⟨_,rfl,qvc hq _ _,ze rfl⟩
  . cases h
theorem q55 (hq:qw (cfg sp)) (a0:Int) (a1:Int) (a2:Int) (a3:Int):qaj XK szK (cfg sp) 114 [.agg [.int .i64 none (a0),.int .i64 none (a1),.int .i64 none (a2),.int .i64 none (a3)]] (qsn a0 a1 a2 a3):=
  qam qag kf (zd) hq (qy rfl) (by simp [P.flat,P.cellsOf,RT]) (q57 a0 a1 a2 a3) (q56 a0 a1 a2 a3 )
theorem qxv (hq:qw (cfg sp)):qba XK szK (cfg sp) 114 q2p:=by
  intro ns pre r h hp
  unfold q2p at h
  dsimp only at h
  split at h
  . cases h
    exact ⟨_,rfl,q55 hq _ _ _ _,ze rfl⟩
  . cases h
theorem q4b (hq:qw (cfg sp)) (a0:Int) (a1:Int) (a2:Int) (a3:Int):qaj XK szK (cfg sp) 74 [.agg [.int .i64 none (a0),.int .i64 none (a1),.int .i64 none (a2),.int .i64 none (a3)]] (qqk a0 a1 a2 a3):=
  qam qag kf (ql (q2v hq) (ql (qxv hq) (zd))) hq (qy rfl) (by simp [P.flat,P.cellsOf,RT]) (q4d a0 a1 a2 a3) (q4c a0 a1 a2 a3 )
theorem za0 (hq:qw (cfg sp)):qba XK szK (cfg sp) 74 zdh:=by
  intro ns pre r h hp
  unfold zdh at h
  dsimp only at h
  split at h
  . cases h
    exact ⟨_,rfl,q4b hq _ _ _ _,ze rfl⟩
  . cases h
theorem q0i (hq:qw (cfg sp)) (a0:List UInt8):qaj XK szK (cfg sp) 78 [.str (a0)] (qon a0):=
  qam qag kf (ql (qxv hq) (zd)) hq (qy rfl) (by simp [P.flat,P.cellsOf,RT]) (q0k a0) (q0j a0 )
theorem za2 (hq:qw (cfg sp)):qba XK szK (cfg sp) 78 zdj:=by
  intro ns pre r h hp
  unfold zdj at h
  dsimp only at h
  split at h
  . cases h
    exact ⟨_,rfl,q0i hq _,ze rfl⟩
  . cases h
theorem q0c (hq:qw (cfg sp)) (a0:List UInt8) (hp:(ln a0<=1000000)):qaj XK szK (cfg sp) 118 [.str (a0)] (qoj a0):=
  qam qag kf (zd) hq (qy rfl) (by simp [P.flat,P.cellsOf,RT]) (q0e a0) (q0d a0 hp)
theorem qxw (hq:qw (cfg sp)):qba XK szK (cfg sp) 118 q2q:=by
  intro ns pre r h hp
  unfold q2q at h
  dsimp only at h
  split at h
  . cases h
    exact ⟨_,rfl,q0c hq _ hp,ze rfl⟩
  . cases h
theorem q0m (hq:qw (cfg sp)) (a0:List UInt8) (hp:(ln a0<=1000000)):qaj XK szK (cfg sp) 136 [.str (a0)] (qop a0):=
  qam qag kf (ql (qxw hq) (zd)) hq (qy rfl) (by simp [P.flat,P.cellsOf,RT]) (q0o a0) (q0n a0 hp)
theorem q7c (hq:qw (cfg sp)):qba XK szK (cfg sp) 136 q7b:=by
  intro ns pre r h hp
  unfold q7b at h
  dsimp only at h
  split at h
  . cases h
    exact ⟨_,rfl,q0m hq _ hp,ze rfl⟩
  . cases h
theorem qzx (hq:qw (cfg sp)) (a0:Int) (a1:Int) (a2:Int) (a3:Int):qaj XK szK (cfg sp) 92 [.agg [.int .i64 none (a0),.int .i64 none (a1),.int .i64 none (a2),.int .i64 none (a3)]] (qod a0 a1 a2 a3):=
  qam qag kf (zd) hq (qy rfl) (by simp [P.flat,P.cellsOf,RT]) (qzz a0 a1 a2 a3) (qzy a0 a1 a2 a3 )
theorem q2w (hq:qw (cfg sp)):qba XK szK (cfg sp) 92 za4:=by
  intro ns pre r h hp
  unfold za4 at h
  dsimp only at h
  split at h
  . cases h
    exact ⟨_,rfl,qzx hq _ _ _ _,ze rfl⟩
  . cases h
theorem q38 (hq:qw (cfg sp)) (a0:Int) (a1:Int) (a2:Int) (a3:Int):qaj XK szK (cfg sp) 39 [.agg [.int .i64 none (a0),.int .i64 none (a1),.int .i64 none (a2),.int .i64 none (a3)]] (qqj a0 a1 a2 a3):=
  qam qag kf (ql (q2w hq) (zd)) hq (qy rfl) (by simp [P.flat,P.cellsOf,RT]) (q4a a0 a1 a2 a3) (q39 a0 a1 a2 a3 )
theorem zas (hq:qw (cfg sp)):qba XK szK (cfg sp) 39 zdb:=by
  intro ns pre r h hp
  unfold zdb at h
  dsimp only at h
  split at h
  . cases h
    exact ⟨_,rfl,q38 hq _ _ _ _,ze rfl⟩
  . cases h
theorem qsz (hq:qw (cfg sp)) (a0:List UInt8) (a1:Int) (hp:(U8 a1)):qaj XK szK (cfg sp) 77 [.str (a0),.int .u8 none (a1)] (qim a0 a1):=
  qam qag kf (ql (q7e hq) (zd)) hq (qy rfl) (by simp [P.flat,P.cellsOf,RT]) (qs1 a0 a1) (qs0 a0 a1 hp)
theorem za1 (hq:qw (cfg sp)):qba XK szK (cfg sp) 77 zdi:=by
  intro ns pre r h hp
  unfold zdi at h
  dsimp only at h
  split at h
  . cases h
    exact ⟨_,rfl,qsz hq _ _ hp,ze rfl⟩
  . cases h
theorem q6t (hq:qw (cfg sp)) (hf117:qba XK szK (cfg sp) 117 qov) (a0:Int) (a1:Int) (a2:Int) (a3:Int) (a4:Bool) (a5:Int) (a6:Bool) (a7:Bool) (a8:Int) (a9:Int) (a10:Int) (a11:Int) (a12:Bool) (a13:Int) (a14:Int) (a15:Int) (a16:Int):qaj XK szK (cfg sp) 10 [.agg [.int .i64 none (a0),.int .i64 none (a1),.int .i64 none (a2),.int .i64 none (a3),.sb 0 false (a4) (a4=true) (a4=false),.int .i64 none (a5),.sb 0 false (a6) (a6=true) (a6=false),.sb 0 false (a7) (a7=true) (a7=false),.int .i64 none (a8),.int .i64 none (a9),.int .i64 none (a10),.int .i64 none (a11),.sb 0 false (a12) (a12=true) (a12=false),.int .i64 none (a13),.int .i64 none (a14),.int .i64 none (a15),.int .i64 none (a16)]] (qtt a0 a1 a2 a3 a4 a5 a6 a7 a8 a9 a10 a11 a12 a13 a14 a15 a16):=
  qam qag kf (ql (q2r hq) (ql hf117 (ql (za6 hq) (ql (q7c hq) (ql (za0 hq) (ql (za1 hq) (ql (za2 hq) (ql (qxw hq) (zd))))))))) hq (qy rfl) (by simp [P.flat,P.cellsOf,RT]) (q6v a0 a1 a2 a3 a4 a5 a6 a7 a8 a9 a10 a11 a12 a13 a14 a15 a16) (q6u a0 a1 a2 a3 a4 a5 a6 a7 a8 a9 a10 a11 a12 a13 a14 a15 a16 )
theorem zah (hq:qw (cfg sp)) (hf117:qba XK szK (cfg sp) 117 qov):qba XK szK (cfg sp) 10 zc3:=by
  intro ns pre r h hp
  unfold zc3 at h
  dsimp only at h
  split at h
  . cases h
    exact ⟨_,rfl,q6t hq hf117 _ _ _ _ _ _ _ _ _ _ _ _ _ _ _ _ _,ze rfl⟩
  . cases h
theorem qz9 (hq:qw (cfg sp)) (a0:Int):qaj XK szK (cfg sp) 27 [.int .i64 none (a0)] (qoi a0):=
  qam qag kf (zd) hq (qy rfl) (by simp [P.flat,P.cellsOf,RT]) (q0b a0) (q0a a0 )
theorem zan (hq:qw (cfg sp)):qba XK szK (cfg sp) 27 zc9:=by
  intro ns pre r h hp
  unfold zc9 at h
  dsimp only at h
  split at h
  . cases h
    exact ⟨_,rfl,qz9 hq _,ze rfl⟩
  . cases h
theorem qxy (hq:qw (cfg sp)):∀ (m:Nat) (a0:Int),((if a0<0 then (1000:Nat) else Int.toNat a0))=m->(-100<=a0/\a0<=100)->qaj XK szK (cfg sp) 40 [.int .i64 none (a0)] (qiz a0):=by
  intro m
  induction m using Nat.strongRecOn with
  | _ m ih=>
    intro a0 hm hp
    have hc:qba XK szK (cfg sp) 40 (q7f a0):=by
      intro ns pre r h hp2
      unfold q7f at h
      dsimp only at h
      split at h
      . cases h
        exact ⟨_,rfl,ih _ (by rw [<-hm];exact hp2.2) _ rfl hp2.1,ze rfl⟩
      . cases h
    exact qam qag kf (ql hc (zd)) hq (qy rfl) (by simp [P.flat,P.cellsOf,RT]) (q03 a0) (q02 a0 hp)
theorem q01 (hq:qw (cfg sp)) (a0:Int) (hp:(-100<=a0/\a0<=100)):qaj XK szK (cfg sp) 40 [.int .i64 none (a0)] (qiz a0):=qxy hq _ a0 rfl hp
theorem q2u (hq:qw (cfg sp)):qba XK szK (cfg sp) 40 zat:=by
  intro ns pre r h hp
  unfold zat at h
  dsimp only at h
  split at h
  . cases h
    exact ⟨_,rfl,q01 hq _ hp,ze rfl⟩
  . cases h
theorem q7r (hq:qw (cfg sp)) (a0:Int) (a1:Int) (a2:Int) (a3:Int) (a4:Bool) (a5:Int) (a6:Bool) (a7:Bool) (a8:Int) (a9:Int) (a10:Int) (a11:Int) (a12:Bool) (a13:Int) (a14:Int) (a15:Int) (a16:Int) (hp:(-100<=a2/\a2<=100)):qaj XK szK (cfg sp) 37 [.agg [.int .i64 none (a0),.int .i64 none (a1),.int .i64 none (a2),.int .i64 none (a3),.sb 0 false (a4) (a4=true) (a4=false),.int .i64 none (a5),.sb 0 false (a6) (a6=true) (a6=false),.sb 0 false (a7) (a7=true) (a7=false),.int .i64 none (a8),.int .i64 none (a9),.int .i64 none (a10),.int .i64 none (a11),.sb 0 false (a12) (a12=true) (a12=false),.int .i64 none (a13),.int .i64 none (a14),.int .i64 none (a15),.int .i64 none (a16)]] (qub a0 a1 a2 a3 a4 a5 a6 a7 a8 a9 a10 a11 a12 a13 a14 a15 a16):=
  qam qag kf (ql (q2u hq) (zd)) hq (qy rfl) (by simp [P.flat,P.cellsOf,RT]) (q7t a0 a1 a2 a3 a4 a5 a6 a7 a8 a9 a10 a11 a12 a13 a14 a15 a16) (q7s a0 a1 a2 a3 a4 a5 a6 a7 a8 a9 a10 a11 a12 a13 a14 a15 a16 hp)
theorem q2t (hq:qw (cfg sp)):qba XK szK (cfg sp) 37 zaq:=by
  intro ns pre r h hp
  unfold zaq at h
  dsimp only at h
  split at h
  . cases h
    exact ⟨_,rfl,q7r hq _ _ _ _ _ _ _ _ _ _ _ _ _ _ _ _ _ hp,ze rfl⟩
  . cases h
theorem q9n (hq:qw (cfg sp)) (a0:Int) (a1:Int) (a2:Int) (a3:Int) (a4:Bool) (a5:Int) (a6:Bool) (a7:Bool) (a8:Int) (a9:Int) (a10:Int) (a11:Int) (a12:Bool) (a13:Int) (a14:Int) (a15:Int) (a16:Int) (hp:(-100<=a2/\a2<=100/\0<=a5/\a5<=3)):qaj XK szK (cfg sp) 38 [.agg [.int .i64 none (a0),.int .i64 none (a1),.int .i64 none (a2),.int .i64 none (a3),.sb 0 false (a4) (a4=true) (a4=false),.int .i64 none (a5),.sb 0 false (a6) (a6=true) (a6=false),.sb 0 false (a7) (a7=true) (a7=false),.int .i64 none (a8),.int .i64 none (a9),.int .i64 none (a10),.int .i64 none (a11),.sb 0 false (a12) (a12=true) (a12=false),.int .i64 none (a13),.int .i64 none (a14),.int .i64 none (a15),.int .i64 none (a16)]] (qu7 a0 a1 a2 a3 a4 a5 a6 a7 a8 a9 a10 a11 a12 a13 a14 a15 a16):=
  qam qag kf (ql (q2t hq) (zd)) hq (qy rfl) (by simp [P.flat,P.cellsOf,RT]) (q9p a0 a1 a2 a3 a4 a5 a6 a7 a8 a9 a10 a11 a12 a13 a14 a15 a16) (q9o a0 a1 a2 a3 a4 a5 a6 a7 a8 a9 a10 a11 a12 a13 a14 a15 a16 hp)
theorem zar (hq:qw (cfg sp)):qba XK szK (cfg sp) 38 zda:=by
  intro ns pre r h hp
  unfold zda at h
  dsimp only at h
  split at h
  . cases h
    exact ⟨_,rfl,q9n hq _ _ _ _ _ _ _ _ _ _ _ _ _ _ _ _ _ hp,ze rfl⟩
  . cases h
theorem zch (hq:qw (cfg sp)) (a0:Int) (a1:Int) (a2:Int) (a3:Int) (a4:Bool) (a5:Int) (a6:Bool) (a7:Bool) (a8:Int) (a9:Int) (a10:Int) (a11:Int) (a12:Bool) (a13:Int) (a14:Int) (a15:Int) (a16:Int):qaj XK szK (cfg sp) 91 [.agg [.int .i64 none (a0),.int .i64 none (a1),.int .i64 none (a2),.int .i64 none (a3),.sb 0 false (a4) (a4=true) (a4=false),.int .i64 none (a5),.sb 0 false (a6) (a6=true) (a6=false),.sb 0 false (a7) (a7=true) (a7=false),.int .i64 none (a8),.int .i64 none (a9),.int .i64 none (a10),.int .i64 none (a11),.sb 0 false (a12) (a12=true) (a12=false),.int .i64 none (a13),.int .i64 none (a14),.int .i64 none (a15),.int .i64 none (a16)]] (qzs a0 a1 a2 a3 a4 a5 a6 a7 a8 a9 a10 a11 a12 a13 a14 a15 a16):=
  qam qag kf (zd) hq (qy rfl) (by simp [P.flat,P.cellsOf,RT]) (zcj a0 a1 a2 a3 a4 a5 a6 a7 a8 a9 a10 a11 a12 a13 a14 a15 a16) (zci a0 a1 a2 a3 a4 a5 a6 a7 a8 a9 a10 a11 a12 a13 a14 a15 a16 )
theorem za3 (hq:qw (cfg sp)):qba XK szK (cfg sp) 91 zdk:=by
  intro ns pre r h hp
  unfold zdk at h
  dsimp only at h
  split at h
  . cases h
    exact ⟨_,rfl,zch hq _ _ _ _ _ _ _ _ _ _ _ _ _ _ _ _ _,ze rfl⟩
  . cases h
theorem q5s (hq:qw (cfg sp)) (a0:Int) (a1:Int) (a2:Int) (a3:Int) (a4:Bool) (a5:Int) (a6:Bool) (a7:Bool) (a8:Int) (a9:Int) (a10:Int) (a11:Int) (a12:Bool) (a13:Int) (a14:Int) (a15:Int) (a16:Int):qaj XK szK (cfg sp) 93 [.agg [.int .i64 none (a0),.int .i64 none (a1),.int .i64 none (a2),.int .i64 none (a3),.sb 0 false (a4) (a4=true) (a4=false),.int .i64 none (a5),.sb 0 false (a6) (a6=true) (a6=false),.sb 0 false (a7) (a7=true) (a7=false),.int .i64 none (a8),.int .i64 none (a9),.int .i64 none (a10),.int .i64 none (a11),.sb 0 false (a12) (a12=true) (a12=false),.int .i64 none (a13),.int .i64 none (a14),.int .i64 none (a15),.int .i64 none (a16)]] (qsb a0 a1 a2 a3 a4 a5 a6 a7 a8 a9 a10 a11 a12 a13 a14 a15 a16):=
  qam qag kf (zd) hq (qy rfl) (by simp [P.flat,P.cellsOf,RT]) (q5u a0 a1 a2 a3 a4 a5 a6 a7 a8 a9 a10 a11 a12 a13 a14 a15 a16) (q5t a0 a1 a2 a3 a4 a5 a6 a7 a8 a9 a10 a11 a12 a13 a14 a15 a16 )
theorem za5 (hq:qw (cfg sp)):qba XK szK (cfg sp) 93 zdl:=by
  intro ns pre r h hp
  unfold zdl at h
  dsimp only at h
  split at h
  . cases h
    exact ⟨_,rfl,q5s hq _ _ _ _ _ _ _ _ _ _ _ _ _ _ _ _ _,ze rfl⟩
  . cases h
theorem q95 (hq:qw (cfg sp)) (a0:Int) (a1:Int) (a2:Int) (a3:Int) (a4:Bool) (a5:Int) (a6:Bool) (a7:Bool) (a8:Int) (a9:Int) (a10:Int) (a11:Int) (a12:Bool) (a13:Int) (a14:Int) (a15:Int) (a16:Int):qaj XK szK (cfg sp) 36 [.agg [.int .i64 none (a0),.int .i64 none (a1),.int .i64 none (a2),.int .i64 none (a3),.sb 0 false (a4) (a4=true) (a4=false),.int .i64 none (a5),.sb 0 false (a6) (a6=true) (a6=false),.sb 0 false (a7) (a7=true) (a7=false),.int .i64 none (a8),.int .i64 none (a9),.int .i64 none (a10),.int .i64 none (a11),.sb 0 false (a12) (a12=true) (a12=false),.int .i64 none (a13),.int .i64 none (a14),.int .i64 none (a15),.int .i64 none (a16)]] (qw3 a0 a1 a2 a3 a4 a5 a6 a7 a8 a9 a10 a11 a12 a13 a14 a15 a16):=
  qam qag kf (ql (za3 hq) (ql (q2w hq) (ql (za5 hq) (zd)))) hq (qy rfl) (by simp [P.flat,P.cellsOf,RT]) (q97 a0 a1 a2 a3 a4 a5 a6 a7 a8 a9 a10 a11 a12 a13 a14 a15 a16) (q96 a0 a1 a2 a3 a4 a5 a6 a7 a8 a9 a10 a11 a12 a13 a14 a15 a16 )
theorem q2s (hq:qw (cfg sp)):qba XK szK (cfg sp) 36 zap:=by
  intro ns pre r h hp
  unfold zap at h
  dsimp only at h
  split at h
  . cases h
    exact ⟨_,rfl,q95 hq _ _ _ _ _ _ _ _ _ _ _ _ _ _ _ _ _,ze rfl⟩
  . cases h
theorem q6w (hq:qw (cfg sp)) (a0:Int) (a1:Int) (a2:Int) (a3:Int) (a4:Bool) (a5:Int) (a6:Bool) (a7:Bool) (a8:Int) (a9:Int) (a10:Int) (a11:Int) (a12:Bool) (a13:Int) (a14:Int) (a15:Int) (a16:Int):qaj XK szK (cfg sp) 11 [.agg [.int .i64 none (a0),.int .i64 none (a1),.int .i64 none (a2),.int .i64 none (a3),.sb 0 false (a4) (a4=true) (a4=false),.int .i64 none (a5),.sb 0 false (a6) (a6=true) (a6=false),.sb 0 false (a7) (a7=true) (a7=false),.int .i64 none (a8),.int .i64 none (a9),.int .i64 none (a10),.int .i64 none (a11),.sb 0 false (a12) (a12=true) (a12=false),.int .i64 none (a13),.int .i64 none (a14),.int .i64 none (a15),.int .i64 none (a16)]] (qtu a0 a1 a2 a3 a4 a5 a6 a7 a8 a9 a10 a11 a12 a13 a14 a15 a16):=
  qam qag kf (ql (q2s hq) (ql (zan hq) (ql (q2t hq) (ql (zar hq) (ql (zas hq) (ql (q2u hq) (zd))))))) hq (qy rfl) (by simp [P.flat,P.cellsOf,RT]) (q6y a0 a1 a2 a3 a4 a5 a6 a7 a8 a9 a10 a11 a12 a13 a14 a15 a16) (q6x a0 a1 a2 a3 a4 a5 a6 a7 a8 a9 a10 a11 a12 a13 a14 a15 a16 )
theorem zai (hq:qw (cfg sp)):qba XK szK (cfg sp) 11 zc4:=by
  intro ns pre r h hp
  unfold zc4 at h
  dsimp only at h
  split at h
  . cases h
    exact ⟨_,rfl,q6w hq _ _ _ _ _ _ _ _ _ _ _ _ _ _ _ _ _,ze rfl⟩
  . cases h
end Go.Proofs.YtbopmiclcimjgaaGreatDoor
