/- THE FUNCTIONS on parts as texts meet their contracts. Made by program (vc.py). -/
import Derived.Test.YtbopmiclcimjgaaGreatDoorOksT
import Derived.Test.YtbopmiclcimjgaaGreatDoorFns
namespace Go.Proofs.YtbopmiclcimjgaaGreatDoor
open Go Go.E2 Go.E3
set_option maxRecDepth 100000
variable {sp:Nat->Option (List V->Heap->Option (CR×Heap))}

theorem q6g (hq:qw (cfg sp)) (a0:List UInt8) (hp:(ln a0<=9223372036854775806)):qaj XK szK (cfg sp) 49 [.str (a0)] (qtp a0):=
  qam qag kf (zd) hq (qy rfl) (by simp [P.flat,P.cellsOf,RT]) (q6i a0) (q6h a0 hp)
theorem zay (hq:qw (cfg sp)):qba XK szK (cfg sp) 49 zdg:=by
  intro ns pre r h hp
  unfold zdg at h
  dsimp only at h
  split at h
  . cases h
    exact ⟨_,rfl,q6g hq _ hp,ze rfl⟩
  . cases h
theorem qz4 (hq:qw (cfg sp)) (a0:List UInt8) (a1:List Sign) (hp:(ln a0<=1000000000/\ln a1<=1000000000)):qaj XK szK (cfg sp) 44 [.agg [.str (a0),.list 4 (a1) none]] (qof a0 a1):=
  qam qag kf (ql (zay hq) (ql (q2r hq) (zd))) hq (qy rfl) (by simp [P.flat,P.cellsOf,RT]) (qz6 a0 a1) (qz5 a0 a1 hp)
theorem zav (hq:qw (cfg sp)):qba XK szK (cfg sp) 44 zdd:=by
  intro ns pre r h hp
  unfold zdd at h
  dsimp only at h
  split at h
  . cases h
    exact ⟨_,rfl,qz4 hq _ _ hp,ze rfl⟩
  . cases h
theorem q6d (hq:qw (cfg sp)) (a0:List UInt8) (hp:(ln a0<=9223372036854775806)):qaj XK szK (cfg sp) 102 [.str (a0)] (qto a0):=
  qam qag kf (zd) hq (qy rfl) (by simp [P.flat,P.cellsOf,RT]) (q6f a0) (q6e a0 hp)
theorem q7a (hq:qw (cfg sp)):qba XK szK (cfg sp) 102 q69:=by
  intro ns pre r h hp
  unfold q69 at h
  dsimp only at h
  split at h
  . cases h
    exact ⟨_,rfl,q6d hq _ hp,ze rfl⟩
  . cases h
theorem qz1 (hq:qw (cfg sp)) (a0:List UInt8) (a1:List Sign) (hp:(ln a0<=1000000000/\ln a1<=1000000000)):qaj XK szK (cfg sp) 46 [.agg [.str (a0),.list 4 (a1) none]] (qoe a0 a1):=
  qam qag kf (ql (q7a hq) (ql (q2s hq) (zd))) hq (qy rfl) (by simp [P.flat,P.cellsOf,RT]) (qz3 a0 a1) (qz2 a0 a1 hp)
theorem zaw (hq:qw (cfg sp)):qba XK szK (cfg sp) 46 zde:=by
  intro ns pre r h hp
  unfold zde at h
  dsimp only at h
  split at h
  . cases h
    exact ⟨_,rfl,qz1 hq _ _ hp,ze rfl⟩
  . cases h
theorem qw6 (hq:qw (cfg sp)) (a0:List Sign) (hp:(ln a0<=10000000)):qaj XK szK (cfg sp) 43 [.list 4 (a0) none] (qln a0):=
  qam qag kf (zd) hq (qy rfl) (by simp [P.flat,P.cellsOf,RT]) (qw8 a0) (qw7 a0 hp)
theorem zau (hq:qw (cfg sp)):qba XK szK (cfg sp) 43 zdc:=by
  intro ns pre r h hp
  unfold zdc at h
  dsimp only at h
  split at h
  . cases h
    exact ⟨_,rfl,qw6 hq _ hp,ze rfl⟩
  . cases h
theorem q0f (hq:qw (cfg sp)) (a0:List UInt8) (a1:List Sign) (hp:(ln a1<=10000000)):qaj XK szK (cfg sp) 14 [.agg [.str (a0),.list 4 (a1) none]] (qok a0 a1):=
  qam qag kf (ql (zau hq) (zd)) hq (qy rfl) (by simp [P.flat,P.cellsOf,RT]) (q0h a0 a1) (q0g a0 a1 hp)
theorem zaj (hq:qw (cfg sp)):qba XK szK (cfg sp) 14 zc5:=by
  intro ns pre r h hp
  unfold zc5 at h
  dsimp only at h
  split at h
  . cases h
    exact ⟨_,rfl,q0f hq _ _ hp,ze rfl⟩
  . cases h
theorem qvj (hq:qw (cfg sp)) (a0:List Sign) (a1:List Sign) (hp:(ln a0<=10000000)):qaj XK szK (cfg sp) 47 [.list 4 (a0) none,.list 4 (a1) none] (qj6 a0 a1):=
  qam qag kf (zd) hq (qy rfl) (by simp [P.flat,P.cellsOf,RT]) (qvl a0 a1) (qvk a0 a1 hp)
theorem zax (hq:qw (cfg sp)):qba XK szK (cfg sp) 47 zdf:=by
  intro ns pre r h hp
  unfold zdf at h
  dsimp only at h
  split at h
  . cases h
    exact ⟨_,rfl,qvj hq _ _ hp,ze rfl⟩
  . cases h
theorem qxc (hq:qw (cfg sp)) (a0:List UInt8) (a1:List Sign) (a2:List UInt8) (a3:List Sign) (hp:(ln a1<=10000000)):qaj XK szK (cfg sp) 17 [.agg [.str (a0),.list 4 (a1) none],.agg [.str (a2),.list 4 (a3) none]] (qlp a0 a1 a2 a3):=
  qam qag kf (ql (zax hq) (zd)) hq (qy rfl) (by simp [P.flat,P.cellsOf,RT]) (qxe a0 a1 a2 a3) (qxd a0 a1 a2 a3 hp)
theorem zam (hq:qw (cfg sp)):qba XK szK (cfg sp) 17 zc8:=by
  intro ns pre r h hp
  unfold zc8 at h
  dsimp only at h
  split at h
  . cases h
    exact ⟨_,rfl,qxc hq _ _ _ _ hp,ze rfl⟩
  . cases h
theorem q6n (hq:qw (cfg sp)) (hf117:qba XK szK (cfg sp) 117 qov) (a0:List UInt8) (a1:List Sign) (hp:(ln a0<=1000/\ln a1<=1000)):qaj XK szK (cfg sp) 15 [.agg [.str (a0),.list 4 (a1) none]] (qtr a0 a1):=
  qam qag kf (ql (zav hq) (ql (zah hq hf117) (zd))) hq (qy rfl) (by simp [P.flat,P.cellsOf,RT]) (q6p a0 a1) (q6o a0 a1 hp)
theorem zak (hq:qw (cfg sp)) (hf117:qba XK szK (cfg sp) 117 qov):qba XK szK (cfg sp) 15 zc6:=by
  intro ns pre r h hp
  unfold zc6 at h
  dsimp only at h
  split at h
  . cases h
    exact ⟨_,rfl,q6n hq hf117 _ _ hp,ze rfl⟩
  . cases h
theorem q6q (hq:qw (cfg sp)) (a0:List UInt8) (a1:List Sign) (hp:(ln a0<=1000/\ln a1<=1000)):qaj XK szK (cfg sp) 16 [.agg [.str (a0),.list 4 (a1) none]] (qts a0 a1):=
  qam qag kf (ql (zaw hq) (ql (zai hq) (zd))) hq (qy rfl) (by simp [P.flat,P.cellsOf,RT]) (q6s a0 a1) (q6r a0 a1 hp)
theorem zal (hq:qw (cfg sp)):qba XK szK (cfg sp) 16 zc7:=by
  intro ns pre r h hp
  unfold zc7 at h
  dsimp only at h
  split at h
  . cases h
    exact ⟨_,rfl,q6q hq _ _ hp,ze rfl⟩
  . cases h
theorem qyo (hq:qw (cfg sp)) (hf9:qba XK szK (cfg sp) 9 ct9) (hf117:qba XK szK (cfg sp) 117 qov) (a0:List UInt8) (a1:List Sign) (hp:(ln a0<=9223372036854775807/\ln a1<=9223372036854775807)):qaj XK szK (cfg sp) 4 [.agg [.str (a0),.list 4 (a1) none]] (qmi a0 a1):=
  qam qag kf (ql hf9 (ql (zaj hq) (ql (zak hq hf117) (ql (zal hq) (ql (zam hq) (zd)))))) hq (qy rfl) (by simp [P.flat,P.cellsOf,RT]) (qyq a0 a1) (qyp a0 a1 hp)
end Go.Proofs.YtbopmiclcimjgaaGreatDoor

