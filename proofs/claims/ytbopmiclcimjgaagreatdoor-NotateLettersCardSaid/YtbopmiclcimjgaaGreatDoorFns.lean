/- THE FUNCTIONS meet their contracts. Made by program (vc.py). -/
import Derived.Test.YtbopmiclcimjgaaGreatDoorOks
namespace Go.Proofs.YtbopmiclcimjgaaGreatDoor
open Go Go.E2 Go.E3
set_option maxRecDepth 100000
variable {mx:Int} {sp:Nat->Option (List V->Heap->Option (CR×Heap))}
theorem qt5 (hq:qb4 (cfg mx sp)) (a0:Int) (hp:(I64 a0)):qgf XK szK (cfg mx sp) 26 [.int .i64 none (a0)] (qld a0):=
 qsy qnf qic (qfk) hq (qcx rfl) (by simp [P.flat,P.cellsOf,RT]) (qt6 a0) (qms a0 hp)
theorem qz7 (hq:qb4 (cfg mx sp)):qmr XK szK (cfg mx sp) 26 q1v:=by
 intro ns pre r h hp
 unfold q1v at h
 dsimp only at h
 split at h
 .cases h
  exact ⟨_,rfl,qt5 hq _ hp,qff rfl⟩
 .cases h
theorem qt7 (hq:qb4 (cfg mx sp)) (a0:Int) (hp:(I64 a0)):qgf XK szK (cfg mx sp) 27 [.int .i64 none (a0)] (qle a0):=
 qsy qnf qic (qfk) hq (qcx rfl) (by simp [P.flat,P.cellsOf,RT]) (qt9 a0) (qt8 a0 hp)
theorem qz8 (hq:qb4 (cfg mx sp)):qmr XK szK (cfg mx sp) 27 q1w:=by
 intro ns pre r h hp
 unfold q1w at h
 dsimp only at h
 split at h
 .cases h
  exact ⟨_,rfl,qt7 hq _ hp,qff rfl⟩
 .cases h
theorem qwj (hq:qb4 (cfg mx sp)) (hf110:qmr XK szK (cfg mx sp) 110 qpr) (a0:ZB) (hp:(ln a0<=1000)):qgf XK szK (cfg mx sp) 28 [.str (a0)] (qmw a0):=
 qsy qnf qic (qc1 hf110 (qfk)) hq (qcx rfl) (by simp [P.flat,P.cellsOf,RT]) (qwl a0) (qwk a0 hp)
theorem qz9 (hq:qb4 (cfg mx sp)) (hf110:qmr XK szK (cfg mx sp) 110 qpr):qmr XK szK (cfg mx sp) 28 q1x:=by
 intro ns pre r h hp
 unfold q1x at h
 dsimp only at h
 split at h
 .cases h
  exact ⟨_,rfl,qwj hq hf110 _ hp,qff rfl⟩
 .cases h
theorem qwm (hq:qb4 (cfg mx sp)) (a0:ZB) (hp:(ln a0<=1000)):qgf XK szK (cfg mx sp) 29 [.str (a0)] (qmx a0):=
 qsy qnf qic (qfk) hq (qcx rfl) (by simp [P.flat,P.cellsOf,RT]) (qwo a0) (qwn a0 hp)
theorem q0a (hq:qb4 (cfg mx sp)):qmr XK szK (cfg mx sp) 29 q1y:=by
 intro ns pre r h hp
 unfold q1y at h
 dsimp only at h
 split at h
 .cases h
  exact ⟨_,rfl,qwm hq _ hp,qff rfl⟩
 .cases h
theorem qo7 (hq:qb4 (cfg mx sp)) (hf9:qmr XK szK (cfg mx sp) 9 ct9) (hf110:qmr XK szK (cfg mx sp) 110 qpr) (a0:Int) (a1:ZB) (hp:(I64 a0/\ln a1<=9223372036854775807)):qgf XK szK (cfg mx sp) 8 [.int .i64 none (a0),.str (a1)] (qgz a0 a1):=
 qsy qnf qic (qc1 hf9 (qc1 (qz7 hq) (qc1 (qz8 hq) (qc1 (qz9 hq hf110) (qc1 (q0a hq) (qfk)))))) hq (qcx rfl) (by simp [P.flat,P.cellsOf,RT]) (qo9 a0 a1) (qo8 a0 a1 hp)
end Go.Proofs.YtbopmiclcimjgaaGreatDoor
