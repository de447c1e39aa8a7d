import Derived.Test.YtcnoipglgpkpeaaGreatDoorCanonAwakeT
import Derived.Test.YtcnoipglgpkpeaaGreatDoorCanonAwakeK
import Derived.Test.YtcnoipglgpkpeaaGreatDoorCanonAwakeR
import Derived.Test.YtcnoipglgpkpeaaGreatDoorCanonAwakeQ
namespace Go.Proofs.YtcnoipglgpkpeaaGreatDoor.canonAwake
open Go
set_option maxRecDepth 100000
theorem qt3:E2.zn Tryz.prog qmj.f qmj.qay:=E2.qz Tryz.checked.mixed tables E2.zi (by kernel_rfl) zm5
theorem zk0:E2.zn Tryz.prog q6n.f q6n.qay:=E2.qz Tryz.checked.mixed tables (E2.ql qt3 E2.zi) (by kernel_rfl) zm6
theorem zk1:E2.zn Tryz.prog q6o.f q6o.qay:=E2.qz Tryz.checked.mixed tables E2.zi (by kernel_rfl) zm7
theorem zk2:E2.zn Tryz.prog q6p.f q6p.qay:=E2.qz Tryz.checked.mixed tables E2.zi (by kernel_rfl) zm8
theorem zk3:E2.zn Tryz.prog q6q.f q6q.qay:=E2.qz Tryz.checked.mixed tables (E2.ql zk1 (E2.ql zk2 E2.zi)) (by kernel_rfl) zm9
theorem zh5:E2.zn Tryz.prog q1s.f q1s.qay:=E2.qz Tryz.checked.mixed tables (E2.ql qt3 E2.zi) (by kernel_rfl) zna
theorem zk4:E2.zn Tryz.prog q6r.f q6r.qay:=E2.qz Tryz.checked.mixed tables (E2.ql zh5 (E2.ql qt3 E2.zi)) (by kernel_rfl) znb
theorem zk5:E2.zn Tryz.prog q6s.f q6s.qay:=E2.qz Tryz.checked.mixed tables (E2.ql qt3 E2.zi) (by kernel_rfl) znc
theorem zk6:E2.zn Tryz.prog q6t.f q6t.qay:=E2.qz Tryz.checked.mixed tables (E2.ql zk4 (E2.ql zh5 (E2.ql qt3 (E2.ql zk5 E2.zi)))) (by kernel_rfl) znd
theorem zk7:E2.zn Tryz.prog q6u.f q6u.qay:=E2.qz Tryz.checked.mixed tables E2.zi (by kernel_rfl) zne
theorem zi4:E2.zn Tryz.prog qyl.f qyl.qay:=E2.qz Tryz.checked.mixed tables E2.zi (by kernel_rfl) zlr
theorem zi5:E2.zn Tryz.prog qym.f qym.qay:=E2.qz Tryz.checked.mixed tables E2.zi (by kernel_rfl) zls
theorem zi6:E2.zn Tryz.prog qyn.f qyn.qay:=E2.qz Tryz.checked.mixed tables E2.zi (by kernel_rfl) zlt
theorem zi7:E2.zn Tryz.prog qyo.f qyo.qay:=E2.qz Tryz.checked.mixed tables E2.zi (by kernel_rfl) zlu
theorem zi8:E2.zn Tryz.prog qto.f qto.qay:=E2.qz Tryz.checked.mixed tables (E2.ql qt3 (E2.ql zk0 (E2.ql zk3 (E2.ql zk6 (E2.ql zk7 (E2.ql zi4 (E2.ql zi5 (E2.ql zi6 (E2.ql zi7 E2.zi))))))))) (by kernel_rfl) zlv
theorem qpz:E2.zn Tryz.prog qjr.f qjr.qay:=E2.qz Tryz.checked.mixed tables E2.zi (by kernel_rfl) zlw
theorem zi9:E2.zn Tryz.prog qyp.f qyp.qay:=E2.qz Tryz.checked.mixed tables (E2.ql qpz E2.zi) (by kernel_rfl) zlx
theorem zja:E2.zn Tryz.prog qyq.f qyq.qay:=E2.qz Tryz.checked.mixed tables E2.zi (by kernel_rfl) zly
theorem zjb:E2.zn Tryz.prog qyr.f qyr.qay:=E2.qz Tryz.checked.mixed tables E2.zi (by kernel_rfl) zlz
theorem q4s:E2.zn Tryz.prog qps.f qps.qay:=E2.qz Tryz.checked.mixed tables (E2.ql zjb E2.zi) (by kernel_rfl) zl0
theorem q4t:E2.zn Tryz.prog qpt.f qpt.qay:=E2.qz Tryz.checked.mixed tables E2.zi (by kernel_rfl) zl1
theorem zjc:E2.zn Tryz.prog qys.f qys.qay:=E2.qz Tryz.checked.mixed tables (E2.ql q4s (E2.ql q4t E2.zi)) (by kernel_rfl) zl2
theorem zjd:E2.zn Tryz.prog qyt.f qyt.qay:=E2.qz Tryz.checked.mixed tables (E2.ql q4s (E2.ql q4t (E2.ql zjc E2.zi))) (by kernel_rfl) zl3
theorem zje:E2.zn Tryz.prog qyu.f qyu.qay:=E2.qz Tryz.checked.mixed tables (E2.ql q4t E2.zi) (by kernel_rfl) zl4
theorem zjf:E2.zn Tryz.prog qyv.f qyv.qay:=E2.qz Tryz.checked.mixed tables (E2.ql zjd (E2.ql q4s (E2.ql zje E2.zi))) (by kernel_rfl) zl5
theorem zjg:E2.zn Tryz.prog qyw.f qyw.qay:=E2.qz Tryz.checked.mixed tables (E2.ql zja (E2.ql zjf E2.zi)) (by kernel_rfl) zl6
theorem zcf:E2.zn Tryz.prog qtp.f qtp.qay:=E2.qz Tryz.checked.mixed tables (E2.ql qpz E2.zi) (by kernel_rfl) zl7
theorem zjh:E2.zn Tryz.prog qyx.f qyx.qay:=E2.qz Tryz.checked.mixed tables (E2.ql zcf (E2.ql qpz E2.zi)) (by kernel_rfl) zl8
theorem zji:E2.zn Tryz.prog qyy.f qyy.qay:=E2.qz Tryz.checked.mixed tables (E2.ql qpz E2.zi) (by kernel_rfl) zl9
theorem zjj:E2.zn Tryz.prog qyz.f qyz.qay:=E2.qz Tryz.checked.mixed tables (E2.ql zjh (E2.ql zcf (E2.ql qpz (E2.ql zji E2.zi)))) (by kernel_rfl) zma
theorem zjk:E2.zn Tryz.prog qy0.f qy0.qay:=E2.qz Tryz.checked.mixed tables E2.zi (by kernel_rfl) zmb
theorem zjl:E2.zn Tryz.prog qy1.f qy1.qay:=E2.qz Tryz.checked.mixed tables E2.zi (by kernel_rfl) zmc
theorem zjm:E2.zn Tryz.prog qy2.f qy2.qay:=E2.qz Tryz.checked.mixed tables E2.zi (by kernel_rfl) zmd
theorem zjn:E2.zn Tryz.prog qy3.f qy3.qay:=E2.qz Tryz.checked.mixed tables E2.zi (by kernel_rfl) zme
theorem zjo:E2.zn Tryz.prog qtq.f qtq.qay:=E2.qz Tryz.checked.mixed tables (E2.ql qt3 (E2.ql qpz (E2.ql zi9 (E2.ql zjg (E2.ql zjj (E2.ql zjk (E2.ql zjl (E2.ql zjm (E2.ql zjn E2.zi))))))))) (by kernel_rfl) zmf
theorem zk8:∀ F ∈ [qto,qtq],E2.zn Tryz.prog F.f F.qay:=(E2.ql zi8 (E2.ql zjo E2.zi))
end Go.Proofs.YtcnoipglgpkpeaaGreatDoor.canonAwake
