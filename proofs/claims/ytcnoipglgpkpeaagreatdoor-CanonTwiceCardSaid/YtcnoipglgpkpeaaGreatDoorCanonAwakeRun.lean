import Derived.Test.YtcnoipglgpkpeaaGreatDoorCanonAwakeT
import Derived.Test.YtcnoipglgpkpeaaGreatDoorCanonAwakeK
import Derived.Test.YtcnoipglgpkpeaaGreatDoorCanonAwakeR
import Derived.Test.YtcnoipglgpkpeaaGreatDoorCanonAwakeQ
namespace Go.Proofs.YtcnoipglgpkpeaaGreatDoor.canonAwake
open Go
set_option maxRecDepth 100000
theorem qsa:E2.zk Tryz.prog qk8.f qk8.qaj:=E2.za Tryz.checked.mixed tables E2.ze (by kernel_rfl) zhv
theorem zfx:E2.zk Tryz.prog q3b.f q3b.qaj:=E2.za Tryz.checked.mixed tables (E2.qk qsa E2.ze) (by kernel_rfl) zhw
theorem zfy:E2.zk Tryz.prog q3c.f q3c.qaj:=E2.za Tryz.checked.mixed tables E2.ze (by kernel_rfl) zhx
theorem zfz:E2.zk Tryz.prog q3d.f q3d.qaj:=E2.za Tryz.checked.mixed tables E2.ze (by kernel_rfl) zhy
theorem zf0:E2.zk Tryz.prog q3e.f q3e.qaj:=E2.za Tryz.checked.mixed tables (E2.qk zfy (E2.qk zfz E2.ze)) (by kernel_rfl) zhz
theorem zdc:E2.zk Tryz.prog qy4.f qy4.qaj:=E2.za Tryz.checked.mixed tables (E2.qk qsa E2.ze) (by kernel_rfl) zh0
theorem zf1:E2.zk Tryz.prog q3f.f q3f.qaj:=E2.za Tryz.checked.mixed tables (E2.qk zdc (E2.qk qsa E2.ze)) (by kernel_rfl) zh1
theorem zf2:E2.zk Tryz.prog q3g.f q3g.qaj:=E2.za Tryz.checked.mixed tables (E2.qk qsa E2.ze) (by kernel_rfl) zh2
theorem zf3:E2.zk Tryz.prog q3h.f q3h.qaj:=E2.za Tryz.checked.mixed tables (E2.qk zf1 (E2.qk zdc (E2.qk qsa (E2.qk zf2 E2.ze)))) (by kernel_rfl) zh3
theorem zf4:E2.zk Tryz.prog q3i.f q3i.qaj:=E2.za Tryz.checked.mixed tables E2.ze (by kernel_rfl) zh4
theorem zd9:E2.zk Tryz.prog qv3.f qv3.qaj:=E2.za Tryz.checked.mixed tables E2.ze (by kernel_rfl) zgm
theorem zea:E2.zk Tryz.prog qv4.f qv4.qaj:=E2.za Tryz.checked.mixed tables E2.ze (by kernel_rfl) zgn
theorem zeb:E2.zk Tryz.prog qv5.f qv5.qaj:=E2.za Tryz.checked.mixed tables E2.ze (by kernel_rfl) zgo
theorem zec:E2.zk Tryz.prog qv6.f qv6.qaj:=E2.za Tryz.checked.mixed tables E2.ze (by kernel_rfl) zgp
theorem zed:E2.zk Tryz.prog qrx.f qrx.qaj:=E2.za Tryz.checked.mixed tables (E2.qk qsa (E2.qk zfx (E2.qk zf0 (E2.qk zf3 (E2.qk zf4 (E2.qk zd9 (E2.qk zea (E2.qk zeb (E2.qk zec E2.ze))))))))) (by kernel_rfl) zgq
theorem qol:E2.zk Tryz.prog qik.f qik.qaj:=E2.za Tryz.checked.mixed tables E2.ze (by kernel_rfl) zgr
theorem zee:E2.zk Tryz.prog qv7.f qv7.qaj:=E2.za Tryz.checked.mixed tables (E2.qk qol E2.ze) (by kernel_rfl) zgs
theorem zef:E2.zk Tryz.prog qv8.f qv8.qaj:=E2.za Tryz.checked.mixed tables E2.ze (by kernel_rfl) zgt
theorem zeg:E2.zk Tryz.prog qv9.f qv9.qaj:=E2.za Tryz.checked.mixed tables E2.ze (by kernel_rfl) zgu
theorem q1x:E2.zk Tryz.prog qog.f qog.qaj:=E2.za Tryz.checked.mixed tables (E2.qk zeg E2.ze) (by kernel_rfl) zgv
theorem q1y:E2.zk Tryz.prog qoh.f qoh.qaj:=E2.za Tryz.checked.mixed tables E2.ze (by kernel_rfl) zgw
theorem zeh:E2.zk Tryz.prog qwa.f qwa.qaj:=E2.za Tryz.checked.mixed tables (E2.qk q1x (E2.qk q1y E2.ze)) (by kernel_rfl) zgx
theorem zei:E2.zk Tryz.prog qwb.f qwb.qaj:=E2.za Tryz.checked.mixed tables (E2.qk q1x (E2.qk q1y (E2.qk zeh E2.ze))) (by kernel_rfl) zgy
theorem zej:E2.zk Tryz.prog qwc.f qwc.qaj:=E2.za Tryz.checked.mixed tables (E2.qk q1y E2.ze) (by kernel_rfl) zgz
theorem zek:E2.zk Tryz.prog qwd.f qwd.qaj:=E2.za Tryz.checked.mixed tables (E2.qk zei (E2.qk q1x (E2.qk zej E2.ze))) (by kernel_rfl) zg0
theorem zel:E2.zk Tryz.prog qwe.f qwe.qaj:=E2.za Tryz.checked.mixed tables (E2.qk zef (E2.qk zek E2.ze)) (by kernel_rfl) zg1
theorem q8o:E2.zk Tryz.prog qry.f qry.qaj:=E2.za Tryz.checked.mixed tables (E2.qk qol E2.ze) (by kernel_rfl) zg2
theorem zem:E2.zk Tryz.prog qwf.f qwf.qaj:=E2.za Tryz.checked.mixed tables (E2.qk q8o (E2.qk qol E2.ze)) (by kernel_rfl) zg3
theorem zen:E2.zk Tryz.prog qwg.f qwg.qaj:=E2.za Tryz.checked.mixed tables (E2.qk qol E2.ze) (by kernel_rfl) zg4
theorem zeo:E2.zk Tryz.prog qwh.f qwh.qaj:=E2.za Tryz.checked.mixed tables (E2.qk zem (E2.qk q8o (E2.qk qol (E2.qk zen E2.ze)))) (by kernel_rfl) zg5
theorem zep:E2.zk Tryz.prog qwi.f qwi.qaj:=E2.za Tryz.checked.mixed tables E2.ze (by kernel_rfl) zg6
theorem zeq:E2.zk Tryz.prog qwj.f qwj.qaj:=E2.za Tryz.checked.mixed tables E2.ze (by kernel_rfl) zg7
theorem zer:E2.zk Tryz.prog qwk.f qwk.qaj:=E2.za Tryz.checked.mixed tables E2.ze (by kernel_rfl) zg8
theorem zes:E2.zk Tryz.prog qwl.f qwl.qaj:=E2.za Tryz.checked.mixed tables E2.ze (by kernel_rfl) zg9
theorem zet:E2.zk Tryz.prog qrz.f qrz.qaj:=E2.za Tryz.checked.mixed tables (E2.qk qsa (E2.qk qol (E2.qk zee (E2.qk zel (E2.qk zeo (E2.qk zep (E2.qk zeq (E2.qk zer (E2.qk zes E2.ze))))))))) (by kernel_rfl) zha
theorem zf5:∀ F ∈ [qrx,qrz],E2.zk Tryz.prog F.f F.qaj:=(E2.qk zed (E2.qk zet E2.ze))
end Go.Proofs.YtcnoipglgpkpeaaGreatDoor.canonAwake
