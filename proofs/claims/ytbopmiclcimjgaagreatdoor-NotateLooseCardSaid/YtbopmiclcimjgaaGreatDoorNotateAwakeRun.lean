/- THE FACTS OF THE LAW NotateAwake, joined. Made by program. No condition. -/
import Derived.Test.YtbopmiclcimjgaaGreatDoorNotateAwakeT
import Derived.Test.YtbopmiclcimjgaaGreatDoorNotateAwakeK
import Derived.Test.YtbopmiclcimjgaaGreatDoorNotateAwakeF
namespace Go.Proofs.YtbopmiclcimjgaaGreatDoor.notateAwake
open Go
set_option maxRecDepth 100000
theorem ztn:E2.ke Tryz.prog q5w.f q5w.qcq:=E2.zo Tryz.checked.mixed tables E2.zp (by kernel_rfl) zwi
theorem zto:E2.ke Tryz.prog q5x.f q5x.qcq:=E2.zo Tryz.checked.mixed tables E2.zp (by kernel_rfl) zwj
theorem ztp:E2.ke Tryz.prog zbw.f zbw.qcq:=E2.zo Tryz.checked.mixed tables E2.zp (by kernel_rfl) zwk
theorem ztq:E2.ke Tryz.prog q5y.f q5y.qcq:=E2.zo Tryz.checked.mixed tables (E2.zn ztp E2.zp) (by kernel_rfl) zwl
theorem ztr:E2.ke Tryz.prog q5z.f q5z.qcq:=E2.zo Tryz.checked.mixed tables E2.zp (by kernel_rfl) zwm
theorem zts:E2.ke Tryz.prog q50.f q50.qcq:=E2.zo Tryz.checked.mixed tables E2.zp (by kernel_rfl) zwn
theorem ztt:E2.ke Tryz.prog q51.f q51.qcq:=E2.zo Tryz.checked.mixed tables E2.zp (by kernel_rfl) zwo
theorem ztu:E2.ke Tryz.prog q52.f q52.qcq:=E2.zo Tryz.checked.mixed tables E2.zp (by kernel_rfl) zwp
theorem ztv:E2.ke Tryz.prog q53.f q53.qcq:=E2.zo Tryz.checked.mixed tables E2.zp (by kernel_rfl) zwq
theorem ztw:E2.ke Tryz.prog q54.f q54.qcq:=E2.zo Tryz.checked.mixed tables E2.zp (by kernel_rfl) zwr
theorem zq2:E2.ke Tryz.prog qw9.f qw9.qcq:=E2.zo Tryz.checked.mixed tables E2.zp (by kernel_rfl) zur
theorem zq3:E2.ke Tryz.prog qxa.f qxa.qcq:=E2.zo Tryz.checked.mixed tables E2.zp (by kernel_rfl) zus
theorem zq4:E2.ke Tryz.prog qxb.f qxb.qcq:=E2.zo Tryz.checked.mixed tables E2.zp (by kernel_rfl) zut
theorem zq5:E2.ke Tryz.prog qxc.f qxc.qcq:=E2.zo Tryz.checked.mixed tables E2.zp (by kernel_rfl) zuu
theorem zq6:E2.ke Tryz.prog qxd.f qxd.qcq:=E2.zo Tryz.checked.mixed tables E2.zp (by kernel_rfl) zuv
theorem zq7:E2.ke Tryz.prog q2y.f q2y.qcq:=E2.zo Tryz.checked.mixed tables E2.zp (by kernel_rfl) zuw
theorem zq8:E2.ke Tryz.prog qxe.f qxe.qcq:=E2.zo Tryz.checked.mixed tables (E2.zn zq7 E2.zp) (by kernel_rfl) zux
theorem zq9:E2.ke Tryz.prog qxf.f qxf.qcq:=E2.zo Tryz.checked.mixed tables E2.zp (by kernel_rfl) zuy
theorem zra:E2.ke Tryz.prog qxg.f qxg.qcq:=E2.zo Tryz.checked.mixed tables E2.zp (by kernel_rfl) zuz
theorem zrb:E2.ke Tryz.prog q2z.f q2z.qcq:=E2.zo Tryz.checked.mixed tables E2.zp (by kernel_rfl) zu0
theorem zrc:E2.ke Tryz.prog qxh.f qxh.qcq:=E2.zo Tryz.checked.mixed tables (E2.zn zrb E2.zp) (by kernel_rfl) zu1
theorem zrd:E2.ke Tryz.prog q20.f q20.qcq:=E2.zo Tryz.checked.mixed tables E2.zp (by kernel_rfl) zu2
theorem zre:E2.ke Tryz.prog q21.f q21.qcq:=E2.zo Tryz.checked.mixed tables E2.zp (by kernel_rfl) zu3
theorem zrf:E2.ke Tryz.prog q22.f q22.qcq:=E2.zo Tryz.checked.mixed tables (E2.zn zre E2.zp) (by kernel_rfl) zu4
theorem zrg:E2.ke Tryz.prog qxi.f qxi.qcq:=E2.zo Tryz.checked.mixed tables (E2.zn zrd (E2.zn zrf E2.zp)) (by kernel_rfl) zu5
theorem zrh:E2.ke Tryz.prog qxj.f qxj.qcq:=E2.zo Tryz.checked.mixed tables E2.zp (by kernel_rfl) zu6
theorem zri:E2.ke Tryz.prog qxk.f qxk.qcq:=E2.zo Tryz.checked.mixed tables E2.zp (by kernel_rfl) zu7
theorem zty:∀ F ∈ [q5w,q5x,q5y,q5z,q50,q51,q52,q53,q54,qw9,qxa,qxb,qxc,qxd,qxe,qxf,qxg,qxh,qxi,qxj,qxk],E2.ke Tryz.prog F.f F.qcq:=(E2.zn ztn (E2.zn zto (E2.zn ztq (E2.zn ztr (E2.zn zts (E2.zn ztt (E2.zn ztu (E2.zn ztv (E2.zn ztw (E2.zn zq2 (E2.zn zq3 (E2.zn zq4 (E2.zn zq5 (E2.zn zq6 (E2.zn zq8 (E2.zn zq9 (E2.zn zra (E2.zn zrc (E2.zn zrg (E2.zn zrh (E2.zn zri E2.zp)))))))))))))))))))))
end Go.Proofs.YtbopmiclcimjgaaGreatDoor.notateAwake
