import Derived.Test.YtcnoipglgpkpeaaGreatDoorCanonAwakeT
import Derived.Test.YtcnoipglgpkpeaaGreatDoorCanonAwakeK
import Derived.Test.YtcnoipglgpkpeaaGreatDoorCanonAwakeR
import Derived.Test.YtcnoipglgpkpeaaGreatDoorCanonAwakeQ
namespace Go.Proofs.YtcnoipglgpkpeaaGreatDoor.canonAwake
open Go
set_option maxRecDepth 100000
theorem qvu:E2.zu Tryz.prog qm9.f qm9.qbe:=E2.zf Tryz.checked.mixed tables E2.zm (by kernel_rfl) zsn
theorem zqs:E2.zu Tryz.prog zai.f zai.qbe:=E2.zf Tryz.checked.mixed tables (E2.qt qvu E2.zm) (by kernel_rfl) zso
theorem zqt:E2.zu Tryz.prog zaj.f zaj.qbe:=E2.zf Tryz.checked.mixed tables E2.zm (by kernel_rfl) zsp
theorem zqu:E2.zu Tryz.prog zak.f zak.qbe:=E2.zf Tryz.checked.mixed tables E2.zm (by kernel_rfl) zsq
theorem zqv:E2.zu Tryz.prog zal.f zal.qbe:=E2.zf Tryz.checked.mixed tables (E2.qt zqt (E2.qt zqu E2.zm)) (by kernel_rfl) zsr
theorem znk:E2.zu Tryz.prog q4x.f q4x.qbe:=E2.zf Tryz.checked.mixed tables (E2.qt qvu E2.zm) (by kernel_rfl) zss
theorem zqw:E2.zu Tryz.prog zam.f zam.qbe:=E2.zf Tryz.checked.mixed tables (E2.qt znk (E2.qt qvu E2.zm)) (by kernel_rfl) zst
theorem zqx:E2.zu Tryz.prog zan.f zan.qbe:=E2.zf Tryz.checked.mixed tables (E2.qt qvu E2.zm) (by kernel_rfl) zsu
theorem zqy:E2.zu Tryz.prog zao.f zao.qbe:=E2.zf Tryz.checked.mixed tables (E2.qt zqw (E2.qt znk (E2.qt qvu (E2.qt zqx E2.zm)))) (by kernel_rfl) zsv
theorem zqz:E2.zu Tryz.prog zap.f zap.qbe:=E2.zf Tryz.checked.mixed tables E2.zm (by kernel_rfl) zsw
theorem zo3:E2.zu Tryz.prog q06.f q06.qbe:=E2.zf Tryz.checked.mixed tables E2.zm (by kernel_rfl) zrc
theorem zo4:E2.zu Tryz.prog q07.f q07.qbe:=E2.zf Tryz.checked.mixed tables E2.zm (by kernel_rfl) zrd
theorem zo5:E2.zu Tryz.prog q08.f q08.qbe:=E2.zf Tryz.checked.mixed tables E2.zm (by kernel_rfl) zre
theorem zo6:E2.zu Tryz.prog q09.f q09.qbe:=E2.zf Tryz.checked.mixed tables E2.zm (by kernel_rfl) zrf
theorem zo7:E2.zu Tryz.prog qvc.f qvc.qbe:=E2.zf Tryz.checked.mixed tables (E2.qt qvu (E2.qt zqs (E2.qt zqv (E2.qt zqy (E2.qt zqz (E2.qt zo3 (E2.qt zo4 (E2.qt zo5 (E2.qt zo6 E2.zm))))))))) (by kernel_rfl) zrg
theorem qqx:E2.zu Tryz.prog qke.f qke.qbe:=E2.zf Tryz.checked.mixed tables E2.zm (by kernel_rfl) zrh
theorem zo8:E2.zu Tryz.prog q1a.f q1a.qbe:=E2.zf Tryz.checked.mixed tables (E2.qt qqx E2.zm) (by kernel_rfl) zri
theorem zo9:E2.zu Tryz.prog q1b.f q1b.qbe:=E2.zf Tryz.checked.mixed tables E2.zm (by kernel_rfl) zrj
theorem zpa:E2.zu Tryz.prog q1c.f q1c.qbe:=E2.zf Tryz.checked.mixed tables E2.zm (by kernel_rfl) zrk
theorem q8k:E2.zu Tryz.prog qqs.f qqs.qbe:=E2.zf Tryz.checked.mixed tables (E2.qt zpa E2.zm) (by kernel_rfl) zrl
theorem q8l:E2.zu Tryz.prog qqt.f qqt.qbe:=E2.zf Tryz.checked.mixed tables E2.zm (by kernel_rfl) zrm
theorem zpb:E2.zu Tryz.prog q1d.f q1d.qbe:=E2.zf Tryz.checked.mixed tables (E2.qt q8k (E2.qt q8l E2.zm)) (by kernel_rfl) zrn
theorem zpc:E2.zu Tryz.prog q1e.f q1e.qbe:=E2.zf Tryz.checked.mixed tables (E2.qt q8k (E2.qt q8l (E2.qt zpb E2.zm))) (by kernel_rfl) zro
theorem zpd:E2.zu Tryz.prog q1f.f q1f.qbe:=E2.zf Tryz.checked.mixed tables (E2.qt q8l E2.zm) (by kernel_rfl) zrp
theorem zpe:E2.zu Tryz.prog q1g.f q1g.qbe:=E2.zf Tryz.checked.mixed tables (E2.qt zpc (E2.qt q8k (E2.qt zpd E2.zm))) (by kernel_rfl) zrq
theorem zpf:E2.zu Tryz.prog q1h.f q1h.qbe:=E2.zf Tryz.checked.mixed tables (E2.qt zo9 (E2.qt zpe E2.zm)) (by kernel_rfl) zrr
theorem zhh:E2.zu Tryz.prog qvd.f qvd.qbe:=E2.zf Tryz.checked.mixed tables (E2.qt qqx E2.zm) (by kernel_rfl) zrs
theorem zpg:E2.zu Tryz.prog q1i.f q1i.qbe:=E2.zf Tryz.checked.mixed tables (E2.qt zhh (E2.qt qqx E2.zm)) (by kernel_rfl) zrt
theorem zph:E2.zu Tryz.prog q1j.f q1j.qbe:=E2.zf Tryz.checked.mixed tables (E2.qt qqx E2.zm) (by kernel_rfl) zru
theorem zpi:E2.zu Tryz.prog q1k.f q1k.qbe:=E2.zf Tryz.checked.mixed tables (E2.qt zpg (E2.qt zhh (E2.qt qqx (E2.qt zph E2.zm)))) (by kernel_rfl) zrv
theorem zpj:E2.zu Tryz.prog q1l.f q1l.qbe:=E2.zf Tryz.checked.mixed tables E2.zm (by kernel_rfl) zrw
theorem zpk:E2.zu Tryz.prog q1m.f q1m.qbe:=E2.zf Tryz.checked.mixed tables E2.zm (by kernel_rfl) zrx
theorem zpl:E2.zu Tryz.prog q1n.f q1n.qbe:=E2.zf Tryz.checked.mixed tables E2.zm (by kernel_rfl) zry
theorem zpm:E2.zu Tryz.prog q1o.f q1o.qbe:=E2.zf Tryz.checked.mixed tables E2.zm (by kernel_rfl) zrz
theorem zpn:E2.zu Tryz.prog qve.f qve.qbe:=E2.zf Tryz.checked.mixed tables (E2.qt qvu (E2.qt qqx (E2.qt zo8 (E2.qt zpf (E2.qt zpi (E2.qt zpj (E2.qt zpk (E2.qt zpl (E2.qt zpm E2.zm))))))))) (by kernel_rfl) zr0
theorem zq0:∀ F ∈ [qvc,qve],E2.zu Tryz.prog F.f F.qbe:=(E2.qt zo7 (E2.qt zpn E2.zm))
end Go.Proofs.YtcnoipglgpkpeaaGreatDoor.canonAwake
