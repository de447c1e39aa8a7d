import Derived.Test.YtpbliaccnbgapaaGreatDoorEventKnownT
import Derived.Test.YtpbliaccnbgapaaGreatDoorEventKnownK
import Derived.Test.YtpbliaccnbgapaaGreatDoorEventKnownR
import Derived.Test.YtpbliaccnbgapaaGreatDoorEventKnownQ
namespace Go.Proofs.YtpbliaccnbgapaaGreatDoor.eventKnown
open Go
set_option maxRecDepth 100000
theorem qlr:E2.zm Tryz.prog qh6.f qh6.qaj:=E2.qw Tryz.checked.mixed tables E2.zd (by kernel_rfl) zsv
theorem zqh:E2.zm Tryz.prog q4n.f q4n.qaj:=E2.qw Tryz.checked.mixed tables (E2.qd qlr E2.zd) (by kernel_rfl) zsw
theorem zqi:E2.zm Tryz.prog q93.f q93.qaj:=E2.qw Tryz.checked.mixed tables E2.zd (by kernel_rfl) zsx
theorem zqj:E2.zm Tryz.prog q94.f q94.qaj:=E2.qw Tryz.checked.mixed tables E2.zd (by kernel_rfl) zsy
theorem zm3:E2.zm Tryz.prog qy9.f qy9.qaj:=E2.qw Tryz.checked.mixed tables (E2.qd zqi (E2.qd zqj E2.zd)) (by kernel_rfl) zsz
theorem zm4:E2.zm Tryz.prog q4o.f q4o.qaj:=E2.qw Tryz.checked.mixed tables (E2.qd qlr E2.zd) (by kernel_rfl) zs0
theorem zqk:E2.zm Tryz.prog q95.f q95.qaj:=E2.qw Tryz.checked.mixed tables (E2.qd zm4 (E2.qd qlr E2.zd)) (by kernel_rfl) zs1
theorem zm5:E2.zm Tryz.prog q4p.f q4p.qaj:=E2.qw Tryz.checked.mixed tables (E2.qd qlr E2.zd) (by kernel_rfl) zs2
theorem zql:E2.zm Tryz.prog q4q.f q4q.qaj:=E2.qw Tryz.checked.mixed tables (E2.qd zqk (E2.qd zm4 (E2.qd qlr (E2.qd zm5 E2.zd)))) (by kernel_rfl) zs3
theorem q42:E2.zm Tryz.prog qpf.f qpf.qaj:=E2.qw Tryz.checked.mixed tables E2.zd (by kernel_rfl) zs4
theorem zob:E2.zm Tryz.prog q1e.f q1e.qaj:=E2.qw Tryz.checked.mixed tables (E2.qd qlr E2.zd) (by kernel_rfl) zra
theorem zoc:E2.zm Tryz.prog qva.f qva.qaj:=E2.qw Tryz.checked.mixed tables (E2.qd zob (E2.qd qlr E2.zd)) (by kernel_rfl) zrb
theorem q1v:E2.zm Tryz.prog qnz.f qnz.qaj:=E2.qw Tryz.checked.mixed tables E2.zd (by kernel_rfl) zrc
theorem zod:E2.zm Tryz.prog q1f.f q1f.qaj:=E2.qw Tryz.checked.mixed tables (E2.qd q1v E2.zd) (by kernel_rfl) zrd
theorem zgm:E2.zm Tryz.prog qvb.f qvb.qaj:=E2.qw Tryz.checked.mixed tables (E2.qd q1v E2.zd) (by kernel_rfl) zre
theorem zoe:E2.zm Tryz.prog q1g.f q1g.qaj:=E2.qw Tryz.checked.mixed tables (E2.qd zgm (E2.qd q1v E2.zd)) (by kernel_rfl) zrf
theorem zof:E2.zm Tryz.prog qvc.f qvc.qaj:=E2.qw Tryz.checked.mixed tables (E2.qd q1v (E2.qd zod (E2.qd zm3 (E2.qd zoe (E2.qd zgm E2.zd))))) (by kernel_rfl) zrg
theorem zgn:E2.zm Tryz.prog qvd.f qvd.qaj:=E2.qw Tryz.checked.mixed tables (E2.qd qlr E2.zd) (by kernel_rfl) zrh
theorem zog:E2.zm Tryz.prog q1h.f q1h.qaj:=E2.qw Tryz.checked.mixed tables (E2.qd zgn (E2.qd qlr E2.zd)) (by kernel_rfl) zri
theorem zoh:E2.zm Tryz.prog qve.f qve.qaj:=E2.qw Tryz.checked.mixed tables (E2.qd zog (E2.qd zgn (E2.qd qlr (E2.qd zm5 E2.zd)))) (by kernel_rfl) zrj
theorem zoi:E2.zm Tryz.prog qvf.f qvf.qaj:=E2.qw Tryz.checked.mixed tables (E2.qd q42 E2.zd) (by kernel_rfl) zrk
theorem zoj:E2.zm Tryz.prog qvg.f qvg.qaj:=E2.qw Tryz.checked.mixed tables (E2.qd q42 E2.zd) (by kernel_rfl) zrl
theorem qv3:E2.zm Tryz.prog qlk.f qlk.qaj:=E2.qw Tryz.checked.mixed tables E2.zd (by kernel_rfl) zrm
theorem zok:E2.zm Tryz.prog q1i.f q1i.qaj:=E2.qw Tryz.checked.mixed tables (E2.qd qv3 E2.zd) (by kernel_rfl) zrn
theorem zol:E2.zm Tryz.prog q1j.f q1j.qaj:=E2.qw Tryz.checked.mixed tables E2.zd (by kernel_rfl) zro
theorem zom:E2.zm Tryz.prog q1k.f q1k.qaj:=E2.qw Tryz.checked.mixed tables (E2.qd zol E2.zd) (by kernel_rfl) zrp
theorem zgo:E2.zm Tryz.prog qvh.f qvh.qaj:=E2.qw Tryz.checked.mixed tables (E2.qd qv3 E2.zd) (by kernel_rfl) zrq
theorem zgp:E2.zm Tryz.prog qvi.f qvi.qaj:=E2.qw Tryz.checked.mixed tables (E2.qd qv3 E2.zd) (by kernel_rfl) zrr
theorem zon:E2.zm Tryz.prog q1l.f q1l.qaj:=E2.qw Tryz.checked.mixed tables (E2.qd zgo (E2.qd zgp E2.zd)) (by kernel_rfl) zrs
theorem zoo:E2.zm Tryz.prog q1m.f q1m.qaj:=E2.qw Tryz.checked.mixed tables (E2.qd zon (E2.qd zgo (E2.qd qv3 (E2.qd zgp E2.zd)))) (by kernel_rfl) zrt
theorem zop:E2.zm Tryz.prog qvj.f qvj.qaj:=E2.qw Tryz.checked.mixed tables (E2.qd qv3 (E2.qd zok (E2.qd zom (E2.qd zoo E2.zd)))) (by kernel_rfl) zru
theorem qv4:E2.zm Tryz.prog qll.f qll.qaj:=E2.qw Tryz.checked.mixed tables E2.zd (by kernel_rfl) zrv
theorem zoq:E2.zm Tryz.prog q1n.f q1n.qaj:=E2.qw Tryz.checked.mixed tables (E2.qd qv4 E2.zd) (by kernel_rfl) zrw
theorem zor:E2.zm Tryz.prog q1o.f q1o.qaj:=E2.qw Tryz.checked.mixed tables E2.zd (by kernel_rfl) zrx
theorem zos:E2.zm Tryz.prog q1p.f q1p.qaj:=E2.qw Tryz.checked.mixed tables E2.zd (by kernel_rfl) zry
theorem zot:E2.zm Tryz.prog qvk.f qvk.qaj:=E2.qw Tryz.checked.mixed tables (E2.qd qv4 (E2.qd zoq (E2.qd zor (E2.qd zos E2.zd)))) (by kernel_rfl) zrz
theorem zgq:E2.zm Tryz.prog qvl.f qvl.qaj:=E2.qw Tryz.checked.mixed tables (E2.qd qv4 E2.zd) (by kernel_rfl) zr0
theorem zgr:E2.zm Tryz.prog qvm.f qvm.qaj:=E2.qw Tryz.checked.mixed tables (E2.qd qv4 E2.zd) (by kernel_rfl) zr1
theorem zou:E2.zm Tryz.prog q1q.f q1q.qaj:=E2.qw Tryz.checked.mixed tables (E2.qd zgq (E2.qd zgr E2.zd)) (by kernel_rfl) zr2
theorem zov:E2.zm Tryz.prog qvn.f qvn.qaj:=E2.qw Tryz.checked.mixed tables (E2.qd zou (E2.qd zgq (E2.qd qv4 (E2.qd zgr E2.zd)))) (by kernel_rfl) zr3
theorem zow:E2.zm Tryz.prog qvo.f qvo.qaj:=E2.qw Tryz.checked.mixed tables E2.zd (by kernel_rfl) zr4
theorem zox:E2.zm Tryz.prog qvp.f qvp.qaj:=E2.qw Tryz.checked.mixed tables (E2.qd q42 E2.zd) (by kernel_rfl) zr5
theorem zoy:E2.zm Tryz.prog qvq.f qvq.qaj:=E2.qw Tryz.checked.mixed tables (E2.qd q42 E2.zd) (by kernel_rfl) zr6
theorem zoz:E2.zm Tryz.prog qvr.f qvr.qaj:=E2.qw Tryz.checked.mixed tables E2.zd (by kernel_rfl) zr7
theorem zo0:E2.zm Tryz.prog qvs.f qvs.qaj:=E2.qw Tryz.checked.mixed tables E2.zd (by kernel_rfl) zr8
theorem zqm:∀ F ∈ [qh6,q4n,qy9,q4q,qpf,qva,qvc,qve,qvf,qvg,qvj,qvk,qvn,qvo,qvp,qvq,qvr,qvs],E2.zm Tryz.prog F.f F.qaj:=(E2.qd qlr (E2.qd zqh (E2.qd zm3 (E2.qd zql (E2.qd q42 (E2.qd zoc (E2.qd zof (E2.qd zoh (E2.qd zoi (E2.qd zoj (E2.qd zop (E2.qd zot (E2.qd zov (E2.qd zow (E2.qd zox (E2.qd zoy (E2.qd zoz (E2.qd zo0 E2.zd))))))))))))))))))
end Go.Proofs.YtpbliaccnbgapaaGreatDoor.eventKnown
