import Derived.Test.YtpofmogdhigakaaGreatDoorRows
import Derived.Test.YtpofmogdhigakaaGreatDoorSolveAwakeD
import Derived.Test.YtpofmogdhigakaaGreatDoorSolveAwakeT
import Derived.Test.YtpofmogdhigakaaGreatDoorSolveAwakeR
namespace Go.Proofs.YtpofmogdhigakaaGreatDoor.solveAwake
open Go
set_option maxRecDepth 100000
theorem zua:E2.Fact.ok2 q2v (E2.qw Tryz.prog (E2.qci [q2u,qxt])) 1000=true:=by kernel_rfl
theorem zub:E2.Fact.ok2 qxs (E2.qw Tryz.prog (E2.qci [qxt,q9y,q2t,q2v])) 1000=true:=by kernel_rfl
end Go.Proofs.YtpofmogdhigakaaGreatDoor.solveAwake
namespace Go.Proofs.YtpofmogdhigakaaGreatDoor.solveAwake
open Go
set_option maxRecDepth 100000
def quc:E2.Fact:={f:=5,args:=[],pre:=qp,next:=3,ro:=3,qp:=3,ret:=.bool true,post:=[],next':=4010}
theorem zev:E2.Fact.ok2 quc (E2.qw Tryz.prog (E2.qci [q5i,qxs])) 1000=true:=by kernel_rfl
end Go.Proofs.YtpofmogdhigakaaGreatDoor.solveAwake
namespace Go.Proofs.YtpofmogdhigakaaGreatDoor.solveAwake
open Go
set_option maxRecDepth 100000
theorem zlj:E2.je Tryz.prog q5h.f q5h.qdw:=E2.z8 Tryz.checked.mixed tables E2.kx (by kernel_rfl) zvi
theorem zsi:E2.je Tryz.prog q9w.f q9w.qdw:=E2.z8 Tryz.checked.mixed tables (E2.zh zlj E2.kx) (by kernel_rfl) zvj
theorem zsj:E2.je Tryz.prog q9x.f q9x.qdw:=E2.z8 Tryz.checked.mixed tables (E2.zh zlj E2.kx) (by kernel_rfl) zvk
theorem zsk:E2.je Tryz.prog q5i.f q5i.qdw:=E2.z8 Tryz.checked.mixed tables (E2.zh zsi (E2.zh zsj E2.kx)) (by kernel_rfl) zvl
theorem zab:E2.je Tryz.prog qxt.f qxt.qdw:=E2.z8 Tryz.checked.mixed tables E2.kx (by kernel_rfl) zvm
theorem zsl:E2.je Tryz.prog q9y.f q9y.qdw:=E2.z8 Tryz.checked.mixed tables (E2.zh zab E2.kx) (by kernel_rfl) zvn
theorem zsm:E2.je Tryz.prog q9z.f q9z.qdw:=E2.z8 Tryz.checked.mixed tables E2.kx (by kernel_rfl) zvo
theorem zsn:E2.je Tryz.prog q90.f q90.qdw:=E2.z8 Tryz.checked.mixed tables E2.kx (by kernel_rfl) zvp
theorem zso:E2.je Tryz.prog q91.f q91.qdw:=E2.z8 Tryz.checked.mixed tables E2.kx (by kernel_rfl) zvq
theorem zsp:E2.je Tryz.prog q92.f q92.qdw:=E2.z8 Tryz.checked.mixed tables E2.kx (by kernel_rfl) zvr
theorem q21:E2.je Tryz.prog qqy.f qqy.qdw:=E2.z8 Tryz.checked.mixed tables (E2.zh zso (E2.zh zsp E2.kx)) (by kernel_rfl) ztz
theorem zn9:E2.je Tryz.prog q2n.f q2n.qdw:=E2.z8 Tryz.checked.mixed tables (E2.zh q21 E2.kx) (by kernel_rfl) zt0
theorem q76:E2.je Tryz.prog qt2.f qt2.qdw:=E2.z8 Tryz.checked.mixed tables E2.kx (by kernel_rfl) zt1
theorem q77:E2.je Tryz.prog qt3.f qt3.qdw:=E2.z8 Tryz.checked.mixed tables E2.kx (by kernel_rfl) zt2
theorem zoa:E2.je Tryz.prog q2o.f q2o.qdw:=E2.z8 Tryz.checked.mixed tables (E2.zh q21 (E2.zh q76 (E2.zh q77 E2.kx))) (by kernel_rfl) zt3
theorem zob:E2.je Tryz.prog q2p.f q2p.qdw:=E2.z8 Tryz.checked.mixed tables (E2.zh q76 (E2.zh q77 E2.kx)) (by kernel_rfl) zt4
theorem zoc:E2.je Tryz.prog q2q.f q2q.qdw:=E2.z8 Tryz.checked.mixed tables (E2.zh q21 (E2.zh zob E2.kx)) (by kernel_rfl) zt5
theorem zod:E2.je Tryz.prog q2r.f q2r.qdw:=E2.z8 Tryz.checked.mixed tables (E2.zh q76 (E2.zh q77 E2.kx)) (by kernel_rfl) zt6
theorem zoe:E2.je Tryz.prog q2s.f q2s.qdw:=E2.z8 Tryz.checked.mixed tables (E2.zh q21 (E2.zh zn9 (E2.zh zoa (E2.zh zoc (E2.zh zod E2.kx))))) (by kernel_rfl) zt7
theorem zof:E2.je Tryz.prog q2t.f q2t.qdw:=E2.z8 Tryz.checked.mixed tables (E2.zh zsm (E2.zh zsn (E2.zh zoe E2.kx))) (by kernel_rfl) zt8
theorem zog:E2.je Tryz.prog q2u.f q2u.qdw:=E2.z8 Tryz.checked.mixed tables (E2.zh zab E2.kx) (by kernel_rfl) zt9
theorem zoh:E2.je Tryz.prog q2v.f q2v.qdw:=E2.z8 Tryz.checked.mixed tables (E2.zh zog (E2.zh zab E2.kx)) (by kernel_rfl) zua
theorem zoi:E2.je Tryz.prog qxs.f qxs.qdw:=E2.z8 Tryz.checked.mixed tables (E2.zh zab (E2.zh zsl (E2.zh zof (E2.zh zoh E2.kx)))) (by kernel_rfl) zub
theorem zsq:∀ F ∈ [q5i,qxs],E2.je Tryz.prog F.f F.qdw:=(E2.zh zsk (E2.zh zoi E2.kx))
end Go.Proofs.YtpofmogdhigakaaGreatDoor.solveAwake
