/- CALLS THAT THE LAW NotateAwake MAKES: run by the kernel over E2, part 1. Made by program. No condition. -/
import Derived.Test.YtbopmiclcimjgaaGreatDoorRows
import Derived.Test.YtbopmiclcimjgaaGreatDoorNotateAwakeD
namespace Go.Proofs.YtbopmiclcimjgaaGreatDoor.notateAwake
open Go
set_option maxRecDepth 100000
theorem zwi:E2.Fact.ok2 q5w (E2.qp Tryz.prog (E2.qba [])) 1000=true:=by kernel_rfl
theorem zwj:E2.Fact.ok2 q5x (E2.qp Tryz.prog (E2.qba [])) 1000=true:=by kernel_rfl
theorem zwk:E2.Fact.ok2 zbw (E2.qp Tryz.prog (E2.qba [])) 1000=true:=by kernel_rfl
theorem zwl:E2.Fact.ok2 q5y (E2.qp Tryz.prog (E2.qba [zbw])) 1000=true:=by kernel_rfl
theorem zwm:E2.Fact.ok2 q5z (E2.qp Tryz.prog (E2.qba [])) 1000=true:=by kernel_rfl
theorem zwn:E2.Fact.ok2 q50 (E2.qp Tryz.prog (E2.qba [])) 1000=true:=by kernel_rfl
end Go.Proofs.YtbopmiclcimjgaaGreatDoor.notateAwake
namespace Go.Proofs.YtbopmiclcimjgaaGreatDoor.notateAwake
open Go
set_option maxRecDepth 100000
theorem zwo:E2.Fact.ok2 q51 (E2.qp Tryz.prog (E2.qba [])) 1000=true:=by kernel_rfl
theorem zwp:E2.Fact.ok2 q52 (E2.qp Tryz.prog (E2.qba [])) 1000=true:=by kernel_rfl
theorem zwq:E2.Fact.ok2 q53 (E2.qp Tryz.prog (E2.qba [])) 1000=true:=by kernel_rfl
theorem zwr:E2.Fact.ok2 q54 (E2.qp Tryz.prog (E2.qba [])) 1000=true:=by kernel_rfl
theorem zur:E2.Fact.ok2 qw9 (E2.qp Tryz.prog (E2.qba [])) 1000=true:=by kernel_rfl
end Go.Proofs.YtbopmiclcimjgaaGreatDoor.notateAwake
namespace Go.Proofs.YtbopmiclcimjgaaGreatDoor.notateAwake
open Go
set_option maxRecDepth 100000
theorem zus:E2.Fact.ok2 qxa (E2.qp Tryz.prog (E2.qba [])) 1000=true:=by kernel_rfl
theorem zut:E2.Fact.ok2 qxb (E2.qp Tryz.prog (E2.qba [])) 1000=true:=by kernel_rfl
theorem zuu:E2.Fact.ok2 qxc (E2.qp Tryz.prog (E2.qba [])) 1000=true:=by kernel_rfl
theorem zuv:E2.Fact.ok2 qxd (E2.qp Tryz.prog (E2.qba [])) 1000=true:=by kernel_rfl
theorem zuw:E2.Fact.ok2 q2y (E2.qp Tryz.prog (E2.qba [])) 1000=true:=by kernel_rfl
theorem zux:E2.Fact.ok2 qxe (E2.qp Tryz.prog (E2.qba [q2y])) 1000=true:=by kernel_rfl
end Go.Proofs.YtbopmiclcimjgaaGreatDoor.notateAwake
namespace Go.Proofs.YtbopmiclcimjgaaGreatDoor.notateAwake
open Go
set_option maxRecDepth 100000
theorem zuy:E2.Fact.ok2 qxf (E2.qp Tryz.prog (E2.qba [])) 1000=true:=by kernel_rfl
theorem zuz:E2.Fact.ok2 qxg (E2.qp Tryz.prog (E2.qba [])) 1000=true:=by kernel_rfl
theorem zu0:E2.Fact.ok2 q2z (E2.qp Tryz.prog (E2.qba [])) 1000=true:=by kernel_rfl
theorem zu1:E2.Fact.ok2 qxh (E2.qp Tryz.prog (E2.qba [q2z])) 1000=true:=by kernel_rfl
theorem zu2:E2.Fact.ok2 q20 (E2.qp Tryz.prog (E2.qba [])) 1000=true:=by kernel_rfl
end Go.Proofs.YtbopmiclcimjgaaGreatDoor.notateAwake
namespace Go.Proofs.YtbopmiclcimjgaaGreatDoor.notateAwake
open Go
set_option maxRecDepth 100000
theorem zu3:E2.Fact.ok2 q21 (E2.qp Tryz.prog (E2.qba [])) 1000=true:=by kernel_rfl
theorem zu4:E2.Fact.ok2 q22 (E2.qp Tryz.prog (E2.qba [q21])) 1000=true:=by kernel_rfl
theorem zu5:E2.Fact.ok2 qxi (E2.qp Tryz.prog (E2.qba [q20,q22])) 1000=true:=by kernel_rfl
theorem zu6:E2.Fact.ok2 qxj (E2.qp Tryz.prog (E2.qba [])) 1000=true:=by kernel_rfl
end Go.Proofs.YtbopmiclcimjgaaGreatDoor.notateAwake
namespace Go.Proofs.YtbopmiclcimjgaaGreatDoor.notateAwake
open Go
set_option maxRecDepth 100000
theorem zu7:E2.Fact.ok2 qxk (E2.qp Tryz.prog (E2.qba [])) 1000=true:=by kernel_rfl
end Go.Proofs.YtbopmiclcimjgaaGreatDoor.notateAwake
