import Derived.Test.YtpbliaccnbgapaaGreatDoorRows
import Derived.Test.YtpbliaccnbgapaaGreatDoorEventKnownD
namespace Go.Proofs.YtpbliaccnbgapaaGreatDoor.eventKnown
open Go
set_option maxRecDepth 100000
theorem zrk:E2.Fact.ok2 qvf (E2.qo Tryz.prog (E2.ja [qpf])) 1000=true:=by kernel_rfl
theorem zrl:E2.Fact.ok2 qvg (E2.qo Tryz.prog (E2.ja [qpf])) 1000=true:=by kernel_rfl
theorem zrm:E2.Fact.ok2 qlk (E2.qo Tryz.prog (E2.ja [])) 1000=true:=by kernel_rfl
theorem zrn:E2.Fact.ok2 q1i (E2.qo Tryz.prog (E2.ja [qlk])) 1000=true:=by kernel_rfl
theorem zro:E2.Fact.ok2 q1j (E2.qo Tryz.prog (E2.ja [])) 1000=true:=by kernel_rfl
theorem zrp:E2.Fact.ok2 q1k (E2.qo Tryz.prog (E2.ja [q1j])) 1000=true:=by kernel_rfl
theorem zrq:E2.Fact.ok2 qvh (E2.qo Tryz.prog (E2.ja [qlk])) 1000=true:=by kernel_rfl
theorem zrr:E2.Fact.ok2 qvi (E2.qo Tryz.prog (E2.ja [qlk])) 1000=true:=by kernel_rfl
end Go.Proofs.YtpbliaccnbgapaaGreatDoor.eventKnown
namespace Go.Proofs.YtpbliaccnbgapaaGreatDoor.eventKnown
open Go
set_option maxRecDepth 100000
theorem zrs:E2.Fact.ok2 q1l (E2.qo Tryz.prog (E2.ja [qvh,qvi])) 1000=true:=by kernel_rfl
theorem zrt:E2.Fact.ok2 q1m (E2.qo Tryz.prog (E2.ja [q1l,qvh,qlk,qvi])) 1000=true:=by kernel_rfl
theorem zru:E2.Fact.ok2 qvj (E2.qo Tryz.prog (E2.ja [qlk,q1i,q1k,q1m])) 1000=true:=by kernel_rfl
theorem zrv:E2.Fact.ok2 qll (E2.qo Tryz.prog (E2.ja [])) 1000=true:=by kernel_rfl
theorem zrw:E2.Fact.ok2 q1n (E2.qo Tryz.prog (E2.ja [qll])) 1000=true:=by kernel_rfl
theorem zrx:E2.Fact.ok2 q1o (E2.qo Tryz.prog (E2.ja [])) 1000=true:=by kernel_rfl
theorem zry:E2.Fact.ok2 q1p (E2.qo Tryz.prog (E2.ja [])) 1000=true:=by kernel_rfl
end Go.Proofs.YtpbliaccnbgapaaGreatDoor.eventKnown
namespace Go.Proofs.YtpbliaccnbgapaaGreatDoor.eventKnown
open Go
set_option maxRecDepth 100000
theorem zrz:E2.Fact.ok2 qvk (E2.qo Tryz.prog (E2.ja [qll,q1n,q1o,q1p])) 1000=true:=by kernel_rfl
theorem zr0:E2.Fact.ok2 qvl (E2.qo Tryz.prog (E2.ja [qll])) 1000=true:=by kernel_rfl
theorem zr1:E2.Fact.ok2 qvm (E2.qo Tryz.prog (E2.ja [qll])) 1000=true:=by kernel_rfl
theorem zr2:E2.Fact.ok2 q1q (E2.qo Tryz.prog (E2.ja [qvl,qvm])) 1000=true:=by kernel_rfl
theorem zr3:E2.Fact.ok2 qvn (E2.qo Tryz.prog (E2.ja [q1q,qvl,qll,qvm])) 1000=true:=by kernel_rfl
theorem zr4:E2.Fact.ok2 qvo (E2.qo Tryz.prog (E2.ja [])) 1000=true:=by kernel_rfl
end Go.Proofs.YtpbliaccnbgapaaGreatDoor.eventKnown
namespace Go.Proofs.YtpbliaccnbgapaaGreatDoor.eventKnown
open Go
set_option maxRecDepth 100000
theorem zr5:E2.Fact.ok2 qvp (E2.qo Tryz.prog (E2.ja [qpf])) 1000=true:=by kernel_rfl
theorem zr6:E2.Fact.ok2 qvq (E2.qo Tryz.prog (E2.ja [qpf])) 1000=true:=by kernel_rfl
theorem zr7:E2.Fact.ok2 qvr (E2.qo Tryz.prog (E2.ja [])) 1000=true:=by kernel_rfl
theorem zr8:E2.Fact.ok2 qvs (E2.qo Tryz.prog (E2.ja [])) 1000=true:=by kernel_rfl
end Go.Proofs.YtpbliaccnbgapaaGreatDoor.eventKnown
