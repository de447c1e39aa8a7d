import Derived.Test.YtpbliaccnbgapaaGreatDoorRows
import Derived.Test.YtpbliaccnbgapaaGreatDoorEventKnownD
namespace Go.Proofs.YtpbliaccnbgapaaGreatDoor.eventKnown
open Go
set_option maxRecDepth 100000
theorem zsv:E2.Fact.ok2 qh6 (E2.qo Tryz.prog (E2.ja [])) 1000=true:=by kernel_rfl
theorem zsw:E2.Fact.ok2 q4n (E2.qo Tryz.prog (E2.ja [qh6])) 1000=true:=by kernel_rfl
theorem zsx:E2.Fact.ok2 q93 (E2.qo Tryz.prog (E2.ja [])) 1000=true:=by kernel_rfl
theorem zsy:E2.Fact.ok2 q94 (E2.qo Tryz.prog (E2.ja [])) 1000=true:=by kernel_rfl
theorem zsz:E2.Fact.ok2 qy9 (E2.qo Tryz.prog (E2.ja [q93,q94])) 1000=true:=by kernel_rfl
theorem zs0:E2.Fact.ok2 q4o (E2.qo Tryz.prog (E2.ja [qh6])) 1000=true:=by kernel_rfl
theorem zs1:E2.Fact.ok2 q95 (E2.qo Tryz.prog (E2.ja [q4o,qh6])) 1000=true:=by kernel_rfl
end Go.Proofs.YtpbliaccnbgapaaGreatDoor.eventKnown
namespace Go.Proofs.YtpbliaccnbgapaaGreatDoor.eventKnown
open Go
set_option maxRecDepth 100000
theorem zs2:E2.Fact.ok2 q4p (E2.qo Tryz.prog (E2.ja [qh6])) 1000=true:=by kernel_rfl
theorem zs3:E2.Fact.ok2 q4q (E2.qo Tryz.prog (E2.ja [q95,q4o,qh6,q4p])) 1000=true:=by kernel_rfl
theorem zs4:E2.Fact.ok2 qpf (E2.qo Tryz.prog (E2.ja [])) 1000=true:=by kernel_rfl
theorem zra:E2.Fact.ok2 q1e (E2.qo Tryz.prog (E2.ja [qh6])) 1000=true:=by kernel_rfl
theorem zrb:E2.Fact.ok2 qva (E2.qo Tryz.prog (E2.ja [q1e,qh6])) 1000=true:=by kernel_rfl
theorem zrc:E2.Fact.ok2 qnz (E2.qo Tryz.prog (E2.ja [])) 1000=true:=by kernel_rfl
theorem zrd:E2.Fact.ok2 q1f (E2.qo Tryz.prog (E2.ja [qnz])) 1000=true:=by kernel_rfl
end Go.Proofs.YtpbliaccnbgapaaGreatDoor.eventKnown
namespace Go.Proofs.YtpbliaccnbgapaaGreatDoor.eventKnown
open Go
set_option maxRecDepth 100000
theorem zre:E2.Fact.ok2 qvb (E2.qo Tryz.prog (E2.ja [qnz])) 1000=true:=by kernel_rfl
theorem zrf:E2.Fact.ok2 q1g (E2.qo Tryz.prog (E2.ja [qvb,qnz])) 1000=true:=by kernel_rfl
theorem zrg:E2.Fact.ok2 qvc (E2.qo Tryz.prog (E2.ja [qnz,q1f,qy9,q1g,qvb])) 1000=true:=by kernel_rfl
theorem zrh:E2.Fact.ok2 qvd (E2.qo Tryz.prog (E2.ja [qh6])) 1000=true:=by kernel_rfl
theorem zri:E2.Fact.ok2 q1h (E2.qo Tryz.prog (E2.ja [qvd,qh6])) 1000=true:=by kernel_rfl
theorem zrj:E2.Fact.ok2 qve (E2.qo Tryz.prog (E2.ja [q1h,qvd,qh6,q4p])) 1000=true:=by kernel_rfl
end Go.Proofs.YtpbliaccnbgapaaGreatDoor.eventKnown
