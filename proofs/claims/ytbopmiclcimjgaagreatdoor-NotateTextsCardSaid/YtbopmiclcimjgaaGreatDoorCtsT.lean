/- THE CONTRACTS of the functions on parts as texts. Made by program (vc.py). -/
import Derived.Test.YtbopmiclcimjgaaGreatDoorNtInv
import Derived.Test.YtbopmiclcimjgaaGreatDoorCts
namespace Go.Proofs.YtbopmiclcimjgaaGreatDoor
open Go Go.E2 Go.E3
set_option maxRecDepth 100000
variable {sp:Nat->Option (List V->Heap->Option (CR×Heap))}

def zdg:Ct KT:=([.one (.str)],fun ns=>match ns with
  | [.s a0]=>some ((ln a0<=9223372036854775806),.sb 0 false ((jb a0)) ((jb a0)=true) ((jb a0)=false))
  | _=>none)
def zdd:Ct KT:=([.agg [.str,.list 4 false false]],fun ns=>match ns with
  | [.s a0,.l 4 a1]=>some ((ln a0<=1000000000/\ln a1<=1000000000),.tuple [.int .i64 none (((qo a0 a1).1)),.int .i64 none (((qo a0 a1).2))])
  | _=>none)
def q69:Ct KT:=([.one (.str)],fun ns=>match ns with
  | [.s a0]=>some ((ln a0<=9223372036854775806),.sb 0 false ((jb a0)) ((jb a0)=true) ((jb a0)=false))
  | _=>none)
def zde:Ct KT:=([.agg [.str,.list 4 false false]],fun ns=>match ns with
  | [.s a0,.l 4 a1]=>some ((ln a0<=1000000000/\ln a1<=1000000000),.tuple [.int .i64 none (((qo a0 a1).1)),.int .i64 none (((qo a0 a1).2))])
  | _=>none)
def zdc:Ct KT:=([.one (.list 4 false false)],fun ns=>match ns with
  | [.l 4 a0]=>some ((ln a0<=10000000),.list 4 ((a0)) none)
  | _=>none)
def zc5:Ct KT:=([.agg [.str,.list 4 false false]],fun ns=>match ns with
  | [.s a0,.l 4 a1]=>some ((ln a1<=10000000),.agg [.str ((a0)),.list 4 ((a1)) none])
  | _=>none)
def zdf:Ct KT:=([.one (.list 4 false false),.one (.list 4 false false)],fun ns=>match ns with
  | [.l 4 a0,.l 4 a1]=>some ((ln a0<=10000000),.sb 0 false ((qhr a0 a1)) ((qhr a0 a1)=true) ((qhr a0 a1)=false))
  | _=>none)
def zc8:Ct KT:=([.agg [.str,.list 4 false false],.agg [.str,.list 4 false false]],fun ns=>match ns with
  | [.s a0,.l 4 a1,.s a2,.l 4 a3]=>some ((ln a1<=10000000),.sb 0 false ((z7 a0 a1 a2 a3)) ((z7 a0 a1 a2 a3)=true) ((z7 a0 a1 a2 a3)=false))
  | _=>none)
def zc6:Ct KT:=([.agg [.str,.list 4 false false]],fun ns=>match ns with
  | [.s a0,.l 4 a1]=>some ((ln a0<=1000/\ln a1<=1000),.tuple [.str (((qa7 a0 a1).1)),.int .i64 none (((qa7 a0 a1).2))])
  | _=>none)
def zc7:Ct KT:=([.agg [.str,.list 4 false false]],fun ns=>match ns with
  | [.s a0,.l 4 a1]=>some ((ln a0<=1000/\ln a1<=1000),.tuple [.str (((qa7 a0 a1).1)),.int .i64 none (((qa7 a0 a1).2))])
  | _=>none)
end Go.Proofs.YtbopmiclcimjgaaGreatDoor
