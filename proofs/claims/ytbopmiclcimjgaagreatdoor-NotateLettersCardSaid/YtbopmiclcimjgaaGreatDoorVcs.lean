/- CONTRACTS, CONDITIONS, as E3 computes them. Made by program (vc.py). -/
import Derived.Test.YtbopmiclcimjgaaGreatDoorNlSpec
import Derived.Test.YtbopmiclcimjgaaGreatDoorCfg
namespace Go.Proofs.YtbopmiclcimjgaaGreatDoor
open Go Go.E2 Go.E3
set_option maxRecDepth 100000
variable {mx:Int} {sp:Nat->Option (List V->Heap->Option (CR×Heap))}

def qpr:Ct KT:=([.one (.str),.one (.str)],fun ns=>match ns with
  | [.s a0,.s a1]=>some ((ln a0<=1000),.int .i64 none ((qo6 a0 a1)))
  | _=>none)
def q1v:Ct KT:=([.one (.int .i64)],fun ns=>match ns with
  | [.i a0]=>some ((I64 a0),.tuple [.str ((qit a0)),.int .i64 none ((letE a0))])
  | _=>none)
def q1w:Ct KT:=([.one (.int .i64)],fun ns=>match ns with
  | [.i a0]=>some ((I64 a0),.tuple [.str ((qit a0)),.int .i64 none ((letE a0))])
  | _=>none)
def q1x:Ct KT:=([.one (.str)],fun ns=>match ns with
  | [.s a0]=>some ((ln a0<=1000),.tuple [.int .i64 none ((qdj a0)),.int .i64 none ((qi3 a0))])
  | _=>none)
def q1y:Ct KT:=([.one (.str)],fun ns=>match ns with
  | [.s a0]=>some ((ln a0<=1000),.tuple [.int .i64 none ((qdj a0)),.int .i64 none ((qi3 a0))])
  | _=>none)
def ct9:Ct KT:=([],fun ns=>match ns with
  | []=>some (True,.sb 0 false ((true)) ((true)=true) ((true)=false))
  | _=>none)
abbrev qpm (a0:ZB) (a1:ZB):PV KT:=.int .i64 none ((qo6 a0 a1))
abbrev qw9  : PV KT:=.sb 0 false ((true)) ((true)=true) ((true)=false)
def qrz:List (Nat×Ct KT):=[]
abbrev qld (a0:Int):PV KT:=.tuple [.str ((qit a0)),.int .i64 none ((letE a0))]
abbrev qh9 (a0:Int):Prop:=
((a0<1->
(([]:ZB)=(qit a0))/\
((2:Int)=(letE a0))/\
 True))/\
(1<=a0->
((8<a0->
(([]:ZB)=(qit a0))/\
((2:Int)=(letE a0))/\
  True))/\
(a0<=8->
(I64 (a0-1))/\
((0:Int)<=(a0-1)/\((a0-1):Int)<=a0/\a0<=ln ([88,76,66,83,77,81,70,90]:ZB))/\
((sub ([88,76,66,83,77,81,70,90]:ZB) (a0-1) a0)=(qit a0))/\
((0:Int)=(letE a0))/\
  True))
theorem qt6 (a0:Int):qme (qj XK (qfj qrz) (fun _ _=>False) (fun _ _=>0)) {cfg mx sp with ann:=qlf []} 3 26 [.int .i64 none (a0)] (qld a0)=qh9 a0:=by kernel_rfl
def qr0:List (Nat×Ct KT):=[]
abbrev qle (a0:Int):PV KT:=.tuple [.str ((qit a0)),.int .i64 none ((letE a0))]
abbrev qmt (a0:Int):Prop:=
((a0<1->
(([]:ZB)=(qit a0))/\
((2:Int)=(letE a0))/\
 True))/\
(1<=a0->
((8<a0->
(([]:ZB)=(qit a0))/\
((2:Int)=(letE a0))/\
  True))/\
(a0<=8->
(I64 (a0-1))/\
((0:Int)<=(a0-1)/\((a0-1):Int)<=a0/\a0<=ln ([88,76,66,83,77,81,70,90]:ZB))/\
((sub ([88,76,66,83,77,81,70,90]:ZB) (a0-1) a0)=(qit a0))/\
((0:Int)=(letE a0))/\
  True))
theorem qt9 (a0:Int):qme (qj XK (qfj qr0) (fun _ _=>False) (fun _ _=>0)) {cfg mx sp with ann:=qlf []} 3 27 [.int .i64 none (a0)] (qle a0)=qmt a0:=by kernel_rfl
def qua:List (Nat×Ct KT):=[(110,qpr)]
abbrev qmw (a0:ZB):PV KT:=.tuple [.int .i64 none ((qdj a0)),.int .i64 none ((qi3 a0))]
abbrev qkg (a0:ZB):Prop:=
((ln ([88,76,66,83,77,81,70,90]:ZB)<=1000))/\
(((ln a0)=1->
((0<=(qo6 ([88,76,66,83,77,81,70,90]:ZB) a0)->
(I64 ((qo6 ([88,76,66,83,77,81,70,90]:ZB) a0)+1))/\
((((qo6 ([88,76,66,83,77,81,70,90]:ZB) a0)+1):Int)=(qdj a0))/\
((0:Int)=(qi3 a0))/\
  True))/\
((qo6 ([88,76,66,83,77,81,70,90]:ZB) a0)<0->
((0:Int)=(qdj a0))/\
((3:Int)=(qi3 a0))/\
  True)))/\
((ln a0)≠1->
((0:Int)=(qdj a0))/\
((3:Int)=(qi3 a0))/\
 True)
theorem qwl (a0:ZB):qme (qj XK (qfj qua) (fun _ _=>False) (fun _ _=>0)) {cfg mx sp with ann:=qlf []} 3 28 [.str (a0)] (qmw a0)=qkg a0:=by kernel_rfl
def qub:List (Nat×Ct KT):=[]
abbrev qmx (a0:ZB):PV KT:=.tuple [.int .i64 none ((qdj a0)),.int .i64 none ((qi3 a0))]
abbrev qkh (a0:ZB):Prop:=
(qdr a0 0)/\
(∀ x0:Int,
(qdr a0 x0->
((x0<8->
(I64 (x0+1))/\
((0:Int)<=x0/\(x0:Int)<=(x0+1)/\(x0+1)<=ln ([88,76,66,83,77,81,70,90]:ZB))/\
((a0=(sub ([88,76,66,83,77,81,70,90]:ZB) x0 (x0+1))->
(I64 (x0+1))/\
(((x0+1):Int)=(qdj a0))/\
((0:Int)=(qi3 a0))/\
    True))/\
(a0≠(sub ([88,76,66,83,77,81,70,90]:ZB) x0 (x0+1))->
(I64 (x0+1))/\
(qdr a0 (x0+1))/\
 qc6 a0 (x0+1)<qc6 a0 x0)))/\
(8<=x0->
((0:Int)=(qdj a0))/\
((3:Int)=(qi3 a0))/\
   True)))
theorem qwo (a0:ZB):qme (qj XK (qfj qub) (fun j ns=>match j,ns with | 0,[.i y0]=>qdr a0 y0 | _,_=>False) (fun j ns=>match j,ns with | 0,[.i y0]=>qc6 a0 y0 | _,_=>0)) {cfg mx sp with ann:=qlf [(29,26,.inv 0 [.one 4 (.int .i64)] [])]} 3 29 [.str (a0)] (qmx a0)=qkh a0:=by kernel_rfl
def qn6:List (Nat×Ct KT):=[(9,ct9),(26,q1v),(27,q1w),(28,q1x),(29,q1y)]
abbrev qgz (a0:Int) (a1:ZB):PV KT:=.sb 0 false ((true)) ((true)=true) ((true)=false)
abbrev qe8 (a0:Int) (a1:ZB):Prop:=
((300<(ln a1)->
(True)/\
((true)=(true))/\
 True))/\
((ln a1)<=300->
((I64 a0))/\
((I64 a0))/\
((ln a1<=1000))/\
((ln a1<=1000))/\
(((qit a0)=(qit a0)->
(((letE a0)=(letE a0)->
(((qdj a1)=(qdj a1)->
(((qi3 a1)=(qi3 a1)->
(True)/\
((true)=(true))/\
     True))/\
((qi3 a1)≠(qi3 a1)->
(false=(true))/\
     True)))/\
((qdj a1)≠(qdj a1)->
(false=(true))/\
    True)))/\
((letE a0)≠(letE a0)->
(false=(true))/\
   True)))/\
((qit a0)≠(qit a0)->
(false=(true))/\
  True))
theorem qo9 (a0:Int) (a1:ZB):qme (qj XK (qfj qn6) (fun _ _=>False) (fun _ _=>0)) {cfg mx sp with ann:=qlf []} 3 8 [.int .i64 none (a0),.str (a1)] (qgz a0 a1)=qe8 a0 a1:=by kernel_rfl
end Go.Proofs.YtbopmiclcimjgaaGreatDoor
