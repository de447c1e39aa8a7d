/- CONDITIONS, as E3 computes them. Made by program (vc.py). -/
import Derived.Test.YtbopmiclcimjgaaGreatDoorCts
namespace Go.Proofs.YtbopmiclcimjgaaGreatDoor
open Go Go.E2 Go.E3
set_option maxRecDepth 100000
variable {sp:Nat->Option (List V->Heap->Option (CR×Heap))}

def qz0:List (Nat×Ct KT):=[]
abbrev qqc (a0:Int) (a1:Int) (a2:Int) (a3:Int):PV KT:=.int .i64 none ((jf a0 a1 a2 a3))
abbrev qds (v0:Int) (v1:Int) (v2:Int) (v3:Int) (p:Prop):Prop:=
((v0:Int)=v0)/\
((v1:Int)=v1)/\
((v2:Int)=v2)/\
((v3:Int)=v3)/\
 p
abbrev qm7 (a0:Int) (a1:Int) (a2:Int) (a3:Int):Prop:=
(kx a0 a1 a2 a3 0)/\
(∀ x0:Int,
(kx a0 a1 a2 a3 x0->
((x0<4->
(Wn x0 4)/\
(((x0:Int)=0->
((a0≠2->
((a0≠3->
((12:Int)=(jf a0 a1 a2 a3))/\
 True))/\
(a0=3->
(I64 (x0+1))/\
(qds a0 a1 a2 a3 (
(kx a0 a1 a2 a3 (x0+1))/\
 zf a0 a1 a2 a3 (x0+1)<zf a0 a1 a2 a3 x0)))))/\
(a0=2->
(I64 (x0+1))/\
(qds a0 a1 a2 a3 (
(kx a0 a1 a2 a3 (x0+1))/\
 zf a0 a1 a2 a3 (x0+1)<zf a0 a1 a2 a3 x0)))))/\
(((x0:Int)=1->
((a1≠2->
((a1≠3->
((12:Int)=(jf a0 a1 a2 a3))/\
 True))/\
(a1=3->
(I64 (x0+1))/\
(qds a0 a1 a2 a3 (
(kx a0 a1 a2 a3 (x0+1))/\
 zf a0 a1 a2 a3 (x0+1)<zf a0 a1 a2 a3 x0)))))/\
(a1=2->
(I64 (x0+1))/\
(qds a0 a1 a2 a3 (
(kx a0 a1 a2 a3 (x0+1))/\
 zf a0 a1 a2 a3 (x0+1)<zf a0 a1 a2 a3 x0)))))/\
(((x0:Int)=2->
((a2≠2->
((a2≠3->
((12:Int)=(jf a0 a1 a2 a3))/\
 True))/\
(a2=3->
(I64 (x0+1))/\
(qds a0 a1 a2 a3 (
(kx a0 a1 a2 a3 (x0+1))/\
 zf a0 a1 a2 a3 (x0+1)<zf a0 a1 a2 a3 x0)))))/\
(a2=2->
(I64 (x0+1))/\
(qds a0 a1 a2 a3 (
(kx a0 a1 a2 a3 (x0+1))/\
 zf a0 a1 a2 a3 (x0+1)<zf a0 a1 a2 a3 x0)))))/\
(((x0:Int)=3->
((a3≠2->
((a3≠3->
((12:Int)=(jf a0 a1 a2 a3))/\
 True))/\
(a3=3->
(I64 (x0+1))/\
(qds a0 a1 a2 a3 (
(kx a0 a1 a2 a3 (x0+1))/\
 zf a0 a1 a2 a3 (x0+1)<zf a0 a1 a2 a3 x0)))))/\
(a3=2->
(I64 (x0+1))/\
(qds a0 a1 a2 a3 (
(kx a0 a1 a2 a3 (x0+1))/\
 zf a0 a1 a2 a3 (x0+1)<zf a0 a1 a2 a3 x0)))))/\
 True))/\
(4<=x0->
((0:Int)=(jf a0 a1 a2 a3))/\
 True)))
theorem q35 (a0:Int) (a1:Int) (a2:Int) (a3:Int):j9 (qk XK (ji qz0) (fun j ns=>match j,ns with | 0,[.i y0]=>kx a0 a1 a2 a3 y0 | _,_=>False) (fun j ns=>match j,ns with | 0,[.i y0]=>zf a0 a1 a2 a3 y0 | _,_=>0)) {cfg sp with ann:=j7 [(59,26,.inv 0 [.one 7 (.int .i64)] [])]} 3 59 [.agg [.int .i64 none (a0),.int .i64 none (a1),.int .i64 none (a2),.int .i64 none (a3)]] (qqc a0 a1 a2 a3)=qm7 a0 a1 a2 a3:=by kernel_rfl
def qsy:List (Nat×Ct KT):=[]
abbrev qj3 (a0:List UInt8) (a1:List UInt8):PV KT:=.sb 0 false ((preB a0 a1)) ((preB a0 a1)=true) ((preB a0 a1)=false)
abbrev qhv (a0:List UInt8) (a1:List UInt8):Prop:=
(((ln a1)<=(ln a0)->
((0:Int)<=(ln a1)/\(ln a1)<=ln a0)/\
((decide ((upto a0 (ln a1))=a1))=(preB a0 a1))/\
 True))/\
((ln a0)<(ln a1)->
(false=(preB a0 a1))/\
 True)
theorem qve (a0:List UInt8) (a1:List UInt8):j9 (qk XK (ji qsy) (fun _ _=>False) (fun _ _=>0)) {cfg sp with ann:=j7 []} 3 94 [.str (a0),.str (a1)] (qj3 a0 a1)=qhv a0 a1:=by kernel_rfl
def q18:List (Nat×Ct KT):=[]
abbrev qsn (a0:Int) (a1:Int) (a2:Int) (a3:Int):PV KT:=.str ((qj a0 a1 a2 a3))
abbrev qn9 (a0:Int) (a1:Int) (a2:Int) (a3:Int):Prop:=
(True)/\
(True)/\
((a0=3->
(True)/\
(True)/\
(qn (List.length (z8 (za (za ([]:List MapIS) (MapIS.mk 2 ([50]:List UInt8))) (MapIS.mk 3 ([51]:List UInt8))) (MapIS.mk a0 ([]:List UInt8))).v+List.length (z8 (za (za ([]:List MapIS) (MapIS.mk 2 ([50]:List UInt8))) (MapIS.mk 3 ([51]:List UInt8))) (MapIS.mk a1 ([]:List UInt8))).v))/\
(True)/\
(True)/\
(True)/\
(qn (List.length ((z8 (za (za ([]:List MapIS) (MapIS.mk 2 ([50]:List UInt8))) (MapIS.mk 3 ([51]:List UInt8))) (MapIS.mk a0 ([]:List UInt8))).v++(z8 (za (za ([]:List MapIS) (MapIS.mk 2 ([50]:List UInt8))) (MapIS.mk 3 ([51]:List UInt8))) (MapIS.mk a1 ([]:List UInt8))).v)+List.length (z8 (za (za ([]:List MapIS) (MapIS.mk 2 ([67]:List UInt8))) (MapIS.mk 3 ([79]:List UInt8))) (MapIS.mk a2 ([]:List UInt8))).v))/\
(True)/\
(True)/\
(qn (List.length (((z8 (za (za ([]:List MapIS) (MapIS.mk 2 ([50]:List UInt8))) (MapIS.mk 3 ([51]:List UInt8))) (MapIS.mk a0 ([]:List UInt8))).v++(z8 (za (za ([]:List MapIS) (MapIS.mk 2 ([50]:List UInt8))) (MapIS.mk 3 ([51]:List UInt8))) (MapIS.mk a1 ([]:List UInt8))).v)++(z8 (za (za ([]:List MapIS) (MapIS.mk 2 ([67]:List UInt8))) (MapIS.mk 3 ([79]:List UInt8))) (MapIS.mk a2 ([]:List UInt8))).v)+List.length (z8 (za ([]:List MapIS) (MapIS.mk 3 ([46]:List UInt8))) (MapIS.mk a3 ([]:List UInt8))).v))/\
(((((z8 (za (za ([]:List MapIS) (MapIS.mk 2 ([50]:List UInt8))) (MapIS.mk 3 ([51]:List UInt8))) (MapIS.mk a0 ([]:List UInt8))).v++(z8 (za (za ([]:List MapIS) (MapIS.mk 2 ([50]:List UInt8))) (MapIS.mk 3 ([51]:List UInt8))) (MapIS.mk a1 ([]:List UInt8))).v)++(z8 (za (za ([]:List MapIS) (MapIS.mk 2 ([67]:List UInt8))) (MapIS.mk 3 ([79]:List UInt8))) (MapIS.mk a2 ([]:List UInt8))).v)++(z8 (za ([]:List MapIS) (MapIS.mk 3 ([46]:List UInt8))) (MapIS.mk a3 ([]:List UInt8))).v)=(qj a0 a1 a2 a3))/\
 True))/\
(a0≠3->
((a1=3->
(True)/\
(True)/\
(qn (List.length (z8 (za (za ([]:List MapIS) (MapIS.mk 2 ([50]:List UInt8))) (MapIS.mk 3 ([51]:List UInt8))) (MapIS.mk a0 ([]:List UInt8))).v+List.length (z8 (za (za ([]:List MapIS) (MapIS.mk 2 ([50]:List UInt8))) (MapIS.mk 3 ([51]:List UInt8))) (MapIS.mk a1 ([]:List UInt8))).v))/\
(True)/\
(True)/\
(True)/\
(qn (List.length ((z8 (za (za ([]:List MapIS) (MapIS.mk 2 ([50]:List UInt8))) (MapIS.mk 3 ([51]:List UInt8))) (MapIS.mk a0 ([]:List UInt8))).v++(z8 (za (za ([]:List MapIS) (MapIS.mk 2 ([50]:List UInt8))) (MapIS.mk 3 ([51]:List UInt8))) (MapIS.mk a1 ([]:List UInt8))).v)+List.length (z8 (za (za ([]:List MapIS) (MapIS.mk 2 ([67]:List UInt8))) (MapIS.mk 3 ([79]:List UInt8))) (MapIS.mk a2 ([]:List UInt8))).v))/\
(True)/\
(True)/\
(qn (List.length (((z8 (za (za ([]:List MapIS) (MapIS.mk 2 ([50]:List UInt8))) (MapIS.mk 3 ([51]:List UInt8))) (MapIS.mk a0 ([]:List UInt8))).v++(z8 (za (za ([]:List MapIS) (MapIS.mk 2 ([50]:List UInt8))) (MapIS.mk 3 ([51]:List UInt8))) (MapIS.mk a1 ([]:List UInt8))).v)++(z8 (za (za ([]:List MapIS) (MapIS.mk 2 ([67]:List UInt8))) (MapIS.mk 3 ([79]:List UInt8))) (MapIS.mk a2 ([]:List UInt8))).v)+List.length (z8 (za ([]:List MapIS) (MapIS.mk 3 ([46]:List UInt8))) (MapIS.mk a3 ([]:List UInt8))).v))/\
(((((z8 (za (za ([]:List MapIS) (MapIS.mk 2 ([50]:List UInt8))) (MapIS.mk 3 ([51]:List UInt8))) (MapIS.mk a0 ([]:List UInt8))).v++(z8 (za (za ([]:List MapIS) (MapIS.mk 2 ([50]:List UInt8))) (MapIS.mk 3 ([51]:List UInt8))) (MapIS.mk a1 ([]:List UInt8))).v)++(z8 (za (za ([]:List MapIS) (MapIS.mk 2 ([67]:List UInt8))) (MapIS.mk 3 ([79]:List UInt8))) (MapIS.mk a2 ([]:List UInt8))).v)++(z8 (za ([]:List MapIS) (MapIS.mk 3 ([46]:List UInt8))) (MapIS.mk a3 ([]:List UInt8))).v)=(qj a0 a1 a2 a3))/\
 True))/\
(a1≠3->
(True)/\
(True)/\
(True)/\
(qn (List.length ([]:List UInt8)+List.length (z8 (za (za ([]:List MapIS) (MapIS.mk 2 ([67]:List UInt8))) (MapIS.mk 3 ([79]:List UInt8))) (MapIS.mk a2 ([]:List UInt8))).v))/\
(True)/\
(True)/\
(qn (List.length (([]:List UInt8)++(z8 (za (za ([]:List MapIS) (MapIS.mk 2 ([67]:List UInt8))) (MapIS.mk 3 ([79]:List UInt8))) (MapIS.mk a2 ([]:List UInt8))).v)+List.length (z8 (za ([]:List MapIS) (MapIS.mk 3 ([46]:List UInt8))) (MapIS.mk a3 ([]:List UInt8))).v))/\
(((([]:List UInt8)++(z8 (za (za ([]:List MapIS) (MapIS.mk 2 ([67]:List UInt8))) (MapIS.mk 3 ([79]:List UInt8))) (MapIS.mk a2 ([]:List UInt8))).v)++(z8 (za ([]:List MapIS) (MapIS.mk 3 ([46]:List UInt8))) (MapIS.mk a3 ([]:List UInt8))).v)=(qj a0 a1 a2 a3))/\
 True))
theorem q57 (a0:Int) (a1:Int) (a2:Int) (a3:Int):j9 (qk XK (ji q18) (fun _ _=>False) (fun _ _=>0)) {cfg sp with ann:=j7 []} 3 114 [.agg [.int .i64 none (a0),.int .i64 none (a1),.int .i64 none (a2),.int .i64 none (a3)]] (qsn a0 a1 a2 a3)=qn9 a0 a1 a2 a3:=by kernel_rfl
def q0q:List (Nat×Ct KT):=[(59,zaz),(114,q2p)]
abbrev qqk (a0:Int) (a1:Int) (a2:Int) (a3:Int):PV KT:=.tuple [.str (((zs a0 a1 a2 a3).1)),.int .i64 none (((zs a0 a1 a2 a3).2))]
abbrev qnb (a0:Int) (a1:Int) (a2:Int) (a3:Int):Prop:=
(True)/\
(((jf a0 a1 a2 a3)≠0->
(([]:List UInt8)=((zs a0 a1 a2 a3).1))/\
(((jf a0 a1 a2 a3):Int)=((zs a0 a1 a2 a3).2))/\
 True))/\
((jf a0 a1 a2 a3)=0->
(True)/\
((qj a0 a1 a2 a3)=((zs a0 a1 a2 a3).1))/\
((0:Int)=((zs a0 a1 a2 a3).2))/\
 True)
theorem q4d (a0:Int) (a1:Int) (a2:Int) (a3:Int):j9 (qk XK (ji q0q) (fun _ _=>False) (fun _ _=>0)) {cfg sp with ann:=j7 []} 3 74 [.agg [.int .i64 none (a0),.int .i64 none (a1),.int .i64 none (a2),.int .i64 none (a3)]] (qqk a0 a1 a2 a3)=qnb a0 a1 a2 a3:=by kernel_rfl
def qom (a0:List UInt8) (r0:Int) (r1:Int) (r2:Int) (r3:Int) (r4:Int):Prop:=
((r0:Int)=((qj1 a0).1.1))/\
((r1:Int)=((qj1 a0).1.2.1))/\
((r2:Int)=((qj1 a0).1.2.2.1))/\
((r3:Int)=((qj1 a0).1.2.2.2))/\
((r4:Int)=((qj1 a0).2))/\
 True

def qw9:List (Nat×Ct KT):=[(114,q2p)]
abbrev qon (a0:List UInt8):PV KT:=.tuple [.agg [.int .i64 none (((qj1 a0).1.1)),.int .i64 none (((qj1 a0).1.2.1)),.int .i64 none (((qj1 a0).1.2.2.1)),.int .i64 none (((qj1 a0).1.2.2.2))],.int .i64 none (((qj1 a0).2))]
abbrev qkp (a0:List UInt8):Prop:=
(True)/\
(True)/\
(True)/\
(True)/\
(True)/\
(True)/\
(True)/\
(True)/\
(True)/\
(True)/\
(True)/\
(True)/\
(True)/\
(True)/\
(True)/\
(True)/\
(True)/\
(True)/\
(True)/\
(True)/\
(True)/\
(True)/\
(True)/\
(True)/\
(True)/\
(True)/\
(True)/\
(True)/\
(True)/\
(True)/\
(True)/\
(True)/\
(True)/\
(((qrs (qd (qd (qd (qd (qd (qd (qd (qd (qd (qd (qd (qd (qd (qd (qd (qd ([]:List MapSM) (MapSM.mk (qj 2 2 2 2) 2 2 2 2)) (MapSM.mk (qj 2 2 2 3) 2 2 2 3)) (MapSM.mk (qj 2 2 3 2) 2 2 3 2)) (MapSM.mk (qj 2 2 3 3) 2 2 3 3)) (MapSM.mk (qj 2 3 2 2) 2 3 2 2)) (MapSM.mk (qj 2 3 2 3) 2 3 2 3)) (MapSM.mk (qj 2 3 3 2) 2 3 3 2)) (MapSM.mk (qj 2 3 3 3) 2 3 3 3)) (MapSM.mk (qj 3 2 2 2) 3 2 2 2)) (MapSM.mk (qj 3 2 2 3) 3 2 2 3)) (MapSM.mk (qj 3 2 3 2) 3 2 3 2)) (MapSM.mk (qj 3 2 3 3) 3 2 3 3)) (MapSM.mk (qj 3 3 2 2) 3 3 2 2)) (MapSM.mk (qj 3 3 2 3) 3 3 2 3)) (MapSM.mk (qj 3 3 3 2) 3 3 3 2)) (MapSM.mk (qj 3 3 3 3) 3 3 3 3)) (MapSM.mk a0 0 0 0 0))=false->
 qom a0 0 0 0 0 3))/\
((qrs (qd (qd (qd (qd (qd (qd (qd (qd (qd (qd (qd (qd (qd (qd (qd (qd ([]:List MapSM) (MapSM.mk (qj 2 2 2 2) 2 2 2 2)) (MapSM.mk (qj 2 2 2 3) 2 2 2 3)) (MapSM.mk (qj 2 2 3 2) 2 2 3 2)) (MapSM.mk (qj 2 2 3 3) 2 2 3 3)) (MapSM.mk (qj 2 3 2 2) 2 3 2 2)) (MapSM.mk (qj 2 3 2 3) 2 3 2 3)) (MapSM.mk (qj 2 3 3 2) 2 3 3 2)) (MapSM.mk (qj 2 3 3 3) 2 3 3 3)) (MapSM.mk (qj 3 2 2 2) 3 2 2 2)) (MapSM.mk (qj 3 2 2 3) 3 2 2 3)) (MapSM.mk (qj 3 2 3 2) 3 2 3 2)) (MapSM.mk (qj 3 2 3 3) 3 2 3 3)) (MapSM.mk (qj 3 3 2 2) 3 3 2 2)) (MapSM.mk (qj 3 3 2 3) 3 3 2 3)) (MapSM.mk (qj 3 3 3 2) 3 3 3 2)) (MapSM.mk (qj 3 3 3 3) 3 3 3 3)) (MapSM.mk a0 0 0 0 0))=true->
 qom a0 ((qhd (qd (qd (qd (qd (qd (qd (qd (qd (qd (qd (qd (qd (qd (qd (qd (qd ([]:List MapSM) (MapSM.mk (qj 2 2 2 2) 2 2 2 2)) (MapSM.mk (qj 2 2 2 3) 2 2 2 3)) (MapSM.mk (qj 2 2 3 2) 2 2 3 2)) (MapSM.mk (qj 2 2 3 3) 2 2 3 3)) (MapSM.mk (qj 2 3 2 2) 2 3 2 2)) (MapSM.mk (qj 2 3 2 3) 2 3 2 3)) (MapSM.mk (qj 2 3 3 2) 2 3 3 2)) (MapSM.mk (qj 2 3 3 3) 2 3 3 3)) (MapSM.mk (qj 3 2 2 2) 3 2 2 2)) (MapSM.mk (qj 3 2 2 3) 3 2 2 3)) (MapSM.mk (qj 3 2 3 2) 3 2 3 2)) (MapSM.mk (qj 3 2 3 3) 3 2 3 3)) (MapSM.mk (qj 3 3 2 2) 3 3 2 2)) (MapSM.mk (qj 3 3 2 3) 3 3 2 3)) (MapSM.mk (qj 3 3 3 2) 3 3 3 2)) (MapSM.mk (qj 3 3 3 3) 3 3 3 3)) (MapSM.mk a0 0 0 0 0)).vMax) ((qhd (qd (qd (qd (qd (qd (qd (qd (qd (qd (qd (qd (qd (qd (qd (qd (qd ([]:List MapSM) (MapSM.mk (qj 2 2 2 2) 2 2 2 2)) (MapSM.mk (qj 2 2 2 3) 2 2 2 3)) (MapSM.mk (qj 2 2 3 2) 2 2 3 2)) (MapSM.mk (qj 2 2 3 3) 2 2 3 3)) (MapSM.mk (qj 2 3 2 2) 2 3 2 2)) (MapSM.mk (qj 2 3 2 3) 2 3 2 3)) (MapSM.mk (qj 2 3 3 2) 2 3 3 2)) (MapSM.mk (qj 2 3 3 3) 2 3 3 3)) (MapSM.mk (qj 3 2 2 2) 3 2 2 2)) (MapSM.mk (qj 3 2 2 3) 3 2 2 3)) (MapSM.mk (qj 3 2 3 2) 3 2 3 2)) (MapSM.mk (qj 3 2 3 3) 3 2 3 3)) (MapSM.mk (qj 3 3 2 2) 3 3 2 2)) (MapSM.mk (qj 3 3 2 3) 3 3 2 3)) (MapSM.mk (qj 3 3 3 2) 3 3 3 2)) (MapSM.mk (qj 3 3 3 3) 3 3 3 3)) (MapSM.mk a0 0 0 0 0)).vMod) ((qhd (qd (qd (qd (qd (qd (qd (qd (qd (qd (qd (qd (qd (qd (qd (qd (qd ([]:List MapSM) (MapSM.mk (qj 2 2 2 2) 2 2 2 2)) (MapSM.mk (qj 2 2 2 3) 2 2 2 3)) (MapSM.mk (qj 2 2 3 2) 2 2 3 2)) (MapSM.mk (qj 2 2 3 3) 2 2 3 3)) (MapSM.mk (qj 2 3 2 2) 2 3 2 2)) (MapSM.mk (qj 2 3 2 3) 2 3 2 3)) (MapSM.mk (qj 2 3 3 2) 2 3 3 2)) (MapSM.mk (qj 2 3 3 3) 2 3 3 3)) (MapSM.mk (qj 3 2 2 2) 3 2 2 2)) (MapSM.mk (qj 3 2 2 3) 3 2 2 3)) (MapSM.mk (qj 3 2 3 2) 3 2 3 2)) (MapSM.mk (qj 3 2 3 3) 3 2 3 3)) (MapSM.mk (qj 3 3 2 2) 3 3 2 2)) (MapSM.mk (qj 3 3 2 3) 3 3 2 3)) (MapSM.mk (qj 3 3 3 2) 3 3 3 2)) (MapSM.mk (qj 3 3 3 3) 3 3 3 3)) (MapSM.mk a0 0 0 0 0)).vTem) ((qhd (qd (qd (qd (qd (qd (qd (qd (qd (qd (qd (qd (qd (qd (qd (qd (qd ([]:List MapSM) (MapSM.mk (qj 2 2 2 2) 2 2 2 2)) (MapSM.mk (qj 2 2 2 3) 2 2 2 3)) (MapSM.mk (qj 2 2 3 2) 2 2 3 2)) (MapSM.mk (qj 2 2 3 3) 2 2 3 3)) (MapSM.mk (qj 2 3 2 2) 2 3 2 2)) (MapSM.mk (qj 2 3 2 3) 2 3 2 3)) (MapSM.mk (qj 2 3 3 2) 2 3 3 2)) (MapSM.mk (qj 2 3 3 3) 2 3 3 3)) (MapSM.mk (qj 3 2 2 2) 3 2 2 2)) (MapSM.mk (qj 3 2 2 3) 3 2 2 3)) (MapSM.mk (qj 3 2 3 2) 3 2 3 2)) (MapSM.mk (qj 3 2 3 3) 3 2 3 3)) (MapSM.mk (qj 3 3 2 2) 3 3 2 2)) (MapSM.mk (qj 3 3 2 3) 3 3 2 3)) (MapSM.mk (qj 3 3 3 2) 3 3 3 2)) (MapSM.mk (qj 3 3 3 3) 3 3 3 3)) (MapSM.mk a0 0 0 0 0)).vPro) 0)
theorem q0k (a0:List UInt8):j9 (qk XK (ji qw9) (fun _ _=>False) (fun _ _=>0)) {cfg sp with ann:=j7 [(78,58,.unroll 17)]} 6 78 [.str (a0)] (qon a0)=qkp a0:=by kernel_rfl
def qw2:List (Nat×Ct KT):=[]
abbrev qoj (a0:List UInt8):PV KT:=.tuple [.int .i64 none (((kh a0).1)),.sb 0 false (((kh a0).2)) (((kh a0).2)=true) (((kh a0).2)=false)]
abbrev qko (a0:List UInt8):Prop:=
((a0=([]:List UInt8)->
((0:Int)=((kh a0).1))/\
(false=((kh a0).2))/\
 True))/\
(a0≠([]:List UInt8)->
(Wn 0 (ln a0))/\
(((bx a0 0)=48->
((1<(ln a0)->
((0:Int)=((kh a0).1))/\
(false=((kh a0).2))/\
 True))/\
((ln a0)<=1->
(qai a0 0 0)/\
(∀ x3:Int,
(∀ x4:Int,
(qai a0 x3 x4->
((x4<(ln a0)->
(Wn x4 (ln a0))/\
(((bx a0 x4)<48->
((0:Int)=((kh a0).1))/\
(false=((kh a0).2))/\
 True))/\
(48<=(bx a0 x4)->
(Wn x4 (ln a0))/\
((57<(bx a0 x4)->
((0:Int)=((kh a0).1))/\
(false=((kh a0).2))/\
 True))/\
((bx a0 x4)<=57->
(I64 (10 * x3))/\
(Wn x4 (ln a0))/\
(U8 ((bx a0 x4)-48))/\
(I64 ((bx a0 x4)-48))/\
(I64 ((10 * x3)+((bx a0 x4)-48)))/\
((1099511627776<((10 * x3)+((bx a0 x4)-48))->
((0:Int)=((kh a0).1))/\
(false=((kh a0).2))/\
 True))/\
(((10 * x3)+((bx a0 x4)-48))<=1099511627776->
(I64 (x4+1))/\
(qai a0 ((10 * x3)+((bx a0 x4)-48)) (x4+1))/\
 qbf a0 ((10 * x3)+((bx a0 x4)-48)) (x4+1)<qbf a0 x3 x4)))))/\
((ln a0)<=x4->
((x3:Int)=((kh a0).1))/\
(true=((kh a0).2))/\
 True)))))))/\
((bx a0 0)≠48->
(qai a0 0 0)/\
(∀ x2:Int,
(∀ x3:Int,
(qai a0 x2 x3->
((x3<(ln a0)->
(Wn x3 (ln a0))/\
(((bx a0 x3)<48->
((0:Int)=((kh a0).1))/\
(false=((kh a0).2))/\
 True))/\
(48<=(bx a0 x3)->
(Wn x3 (ln a0))/\
((57<(bx a0 x3)->
((0:Int)=((kh a0).1))/\
(false=((kh a0).2))/\
 True))/\
((bx a0 x3)<=57->
(I64 (10 * x2))/\
(Wn x3 (ln a0))/\
(U8 ((bx a0 x3)-48))/\
(I64 ((bx a0 x3)-48))/\
(I64 ((10 * x2)+((bx a0 x3)-48)))/\
((1099511627776<((10 * x2)+((bx a0 x3)-48))->
((0:Int)=((kh a0).1))/\
(false=((kh a0).2))/\
 True))/\
(((10 * x2)+((bx a0 x3)-48))<=1099511627776->
(I64 (x3+1))/\
(qai a0 ((10 * x2)+((bx a0 x3)-48)) (x3+1))/\
 qbf a0 ((10 * x2)+((bx a0 x3)-48)) (x3+1)<qbf a0 x2 x3)))))/\
((ln a0)<=x3->
((x2:Int)=((kh a0).1))/\
(true=((kh a0).2))/\
 True))))))
theorem q0e (a0:List UInt8):j9 (qk XK (ji qw2) (fun j ns=>match j,ns with | 0,[.i y0,.i y1]=>qai a0 y0 y1 | _,_=>False) (fun j ns=>match j,ns with | 0,[.i y0,.i y1]=>qbf a0 y0 y1 | _,_=>0)) {cfg sp with ann:=j7 [(118,122,.inv 0 [.one 4 (.int .i64),.one 20 (.int .i64)] [])]} 3 118 [.str (a0)] (qoj a0)=qko a0:=by kernel_rfl
def qxf:List (Nat×Ct KT):=[(118,q2q)]
abbrev qop (a0:List UInt8):PV KT:=.tuple [.int .i64 none (((qej a0).1)),.sb 0 false (((qej a0).2)) (((qej a0).2)=true) (((qej a0).2)=false)]
abbrev qkq (a0:List UInt8):Prop:=
(((ln ([45]:List UInt8))<=(ln a0)->
((0:Int)<=(ln ([45]:List UInt8))/\(ln ([45]:List UInt8))<=ln a0)/\
(((upto a0 (ln ([45]:List UInt8)))≠([45]:List UInt8)->
((ln a0<=1000000))/\
((((kh a0).2)=false->
((0:Int)=((qej a0).1))/\
(false=((qej a0).2))/\
 True))/\
(((kh a0).2)=true->
((((kh a0).1):Int)=((qej a0).1))/\
(true=((qej a0).2))/\
 True)))/\
((upto a0 (ln ([45]:List UInt8)))=([45]:List UInt8)->
((0:Int)<=(ln ([45]:List UInt8))/\(ln ([45]:List UInt8))<=ln a0)/\
((ln (fr a0 (ln ([45]:List UInt8)))<=1000000))/\
((((kh (fr a0 (ln ([45]:List UInt8)))).2)=false->
((0:Int)=((qej a0).1))/\
(false=((qej a0).2))/\
 True))/\
(((kh (fr a0 (ln ([45]:List UInt8)))).2)=true->
((((kh (fr a0 (ln ([45]:List UInt8)))).1)=0->
((0:Int)=((qej a0).1))/\
(false=((qej a0).2))/\
 True))/\
(((kh (fr a0 (ln ([45]:List UInt8)))).1)≠0->
(I64 (-((kh (fr a0 (ln ([45]:List UInt8)))).1)))/\
(((-((kh (fr a0 (ln ([45]:List UInt8)))).1)):Int)=((qej a0).1))/\
(true=((qej a0).2))/\
 True)))))/\
((ln a0)<(ln ([45]:List UInt8))->
((ln a0<=1000000))/\
((((kh a0).2)=false->
((0:Int)=((qej a0).1))/\
(false=((qej a0).2))/\
 True))/\
(((kh a0).2)=true->
((((kh a0).1):Int)=((qej a0).1))/\
(true=((qej a0).2))/\
 True))
theorem q0o (a0:List UInt8):j9 (qk XK (ji qxf) (fun _ _=>False) (fun _ _=>0)) {cfg sp with ann:=j7 []} 3 136 [.str (a0)] (qop a0)=qkq a0:=by kernel_rfl
def qww:List (Nat×Ct KT):=[]
abbrev qod (a0:Int) (a1:Int) (a2:Int) (a3:Int):PV KT:=.int .i64 none ((jf a0 a1 a2 a3))
abbrev qkk (a0:Int) (a1:Int) (a2:Int) (a3:Int):Prop:=
(True)/\
(True)/\
(True)/\
(True)/\
(qb5 a0 a1 a2 a3 0)/\
(∀ x0:Int,
(qb5 a0 a1 a2 a3 x0->
((x0<(ln ([a0,a1,a2,a3]:List Int))->
(Wn x0 (ln ([a0,a1,a2,a3]:List Int)))/\
(((ix ([a0,a1,a2,a3]:List Int) x0)≠2->
(Wn x0 (ln ([a0,a1,a2,a3]:List Int)))/\
(((ix ([a0,a1,a2,a3]:List Int) x0)≠3->
((12:Int)=(jf a0 a1 a2 a3))/\
 True))/\
((ix ([a0,a1,a2,a3]:List Int) x0)=3->
(I64 (x0+1))/\
((a0:Int)=a0)/\
((a1:Int)=a1)/\
((a2:Int)=a2)/\
((a3:Int)=a3)/\
(qb5 a0 a1 a2 a3 (x0+1))/\
 qbe a0 a1 a2 a3 (x0+1)<qbe a0 a1 a2 a3 x0)))/\
((ix ([a0,a1,a2,a3]:List Int) x0)=2->
(I64 (x0+1))/\
((a0:Int)=a0)/\
((a1:Int)=a1)/\
((a2:Int)=a2)/\
((a3:Int)=a3)/\
(qb5 a0 a1 a2 a3 (x0+1))/\
 qbe a0 a1 a2 a3 (x0+1)<qbe a0 a1 a2 a3 x0)))/\
((ln ([a0,a1,a2,a3]:List Int))<=x0->
((0:Int)=(jf a0 a1 a2 a3))/\
 True)))
theorem qzz (a0:Int) (a1:Int) (a2:Int) (a3:Int):j9 (qk XK (ji qww) (fun j ns=>match j,ns with | 0,[.i y0]=>qb5 a0 a1 a2 a3 y0 | _,_=>False) (fun j ns=>match j,ns with | 0,[.i y0]=>qbe a0 a1 a2 a3 y0 | _,_=>0)) {cfg sp with ann:=j7 [(92,58,.inv 0 [.one 4 (.int .i64)] [])]} 3 92 [.agg [.int .i64 none (a0),.int .i64 none (a1),.int .i64 none (a2),.int .i64 none (a3)]] (qod a0 a1 a2 a3)=qkk a0 a1 a2 a3:=by kernel_rfl
def q0p:List (Nat×Ct KT):=[(92,za4)]
abbrev qqj (a0:Int) (a1:Int) (a2:Int) (a3:Int):PV KT:=.tuple [.str (((zs a0 a1 a2 a3).1)),.int .i64 none (((zs a0 a1 a2 a3).2))]
abbrev qna (a0:Int) (a1:Int) (a2:Int) (a3:Int):Prop:=
(True)/\
(((jf a0 a1 a2 a3)≠0->
(([]:List UInt8)=((zs a0 a1 a2 a3).1))/\
(((jf a0 a1 a2 a3):Int)=((zs a0 a1 a2 a3).2))/\
 True))/\
((jf a0 a1 a2 a3)=0->
((a0=3->
(I64 (48+a0))/\
(U8 (48+a0))/\
(I64 (48+a1))/\
(U8 (48+a1))/\
(U8 ((48+a0)))/\
(U8 ((48+a1)))/\
((a2=3->
(qn (List.length [(UInt8.ofNat (Int.toNat ((48+a0)))),(UInt8.ofNat (Int.toNat ((48+a1))))]+List.length ([79]:List UInt8)))/\
((a3=3->
(qn (List.length ([(UInt8.ofNat (Int.toNat ((48+a0)))),(UInt8.ofNat (Int.toNat ((48+a1))))]++([79]:List UInt8))+List.length ([46]:List UInt8)))/\
((([(UInt8.ofNat (Int.toNat ((48+a0)))),(UInt8.ofNat (Int.toNat ((48+a1))))]++([79]:List UInt8))++([46]:List UInt8))=((zs a0 a1 a2 a3).1))/\
((0:Int)=((zs a0 a1 a2 a3).2))/\
 True))/\
(a3≠3->
(([(UInt8.ofNat (Int.toNat ((48+a0)))),(UInt8.ofNat (Int.toNat ((48+a1))))]++([79]:List UInt8))=((zs a0 a1 a2 a3).1))/\
((0:Int)=((zs a0 a1 a2 a3).2))/\
 True)))/\
(a2≠3->
(qn (List.length [(UInt8.ofNat (Int.toNat ((48+a0)))),(UInt8.ofNat (Int.toNat ((48+a1))))]+List.length ([67]:List UInt8)))/\
((a3=3->
(qn (List.length ([(UInt8.ofNat (Int.toNat ((48+a0)))),(UInt8.ofNat (Int.toNat ((48+a1))))]++([67]:List UInt8))+List.length ([46]:List UInt8)))/\
((([(UInt8.ofNat (Int.toNat ((48+a0)))),(UInt8.ofNat (Int.toNat ((48+a1))))]++([67]:List UInt8))++([46]:List UInt8))=((zs a0 a1 a2 a3).1))/\
((0:Int)=((zs a0 a1 a2 a3).2))/\
 True))/\
(a3≠3->
(([(UInt8.ofNat (Int.toNat ((48+a0)))),(UInt8.ofNat (Int.toNat ((48+a1))))]++([67]:List UInt8))=((zs a0 a1 a2 a3).1))/\
((0:Int)=((zs a0 a1 a2 a3).2))/\
 True))))/\
(a0≠3->
((a1=3->
(I64 (48+a0))/\
(U8 (48+a0))/\
(I64 (48+a1))/\
(U8 (48+a1))/\
(U8 ((48+a0)))/\
(U8 ((48+a1)))/\
((a2=3->
(qn (List.length [(UInt8.ofNat (Int.toNat ((48+a0)))),(UInt8.ofNat (Int.toNat ((48+a1))))]+List.length ([79]:List UInt8)))/\
((a3=3->
(qn (List.length ([(UInt8.ofNat (Int.toNat ((48+a0)))),(UInt8.ofNat (Int.toNat ((48+a1))))]++([79]:List UInt8))+List.length ([46]:List UInt8)))/\
((([(UInt8.ofNat (Int.toNat ((48+a0)))),(UInt8.ofNat (Int.toNat ((48+a1))))]++([79]:List UInt8))++([46]:List UInt8))=((zs a0 a1 a2 a3).1))/\
((0:Int)=((zs a0 a1 a2 a3).2))/\
 True))/\
(a3≠3->
(([(UInt8.ofNat (Int.toNat ((48+a0)))),(UInt8.ofNat (Int.toNat ((48+a1))))]++([79]:List UInt8))=((zs a0 a1 a2 a3).1))/\
((0:Int)=((zs a0 a1 a2 a3).2))/\
 True)))/\
(a2≠3->
(qn (List.length [(UInt8.ofNat (Int.toNat ((48+a0)))),(UInt8.ofNat (Int.toNat ((48+a1))))]+List.length ([67]:List UInt8)))/\
((a3=3->
(qn (List.length ([(UInt8.ofNat (Int.toNat ((48+a0)))),(UInt8.ofNat (Int.toNat ((48+a1))))]++([67]:List UInt8))+List.length ([46]:List UInt8)))/\
((([(UInt8.ofNat (Int.toNat ((48+a0)))),(UInt8.ofNat (Int.toNat ((48+a1))))]++([67]:List UInt8))++([46]:List UInt8))=((zs a0 a1 a2 a3).1))/\
((0:Int)=((zs a0 a1 a2 a3).2))/\
 True))/\
(a3≠3->
(([(UInt8.ofNat (Int.toNat ((48+a0)))),(UInt8.ofNat (Int.toNat ((48+a1))))]++([67]:List UInt8))=((zs a0 a1 a2 a3).1))/\
((0:Int)=((zs a0 a1 a2 a3).2))/\
 True))))/\
(a1≠3->
((a2=3->
(qn (List.length ([]:List UInt8)+List.length ([79]:List UInt8)))/\
((a3=3->
(qn (List.length (([]:List UInt8)++([79]:List UInt8))+List.length ([46]:List UInt8)))/\
(((([]:List UInt8)++([79]:List UInt8))++([46]:List UInt8))=((zs a0 a1 a2 a3).1))/\
((0:Int)=((zs a0 a1 a2 a3).2))/\
 True))/\
(a3≠3->
((([]:List UInt8)++([79]:List UInt8))=((zs a0 a1 a2 a3).1))/\
((0:Int)=((zs a0 a1 a2 a3).2))/\
 True)))/\
(a2≠3->
(qn (List.length ([]:List UInt8)+List.length ([67]:List UInt8)))/\
((a3=3->
(qn (List.length (([]:List UInt8)++([67]:List UInt8))+List.length ([46]:List UInt8)))/\
(((([]:List UInt8)++([67]:List UInt8))++([46]:List UInt8))=((zs a0 a1 a2 a3).1))/\
((0:Int)=((zs a0 a1 a2 a3).2))/\
 True))/\
(a3≠3->
((([]:List UInt8)++([67]:List UInt8))=((zs a0 a1 a2 a3).1))/\
((0:Int)=((zs a0 a1 a2 a3).2))/\
 True)))))
theorem q4a (a0:Int) (a1:Int) (a2:Int) (a3:Int):j9 (qk XK (ji q0p) (fun _ _=>False) (fun _ _=>0)) {cfg sp with ann:=j7 []} 3 39 [.agg [.int .i64 none (a0),.int .i64 none (a1),.int .i64 none (a2),.int .i64 none (a3)]] (qqj a0 a1 a2 a3)=qna a0 a1 a2 a3:=by kernel_rfl
def qqd:List (Nat×Ct KT):=[(137,q7d)]
abbrev qim (a0:List UInt8) (a1:Int):PV KT:=.int .i64 none ((qyk a0 a1))
abbrev qj4 (a0:List UInt8) (a1:Int):Prop:=
(True)/\
(((qyk a0 a1):Int)=(qyk a0 a1))/\
 True
theorem qs1 (a0:List UInt8) (a1:Int):j9 (qk XK (ji qqd) (fun _ _=>False) (fun _ _=>0)) {cfg sp with ann:=j7 []} 3 77 [.str (a0),.int .u8 none (a1)] (qim a0 a1)=qj4 a0 a1:=by kernel_rfl
def qw1:List (Nat×Ct KT):=[]
abbrev qoi (a0:Int):PV KT:=.tuple [.str (((qhf a0).1)),.int .i64 none (((qhf a0).2))]
abbrev qkn (a0:Int):Prop:=
((a0<1->
(([]:List UInt8)=((qhf a0).1))/\
((2:Int)=((qhf a0).2))/\
 True))/\
(1<=a0->
((8<a0->
(([]:List UInt8)=((qhf a0).1))/\
((2:Int)=((qhf a0).2))/\
 True))/\
(a0<=8->
(I64 (a0-1))/\
((0:Int)<=(a0-1)/\((a0-1):Int)<=a0/\a0<=ln ([88,76,66,83,77,81,70,90]:List UInt8))/\
((sub ([88,76,66,83,77,81,70,90]:List UInt8) (a0-1) a0)=((qhf a0).1))/\
((0:Int)=((qhf a0).2))/\
 True))
theorem q0b (a0:Int):j9 (qk XK (ji qw1) (fun _ _=>False) (fun _ _=>0)) {cfg sp with ann:=j7 []} 3 27 [.int .i64 none (a0)] (qoi a0)=qkn a0:=by kernel_rfl
def q7f (a0:Int):Ct KT:=([.one (.int .i64)],fun ns=>match ns with
| [.i b0]=>some (((-100<=b0/\b0<=100))/\((if b0<0 then (1000:Nat) else Int.toNat b0))<((if a0<0 then (1000:Nat) else Int.toNat a0)),.str ((qu b0)))
| _=>none)
def qxz (a0:Int):List (Nat×Ct KT):=[(40,q7f a0)]
abbrev qiz (a0:Int):PV KT:=.str ((qu a0))
abbrev qkw (a0:Int):Prop:=
((a0<0->
(I64 (-a0))/\
(((-100<=(-a0)/\(-a0)<=100))/\((if (-a0)<0 then (1000:Nat) else Int.toNat (-a0)))<((if a0<0 then (1000:Nat) else Int.toNat a0)))/\
(qn (List.length ([45]:List UInt8)+List.length (qu (-a0))))/\
((([45]:List UInt8)++(qu (-a0)))=(qu a0))/\
 True))/\
(0<=a0->
((9<a0->
((10:Int)≠0/\I64 (Int.tdiv a0 10))/\
(((-100<=(Int.tdiv a0 10)/\(Int.tdiv a0 10)<=100))/\((if (Int.tdiv a0 10)<0 then (1000:Nat) else Int.toNat (Int.tdiv a0 10)))<((if a0<0 then (1000:Nat) else Int.toNat a0)))/\
((10:Int)≠0)/\
(((-100<=(Int.tmod a0 10)/\(Int.tmod a0 10)<=100))/\((if (Int.tmod a0 10)<0 then (1000:Nat) else Int.toNat (Int.tmod a0 10)))<((if a0<0 then (1000:Nat) else Int.toNat a0)))/\
(qn (List.length (qu (Int.tdiv a0 10))+List.length (qu (Int.tmod a0 10))))/\
(((qu (Int.tdiv a0 10))++(qu (Int.tmod a0 10)))=(qu a0))/\
 True))/\
(a0<=9->
(I64 (a0+1))/\
((0:Int)<=a0/\(a0:Int)<=(a0+1)/\(a0+1)<=ln ([48,49,50,51,52,53,54,55,56,57]:List UInt8))/\
((sub ([48,49,50,51,52,53,54,55,56,57]:List UInt8) a0 (a0+1))=(qu a0))/\
 True))
theorem q03 (a0:Int):j9 (qk XK (ji (qxz a0)) (fun _ _=>False) (fun _ _=>0)) {cfg sp with ann:=j7 []} 3 40 [.int .i64 none (a0)] (qiz a0)=qkw a0:=by kernel_rfl
def q4x:List (Nat×Ct KT):=[(40,zat)]
abbrev qub (a0:Int) (a1:Int) (a2:Int) (a3:Int) (a4:Bool) (a5:Int) (a6:Bool) (a7:Bool) (a8:Int) (a9:Int) (a10:Int) (a11:Int) (a12:Bool) (a13:Int) (a14:Int) (a15:Int) (a16:Int):PV KT:=.str ((jm (Sign.mk a0 a1 a2 a3 a4 a5 a6 a7 a8 a9 a10 a11 a12 a13 a14 a15 a16)))
abbrev qrt (a0:Int) (a1:Int) (a2:Int) (a3:Int) (a4:Bool) (a5:Int) (a6:Bool) (a7:Bool) (a8:Int) (a9:Int) (a10:Int) (a11:Int) (a12:Bool) (a13:Int) (a14:Int) (a15:Int) (a16:Int):Prop:=
((-100<=a2/\a2<=100))/\
((a3=(-1)->
(qn (List.length (qu a2)+List.length ([98]:List UInt8)))/\
((a4=true->
(qn (List.length ((qu a2)++([98]:List UInt8))+List.length ([42]:List UInt8)))/\
((((qu a2)++([98]:List UInt8))++([42]:List UInt8))=(jm (Sign.mk a0 a1 a2 a3 a4 a5 a6 a7 a8 a9 a10 a11 a12 a13 a14 a15 a16)))/\
 True))/\
(a4=false->
(((qu a2)++([98]:List UInt8))=(jm (Sign.mk a0 a1 a2 a3 a4 a5 a6 a7 a8 a9 a10 a11 a12 a13 a14 a15 a16)))/\
 True)))/\
(a3≠(-1)->
((a3=1->
(qn (List.length (qu a2)+List.length ([35]:List UInt8)))/\
((a4=true->
(qn (List.length ((qu a2)++([35]:List UInt8))+List.length ([42]:List UInt8)))/\
((((qu a2)++([35]:List UInt8))++([42]:List UInt8))=(jm (Sign.mk a0 a1 a2 a3 a4 a5 a6 a7 a8 a9 a10 a11 a12 a13 a14 a15 a16)))/\
 True))/\
(a4=false->
(((qu a2)++([35]:List UInt8))=(jm (Sign.mk a0 a1 a2 a3 a4 a5 a6 a7 a8 a9 a10 a11 a12 a13 a14 a15 a16)))/\
 True)))/\
(a3≠1->
((a3=2->
(qn (List.length (qu a2)+List.length ([110]:List UInt8)))/\
((a4=true->
(qn (List.length ((qu a2)++([110]:List UInt8))+List.length ([42]:List UInt8)))/\
((((qu a2)++([110]:List UInt8))++([42]:List UInt8))=(jm (Sign.mk a0 a1 a2 a3 a4 a5 a6 a7 a8 a9 a10 a11 a12 a13 a14 a15 a16)))/\
 True))/\
(a4=false->
(((qu a2)++([110]:List UInt8))=(jm (Sign.mk a0 a1 a2 a3 a4 a5 a6 a7 a8 a9 a10 a11 a12 a13 a14 a15 a16)))/\
 True)))/\
(a3≠2->
((a4=true->
(qn (List.length (qu a2)+List.length ([42]:List UInt8)))/\
(((qu a2)++([42]:List UInt8))=(jm (Sign.mk a0 a1 a2 a3 a4 a5 a6 a7 a8 a9 a10 a11 a12 a13 a14 a15 a16)))/\
 True))/\
(a4=false->
((qu a2)=(jm (Sign.mk a0 a1 a2 a3 a4 a5 a6 a7 a8 a9 a10 a11 a12 a13 a14 a15 a16)))/\
 True))))
theorem q7t (a0:Int) (a1:Int) (a2:Int) (a3:Int) (a4:Bool) (a5:Int) (a6:Bool) (a7:Bool) (a8:Int) (a9:Int) (a10:Int) (a11:Int) (a12:Bool) (a13:Int) (a14:Int) (a15:Int) (a16:Int):j9 (qk XK (ji q4x) (fun _ _=>False) (fun _ _=>0)) {cfg sp with ann:=j7 []} 3 37 [.agg [.int .i64 none (a0),.int .i64 none (a1),.int .i64 none (a2),.int .i64 none (a3),.sb 0 false (a4) (a4=true) (a4=false),.int .i64 none (a5),.sb 0 false (a6) (a6=true) (a6=false),.sb 0 false (a7) (a7=true) (a7=false),.int .i64 none (a8),.int .i64 none (a9),.int .i64 none (a10),.int .i64 none (a11),.sb 0 false (a12) (a12=true) (a12=false),.int .i64 none (a13),.int .i64 none (a14),.int .i64 none (a15),.int .i64 none (a16)]] (qub a0 a1 a2 a3 a4 a5 a6 a7 a8 a9 a10 a11 a12 a13 a14 a15 a16)=qrt a0 a1 a2 a3 a4 a5 a6 a7 a8 a9 a10 a11 a12 a13 a14 a15 a16:=by kernel_rfl
def q58:List (Nat×Ct KT):=[(37,zaq)]
abbrev qu7 (a0:Int) (a1:Int) (a2:Int) (a3:Int) (a4:Bool) (a5:Int) (a6:Bool) (a7:Bool) (a8:Int) (a9:Int) (a10:Int) (a11:Int) (a12:Bool) (a13:Int) (a14:Int) (a15:Int) (a16:Int):PV KT:=.str ((qc0 (Sign.mk a0 a1 a2 a3 a4 a5 a6 a7 a8 a9 a10 a11 a12 a13 a14 a15 a16)))
abbrev qsp (a0:Int) (a1:Int) (a2:Int) (a3:Int) (a4:Bool) (a5:Int) (a6:Bool) (a7:Bool) (a8:Int) (a9:Int) (a10:Int) (a11:Int) (a12:Bool) (a13:Int) (a14:Int) (a15:Int) (a16:Int):Prop:=
((-100<=a2/\a2<=100))/\
(qn (List.length ([116]:List UInt8)+List.length (jm (Sign.mk a0 a1 a2 a3 a4 a5 a6 a7 a8 a9 a10 a11 a12 a13 a14 a15 a16))))/\
(True)/\
(True)/\
(True)/\
(True)/\
(Wn a5 (ln [([]:List UInt8),([94]:List UInt8),([118]:List UInt8),([62]:List UInt8)]))/\
(qn (List.length (([116]:List UInt8)++(jm (Sign.mk a0 a1 a2 a3 a4 a5 a6 a7 a8 a9 a10 a11 a12 a13 a14 a15 a16)))+List.length (ix [([]:List UInt8),([94]:List UInt8),([118]:List UInt8),([62]:List UInt8)] a5)))/\
((a6=true->
(qn (List.length ((([116]:List UInt8)++(jm (Sign.mk a0 a1 a2 a3 a4 a5 a6 a7 a8 a9 a10 a11 a12 a13 a14 a15 a16)))++(ix [([]:List UInt8),([94]:List UInt8),([118]:List UInt8),([62]:List UInt8)] a5))+List.length ([126]:List UInt8)))/\
((a7=true->
(qn (List.length (((([116]:List UInt8)++(jm (Sign.mk a0 a1 a2 a3 a4 a5 a6 a7 a8 a9 a10 a11 a12 a13 a14 a15 a16)))++(ix [([]:List UInt8),([94]:List UInt8),([118]:List UInt8),([62]:List UInt8)] a5))++([126]:List UInt8))+List.length ([33]:List UInt8)))/\
(((((([116]:List UInt8)++(jm (Sign.mk a0 a1 a2 a3 a4 a5 a6 a7 a8 a9 a10 a11 a12 a13 a14 a15 a16)))++(ix [([]:List UInt8),([94]:List UInt8),([118]:List UInt8),([62]:List UInt8)] a5))++([126]:List UInt8))++([33]:List UInt8))=(qc0 (Sign.mk a0 a1 a2 a3 a4 a5 a6 a7 a8 a9 a10 a11 a12 a13 a14 a15 a16)))/\
 True))/\
(a7=false->
((((([116]:List UInt8)++(jm (Sign.mk a0 a1 a2 a3 a4 a5 a6 a7 a8 a9 a10 a11 a12 a13 a14 a15 a16)))++(ix [([]:List UInt8),([94]:List UInt8),([118]:List UInt8),([62]:List UInt8)] a5))++([126]:List UInt8))=(qc0 (Sign.mk a0 a1 a2 a3 a4 a5 a6 a7 a8 a9 a10 a11 a12 a13 a14 a15 a16)))/\
 True)))/\
(a6=false->
((a7=true->
(qn (List.length ((([116]:List UInt8)++(jm (Sign.mk a0 a1 a2 a3 a4 a5 a6 a7 a8 a9 a10 a11 a12 a13 a14 a15 a16)))++(ix [([]:List UInt8),([94]:List UInt8),([118]:List UInt8),([62]:List UInt8)] a5))+List.length ([33]:List UInt8)))/\
((((([116]:List UInt8)++(jm (Sign.mk a0 a1 a2 a3 a4 a5 a6 a7 a8 a9 a10 a11 a12 a13 a14 a15 a16)))++(ix [([]:List UInt8),([94]:List UInt8),([118]:List UInt8),([62]:List UInt8)] a5))++([33]:List UInt8))=(qc0 (Sign.mk a0 a1 a2 a3 a4 a5 a6 a7 a8 a9 a10 a11 a12 a13 a14 a15 a16)))/\
 True))/\
(a7=false->
(((([116]:List UInt8)++(jm (Sign.mk a0 a1 a2 a3 a4 a5 a6 a7 a8 a9 a10 a11 a12 a13 a14 a15 a16)))++(ix [([]:List UInt8),([94]:List UInt8),([118]:List UInt8),([62]:List UInt8)] a5))=(qc0 (Sign.mk a0 a1 a2 a3 a4 a5 a6 a7 a8 a9 a10 a11 a12 a13 a14 a15 a16)))/\
 True))
theorem q9p (a0:Int) (a1:Int) (a2:Int) (a3:Int) (a4:Bool) (a5:Int) (a6:Bool) (a7:Bool) (a8:Int) (a9:Int) (a10:Int) (a11:Int) (a12:Bool) (a13:Int) (a14:Int) (a15:Int) (a16:Int):j9 (qk XK (ji q58) (fun _ _=>False) (fun _ _=>0)) {cfg sp with ann:=j7 []} 3 38 [.agg [.int .i64 none (a0),.int .i64 none (a1),.int .i64 none (a2),.int .i64 none (a3),.sb 0 false (a4) (a4=true) (a4=false),.int .i64 none (a5),.sb 0 false (a6) (a6=true) (a6=false),.sb 0 false (a7) (a7=true) (a7=false),.int .i64 none (a8),.int .i64 none (a9),.int .i64 none (a10),.int .i64 none (a11),.sb 0 false (a12) (a12=true) (a12=false),.int .i64 none (a13),.int .i64 none (a14),.int .i64 none (a15),.int .i64 none (a16)]] (qu7 a0 a1 a2 a3 a4 a5 a6 a7 a8 a9 a10 a11 a12 a13 a14 a15 a16)=qsp a0 a1 a2 a3 a4 a5 a6 a7 a8 a9 a10 a11 a12 a13 a14 a15 a16:=by kernel_rfl
def qdb (a0:Int) (a1:Int) (a2:Int) (a3:Int) (a4:Bool) (a5:Int) (a6:Bool) (a7:Bool) (a8:Int) (a9:Int) (a10:Int) (a11:Int) (a12:Bool) (a13:Int) (a14:Int) (a15:Int) (a16:Int) (r0:Int) (r1:Int) (r2:Int) (r3:Int) (r4:Bool) (r5:Int) (r6:Bool) (r7:Bool) (r8:Int) (r9:Int) (r10:Int) (r11:Int) (r12:Bool) (r13:Int) (r14:Int) (r15:Int) (r16:Int):Prop:=
((r0:Int)=((qp (Sign.mk a0 a1 a2 a3 a4 a5 a6 a7 a8 a9 a10 a11 a12 a13 a14 a15 a16)).Kind))/\
((r1:Int)=((qp (Sign.mk a0 a1 a2 a3 a4 a5 a6 a7 a8 a9 a10 a11 a12 a13 a14 a15 a16)).Value))/\
((r2:Int)=((qp (Sign.mk a0 a1 a2 a3 a4 a5 a6 a7 a8 a9 a10 a11 a12 a13 a14 a15 a16)).Place))/\
((r3:Int)=((qp (Sign.mk a0 a1 a2 a3 a4 a5 a6 a7 a8 a9 a10 a11 a12 a13 a14 a15 a16)).Acc))/\
(r4=((qp (Sign.mk a0 a1 a2 a3 a4 a5 a6 a7 a8 a9 a10 a11 a12 a13 a14 a15 a16)).Color))/\
((r5:Int)=((qp (Sign.mk a0 a1 a2 a3 a4 a5 a6 a7 a8 a9 a10 a11 a12 a13 a14 a15 a16)).Stem))/\
(r6=((qp (Sign.mk a0 a1 a2 a3 a4 a5 a6 a7 a8 a9 a10 a11 a12 a13 a14 a15 a16)).Oblique))/\
(r7=((qp (Sign.mk a0 a1 a2 a3 a4 a5 a6 a7 a8 a9 a10 a11 a12 a13 a14 a15 a16)).Last))/\
((r8:Int)=((qp (Sign.mk a0 a1 a2 a3 a4 a5 a6 a7 a8 a9 a10 a11 a12 a13 a14 a15 a16)).MensMax))/\
((r9:Int)=((qp (Sign.mk a0 a1 a2 a3 a4 a5 a6 a7 a8 a9 a10 a11 a12 a13 a14 a15 a16)).MensMod))/\
((r10:Int)=((qp (Sign.mk a0 a1 a2 a3 a4 a5 a6 a7 a8 a9 a10 a11 a12 a13 a14 a15 a16)).MensTem))/\
((r11:Int)=((qp (Sign.mk a0 a1 a2 a3 a4 a5 a6 a7 a8 a9 a10 a11 a12 a13 a14 a15 a16)).MensPro))/\
(r12=((qp (Sign.mk a0 a1 a2 a3 a4 a5 a6 a7 a8 a9 a10 a11 a12 a13 a14 a15 a16)).Stroke))/\
((r13:Int)=((qp (Sign.mk a0 a1 a2 a3 a4 a5 a6 a7 a8 a9 a10 a11 a12 a13 a14 a15 a16)).N))/\
((r14:Int)=((qp (Sign.mk a0 a1 a2 a3 a4 a5 a6 a7 a8 a9 a10 a11 a12 a13 a14 a15 a16)).D))/\
((r15:Int)=((qp (Sign.mk a0 a1 a2 a3 a4 a5 a6 a7 a8 a9 a10 a11 a12 a13 a14 a15 a16)).ClefStep))/\
((r16:Int)=((qp (Sign.mk a0 a1 a2 a3 a4 a5 a6 a7 a8 a9 a10 a11 a12 a13 a14 a15 a16)).ClefLine))/\
 True

def q9t:List (Nat×Ct KT):=[]
abbrev qzs (a0:Int) (a1:Int) (a2:Int) (a3:Int) (a4:Bool) (a5:Int) (a6:Bool) (a7:Bool) (a8:Int) (a9:Int) (a10:Int) (a11:Int) (a12:Bool) (a13:Int) (a14:Int) (a15:Int) (a16:Int):PV KT:=.agg [.int .i64 none (((qp (Sign.mk a0 a1 a2 a3 a4 a5 a6 a7 a8 a9 a10 a11 a12 a13 a14 a15 a16)).Kind)),.int .i64 none (((qp (Sign.mk a0 a1 a2 a3 a4 a5 a6 a7 a8 a9 a10 a11 a12 a13 a14 a15 a16)).Value)),.int .i64 none (((qp (Sign.mk a0 a1 a2 a3 a4 a5 a6 a7 a8 a9 a10 a11 a12 a13 a14 a15 a16)).Place)),.int .i64 none (((qp (Sign.mk a0 a1 a2 a3 a4 a5 a6 a7 a8 a9 a10 a11 a12 a13 a14 a15 a16)).Acc)),.sb 0 false (((qp (Sign.mk a0 a1 a2 a3 a4 a5 a6 a7 a8 a9 a10 a11 a12 a13 a14 a15 a16)).Color)) (((qp (Sign.mk a0 a1 a2 a3 a4 a5 a6 a7 a8 a9 a10 a11 a12 a13 a14 a15 a16)).Color)=true) (((qp (Sign.mk a0 a1 a2 a3 a4 a5 a6 a7 a8 a9 a10 a11 a12 a13 a14 a15 a16)).Color)=false),.int .i64 none (((qp (Sign.mk a0 a1 a2 a3 a4 a5 a6 a7 a8 a9 a10 a11 a12 a13 a14 a15 a16)).Stem)),.sb 0 false (((qp (Sign.mk a0 a1 a2 a3 a4 a5 a6 a7 a8 a9 a10 a11 a12 a13 a14 a15 a16)).Oblique)) (((qp (Sign.mk a0 a1 a2 a3 a4 a5 a6 a7 a8 a9 a10 a11 a12 a13 a14 a15 a16)).Oblique)=true) (((qp (Sign.mk a0 a1 a2 a3 a4 a5 a6 a7 a8 a9 a10 a11 a12 a13 a14 a15 a16)).Oblique)=false),.sb 0 false (((qp (Sign.mk a0 a1 a2 a3 a4 a5 a6 a7 a8 a9 a10 a11 a12 a13 a14 a15 a16)).Last)) (((qp (Sign.mk a0 a1 a2 a3 a4 a5 a6 a7 a8 a9 a10 a11 a12 a13 a14 a15 a16)).Last)=true) (((qp (Sign.mk a0 a1 a2 a3 a4 a5 a6 a7 a8 a9 a10 a11 a12 a13 a14 a15 a16)).Last)=false),.int .i64 none (((qp (Sign.mk a0 a1 a2 a3 a4 a5 a6 a7 a8 a9 a10 a11 a12 a13 a14 a15 a16)).MensMax)),.int .i64 none (((qp (Sign.mk a0 a1 a2 a3 a4 a5 a6 a7 a8 a9 a10 a11 a12 a13 a14 a15 a16)).MensMod)),.int .i64 none (((qp (Sign.mk a0 a1 a2 a3 a4 a5 a6 a7 a8 a9 a10 a11 a12 a13 a14 a15 a16)).MensTem)),.int .i64 none (((qp (Sign.mk a0 a1 a2 a3 a4 a5 a6 a7 a8 a9 a10 a11 a12 a13 a14 a15 a16)).MensPro)),.sb 0 false (((qp (Sign.mk a0 a1 a2 a3 a4 a5 a6 a7 a8 a9 a10 a11 a12 a13 a14 a15 a16)).Stroke)) (((qp (Sign.mk a0 a1 a2 a3 a4 a5 a6 a7 a8 a9 a10 a11 a12 a13 a14 a15 a16)).Stroke)=true) (((qp (Sign.mk a0 a1 a2 a3 a4 a5 a6 a7 a8 a9 a10 a11 a12 a13 a14 a15 a16)).Stroke)=false),.int .i64 none (((qp (Sign.mk a0 a1 a2 a3 a4 a5 a6 a7 a8 a9 a10 a11 a12 a13 a14 a15 a16)).N)),.int .i64 none (((qp (Sign.mk a0 a1 a2 a3 a4 a5 a6 a7 a8 a9 a10 a11 a12 a13 a14 a15 a16)).D)),.int .i64 none (((qp (Sign.mk a0 a1 a2 a3 a4 a5 a6 a7 a8 a9 a10 a11 a12 a13 a14 a15 a16)).ClefStep)),.int .i64 none (((qp (Sign.mk a0 a1 a2 a3 a4 a5 a6 a7 a8 a9 a10 a11 a12 a13 a14 a15 a16)).ClefLine))]
abbrev qwp (a0:Int) (a1:Int) (a2:Int) (a3:Int) (a4:Bool) (a5:Int) (a6:Bool) (a7:Bool) (a8:Int) (a9:Int) (a10:Int) (a11:Int) (a12:Bool) (a13:Int) (a14:Int) (a15:Int) (a16:Int):Prop:=
((a0=1->
 qdb a0 a1 a2 a3 a4 a5 a6 a7 a8 a9 a10 a11 a12 a13 a14 a15 a16 a0 a1 a2 a3 a4 0 false false 0 0 0 0 false 0 0 0 0))/\
(a0≠1->
((a0=2->
 qdb a0 a1 a2 a3 a4 a5 a6 a7 a8 a9 a10 a11 a12 a13 a14 a15 a16 a0 a1 0 0 false 0 false false 0 0 0 0 false 0 0 0 0))/\
(a0≠2->
((a0=4->
 qdb a0 a1 a2 a3 a4 a5 a6 a7 a8 a9 a10 a11 a12 a13 a14 a15 a16 a0 0 a2 a3 a4 a5 a6 a7 0 0 0 0 false 0 0 0 0))/\
(a0≠4->
((a0=5->
 qdb a0 a1 a2 a3 a4 a5 a6 a7 a8 a9 a10 a11 a12 a13 a14 a15 a16 a0 0 0 0 false 0 false false a8 a9 a10 a11 a12 0 0 0 0))/\
(a0≠5->
((a0=6->
 qdb a0 a1 a2 a3 a4 a5 a6 a7 a8 a9 a10 a11 a12 a13 a14 a15 a16 a0 0 0 0 false 0 false false 0 0 0 0 false a13 a14 0 0))/\
(a0≠6->
((a0=7->
 qdb a0 a1 a2 a3 a4 a5 a6 a7 a8 a9 a10 a11 a12 a13 a14 a15 a16 a0 0 0 0 false 0 false false 0 0 0 0 false 0 0 a15 a16))/\
(a0≠7->
((a0=8->
 qdb a0 a1 a2 a3 a4 a5 a6 a7 a8 a9 a10 a11 a12 a13 a14 a15 a16 a0 0 0 0 false 0 false false 0 0 0 0 false a13 0 0 0))/\
(a0≠8->
((a0=10->
 qdb a0 a1 a2 a3 a4 a5 a6 a7 a8 a9 a10 a11 a12 a13 a14 a15 a16 a0 0 0 0 false 0 false false 0 0 0 0 false a13 0 0 0))/\
(a0≠10->
 qdb a0 a1 a2 a3 a4 a5 a6 a7 a8 a9 a10 a11 a12 a13 a14 a15 a16 a0 0 0 0 false 0 false false 0 0 0 0 false 0 0 0 0))))))))
theorem zcj (a0:Int) (a1:Int) (a2:Int) (a3:Int) (a4:Bool) (a5:Int) (a6:Bool) (a7:Bool) (a8:Int) (a9:Int) (a10:Int) (a11:Int) (a12:Bool) (a13:Int) (a14:Int) (a15:Int) (a16:Int):j9 (qk XK (ji q9t) (fun _ _=>False) (fun _ _=>0)) {cfg sp with ann:=j7 []} 3 91 [.agg [.int .i64 none (a0),.int .i64 none (a1),.int .i64 none (a2),.int .i64 none (a3),.sb 0 false (a4) (a4=true) (a4=false),.int .i64 none (a5),.sb 0 false (a6) (a6=true) (a6=false),.sb 0 false (a7) (a7=true) (a7=false),.int .i64 none (a8),.int .i64 none (a9),.int .i64 none (a10),.int .i64 none (a11),.sb 0 false (a12) (a12=true) (a12=false),.int .i64 none (a13),.int .i64 none (a14),.int .i64 none (a15),.int .i64 none (a16)]] (qzs a0 a1 a2 a3 a4 a5 a6 a7 a8 a9 a10 a11 a12 a13 a14 a15 a16)=qwp a0 a1 a2 a3 a4 a5 a6 a7 a8 a9 a10 a11 a12 a13 a14 a15 a16:=by kernel_rfl
def q1t:List (Nat×Ct KT):=[]
abbrev qsb (a0:Int) (a1:Int) (a2:Int) (a3:Int) (a4:Bool) (a5:Int) (a6:Bool) (a7:Bool) (a8:Int) (a9:Int) (a10:Int) (a11:Int) (a12:Bool) (a13:Int) (a14:Int) (a15:Int) (a16:Int):PV KT:=.sb 0 false ((decide (zi (Sign.mk a0 a1 a2 a3 a4 a5 a6 a7 a8 a9 a10 a11 a12 a13 a14 a15 a16)))) ((decide (zi (Sign.mk a0 a1 a2 a3 a4 a5 a6 a7 a8 a9 a10 a11 a12 a13 a14 a15 a16)))=true) ((decide (zi (Sign.mk a0 a1 a2 a3 a4 a5 a6 a7 a8 a9 a10 a11 a12 a13 a14 a15 a16)))=false)
abbrev qn4 (a0:Int) (a1:Int) (a2:Int) (a3:Int) (a4:Bool) (a5:Int) (a6:Bool) (a7:Bool) (a8:Int) (a9:Int) (a10:Int) (a11:Int) (a12:Bool) (a13:Int) (a14:Int) (a15:Int) (a16:Int):Prop:=
((a0=1->
((1<=a1->
((a1<=8->
(((-4)<=a2->
((a2<=12->
(((-1)<=a3->
((decide (a3<=2))=(decide (zi (Sign.mk a0 a1 a2 a3 a4 a5 a6 a7 a8 a9 a10 a11 a12 a13 a14 a15 a16))))/\
 True))/\
(a3<(-1)->
(false=(decide (zi (Sign.mk a0 a1 a2 a3 a4 a5 a6 a7 a8 a9 a10 a11 a12 a13 a14 a15 a16))))/\
 True)))/\
(12<a2->
(false=(decide (zi (Sign.mk a0 a1 a2 a3 a4 a5 a6 a7 a8 a9 a10 a11 a12 a13 a14 a15 a16))))/\
 True)))/\
(a2<(-4)->
(false=(decide (zi (Sign.mk a0 a1 a2 a3 a4 a5 a6 a7 a8 a9 a10 a11 a12 a13 a14 a15 a16))))/\
 True)))/\
(8<a1->
(false=(decide (zi (Sign.mk a0 a1 a2 a3 a4 a5 a6 a7 a8 a9 a10 a11 a12 a13 a14 a15 a16))))/\
 True)))/\
(a1<1->
(false=(decide (zi (Sign.mk a0 a1 a2 a3 a4 a5 a6 a7 a8 a9 a10 a11 a12 a13 a14 a15 a16))))/\
 True)))/\
(a0≠1->
((a0=2->
((1<=a1->
((decide (a1<=8))=(decide (zi (Sign.mk a0 a1 a2 a3 a4 a5 a6 a7 a8 a9 a10 a11 a12 a13 a14 a15 a16))))/\
 True))/\
(a1<1->
(false=(decide (zi (Sign.mk a0 a1 a2 a3 a4 a5 a6 a7 a8 a9 a10 a11 a12 a13 a14 a15 a16))))/\
 True)))/\
(a0≠2->
((a0=4->
(((-4)<=a2->
((a2<=12->
(((-1)<=a3->
((a3<=2->
((0<=a5->
((decide (a5<=3))=(decide (zi (Sign.mk a0 a1 a2 a3 a4 a5 a6 a7 a8 a9 a10 a11 a12 a13 a14 a15 a16))))/\
 True))/\
(a5<0->
(false=(decide (zi (Sign.mk a0 a1 a2 a3 a4 a5 a6 a7 a8 a9 a10 a11 a12 a13 a14 a15 a16))))/\
 True)))/\
(2<a3->
(false=(decide (zi (Sign.mk a0 a1 a2 a3 a4 a5 a6 a7 a8 a9 a10 a11 a12 a13 a14 a15 a16))))/\
 True)))/\
(a3<(-1)->
(false=(decide (zi (Sign.mk a0 a1 a2 a3 a4 a5 a6 a7 a8 a9 a10 a11 a12 a13 a14 a15 a16))))/\
 True)))/\
(12<a2->
(false=(decide (zi (Sign.mk a0 a1 a2 a3 a4 a5 a6 a7 a8 a9 a10 a11 a12 a13 a14 a15 a16))))/\
 True)))/\
(a2<(-4)->
(false=(decide (zi (Sign.mk a0 a1 a2 a3 a4 a5 a6 a7 a8 a9 a10 a11 a12 a13 a14 a15 a16))))/\
 True)))/\
(a0≠4->
((a0=6->
((1<=a13->
((a13<=100->
((1<=a14->
((decide (a14<=100))=(decide (zi (Sign.mk a0 a1 a2 a3 a4 a5 a6 a7 a8 a9 a10 a11 a12 a13 a14 a15 a16))))/\
 True))/\
(a14<1->
(false=(decide (zi (Sign.mk a0 a1 a2 a3 a4 a5 a6 a7 a8 a9 a10 a11 a12 a13 a14 a15 a16))))/\
 True)))/\
(100<a13->
(false=(decide (zi (Sign.mk a0 a1 a2 a3 a4 a5 a6 a7 a8 a9 a10 a11 a12 a13 a14 a15 a16))))/\
 True)))/\
(a13<1->
(false=(decide (zi (Sign.mk a0 a1 a2 a3 a4 a5 a6 a7 a8 a9 a10 a11 a12 a13 a14 a15 a16))))/\
 True)))/\
(a0≠6->
((a0=7->
((a15=0->
((1<=a16->
((decide (a16<=5))=(decide (zi (Sign.mk a0 a1 a2 a3 a4 a5 a6 a7 a8 a9 a10 a11 a12 a13 a14 a15 a16))))/\
 True))/\
(a16<1->
(false=(decide (zi (Sign.mk a0 a1 a2 a3 a4 a5 a6 a7 a8 a9 a10 a11 a12 a13 a14 a15 a16))))/\
 True)))/\
(a15≠0->
((a15=3->
((1<=a16->
((decide (a16<=5))=(decide (zi (Sign.mk a0 a1 a2 a3 a4 a5 a6 a7 a8 a9 a10 a11 a12 a13 a14 a15 a16))))/\
 True))/\
(a16<1->
(false=(decide (zi (Sign.mk a0 a1 a2 a3 a4 a5 a6 a7 a8 a9 a10 a11 a12 a13 a14 a15 a16))))/\
 True)))/\
(a15≠3->
((a15=4->
((1<=a16->
((decide (a16<=5))=(decide (zi (Sign.mk a0 a1 a2 a3 a4 a5 a6 a7 a8 a9 a10 a11 a12 a13 a14 a15 a16))))/\
 True))/\
(a16<1->
(false=(decide (zi (Sign.mk a0 a1 a2 a3 a4 a5 a6 a7 a8 a9 a10 a11 a12 a13 a14 a15 a16))))/\
 True)))/\
(a15≠4->
(false=(decide (zi (Sign.mk a0 a1 a2 a3 a4 a5 a6 a7 a8 a9 a10 a11 a12 a13 a14 a15 a16))))/\
 True)))))/\
(a0≠7->
((a0=8->
((0<=a13->
((decide (a13<=2))=(decide (zi (Sign.mk a0 a1 a2 a3 a4 a5 a6 a7 a8 a9 a10 a11 a12 a13 a14 a15 a16))))/\
 True))/\
(a13<0->
(false=(decide (zi (Sign.mk a0 a1 a2 a3 a4 a5 a6 a7 a8 a9 a10 a11 a12 a13 a14 a15 a16))))/\
 True)))/\
(a0≠8->
((a0=10->
((2<=a13->
((decide (a13<=4))=(decide (zi (Sign.mk a0 a1 a2 a3 a4 a5 a6 a7 a8 a9 a10 a11 a12 a13 a14 a15 a16))))/\
 True))/\
(a13<2->
(false=(decide (zi (Sign.mk a0 a1 a2 a3 a4 a5 a6 a7 a8 a9 a10 a11 a12 a13 a14 a15 a16))))/\
 True)))/\
(a0≠10->
(true=(decide (zi (Sign.mk a0 a1 a2 a3 a4 a5 a6 a7 a8 a9 a10 a11 a12 a13 a14 a15 a16))))/\
 True)))))))
theorem q5u (a0:Int) (a1:Int) (a2:Int) (a3:Int) (a4:Bool) (a5:Int) (a6:Bool) (a7:Bool) (a8:Int) (a9:Int) (a10:Int) (a11:Int) (a12:Bool) (a13:Int) (a14:Int) (a15:Int) (a16:Int):j9 (qk XK (ji q1t) (fun _ _=>False) (fun _ _=>0)) {cfg sp with ann:=j7 []} 3 93 [.agg [.int .i64 none (a0),.int .i64 none (a1),.int .i64 none (a2),.int .i64 none (a3),.sb 0 false (a4) (a4=true) (a4=false),.int .i64 none (a5),.sb 0 false (a6) (a6=true) (a6=false),.sb 0 false (a7) (a7=true) (a7=false),.int .i64 none (a8),.int .i64 none (a9),.int .i64 none (a10),.int .i64 none (a11),.sb 0 false (a12) (a12=true) (a12=false),.int .i64 none (a13),.int .i64 none (a14),.int .i64 none (a15),.int .i64 none (a16)]] (qsb a0 a1 a2 a3 a4 a5 a6 a7 a8 a9 a10 a11 a12 a13 a14 a15 a16)=qn4 a0 a1 a2 a3 a4 a5 a6 a7 a8 a9 a10 a11 a12 a13 a14 a15 a16:=by kernel_rfl
def q6j:List (Nat×Ct KT):=[(91,zdk),(92,za4),(93,zdl)]
abbrev qw3 (a0:Int) (a1:Int) (a2:Int) (a3:Int) (a4:Bool) (a5:Int) (a6:Bool) (a7:Bool) (a8:Int) (a9:Int) (a10:Int) (a11:Int) (a12:Bool) (a13:Int) (a14:Int) (a15:Int) (a16:Int):PV KT:=.int .i64 none ((qa8 (Sign.mk a0 a1 a2 a3 a4 a5 a6 a7 a8 a9 a10 a11 a12 a13 a14 a15 a16)))
abbrev qvf (a0:Int) (a1:Int) (a2:Int) (a3:Int) (a4:Bool) (a5:Int) (a6:Bool) (a7:Bool) (a8:Int) (a9:Int) (a10:Int) (a11:Int) (a12:Bool) (a13:Int) (a14:Int) (a15:Int) (a16:Int):Prop:=
((a0<1->
((8:Int)=(qa8 (Sign.mk a0 a1 a2 a3 a4 a5 a6 a7 a8 a9 a10 a11 a12 a13 a14 a15 a16)))/\
 True))/\
(1<=a0->
((12<a0->
((8:Int)=(qa8 (Sign.mk a0 a1 a2 a3 a4 a5 a6 a7 a8 a9 a10 a11 a12 a13 a14 a15 a16)))/\
 True))/\
(a0<=12->
(True)/\
(((((qp (Sign.mk a0 a1 a2 a3 a4 a5 a6 a7 a8 a9 a10 a11 a12 a13 a14 a15 a16)).Kind)≠a0∨(((qp (Sign.mk a0 a1 a2 a3 a4 a5 a6 a7 a8 a9 a10 a11 a12 a13 a14 a15 a16)).Value)≠a1∨(((qp (Sign.mk a0 a1 a2 a3 a4 a5 a6 a7 a8 a9 a10 a11 a12 a13 a14 a15 a16)).Place)≠a2∨(((qp (Sign.mk a0 a1 a2 a3 a4 a5 a6 a7 a8 a9 a10 a11 a12 a13 a14 a15 a16)).Acc)≠a3∨(((qp (Sign.mk a0 a1 a2 a3 a4 a5 a6 a7 a8 a9 a10 a11 a12 a13 a14 a15 a16)).Color)≠a4∨(((qp (Sign.mk a0 a1 a2 a3 a4 a5 a6 a7 a8 a9 a10 a11 a12 a13 a14 a15 a16)).Stem)≠a5∨(((qp (Sign.mk a0 a1 a2 a3 a4 a5 a6 a7 a8 a9 a10 a11 a12 a13 a14 a15 a16)).Oblique)≠a6∨(((qp (Sign.mk a0 a1 a2 a3 a4 a5 a6 a7 a8 a9 a10 a11 a12 a13 a14 a15 a16)).Last)≠a7∨(((qp (Sign.mk a0 a1 a2 a3 a4 a5 a6 a7 a8 a9 a10 a11 a12 a13 a14 a15 a16)).MensMax)≠a8∨(((qp (Sign.mk a0 a1 a2 a3 a4 a5 a6 a7 a8 a9 a10 a11 a12 a13 a14 a15 a16)).MensMod)≠a9∨(((qp (Sign.mk a0 a1 a2 a3 a4 a5 a6 a7 a8 a9 a10 a11 a12 a13 a14 a15 a16)).MensTem)≠a10∨(((qp (Sign.mk a0 a1 a2 a3 a4 a5 a6 a7 a8 a9 a10 a11 a12 a13 a14 a15 a16)).MensPro)≠a11∨(((qp (Sign.mk a0 a1 a2 a3 a4 a5 a6 a7 a8 a9 a10 a11 a12 a13 a14 a15 a16)).Stroke)≠a12∨(((qp (Sign.mk a0 a1 a2 a3 a4 a5 a6 a7 a8 a9 a10 a11 a12 a13 a14 a15 a16)).N)≠a13∨(((qp (Sign.mk a0 a1 a2 a3 a4 a5 a6 a7 a8 a9 a10 a11 a12 a13 a14 a15 a16)).D)≠a14∨(((qp (Sign.mk a0 a1 a2 a3 a4 a5 a6 a7 a8 a9 a10 a11 a12 a13 a14 a15 a16)).ClefStep)≠a15∨((qp (Sign.mk a0 a1 a2 a3 a4 a5 a6 a7 a8 a9 a10 a11 a12 a13 a14 a15 a16)).ClefLine)≠a16))))))))))))))))->
((3:Int)=(qa8 (Sign.mk a0 a1 a2 a3 a4 a5 a6 a7 a8 a9 a10 a11 a12 a13 a14 a15 a16)))/\
 True))/\
((((qp (Sign.mk a0 a1 a2 a3 a4 a5 a6 a7 a8 a9 a10 a11 a12 a13 a14 a15 a16)).Kind)=a0/\(((qp (Sign.mk a0 a1 a2 a3 a4 a5 a6 a7 a8 a9 a10 a11 a12 a13 a14 a15 a16)).Value)=a1/\(((qp (Sign.mk a0 a1 a2 a3 a4 a5 a6 a7 a8 a9 a10 a11 a12 a13 a14 a15 a16)).Place)=a2/\(((qp (Sign.mk a0 a1 a2 a3 a4 a5 a6 a7 a8 a9 a10 a11 a12 a13 a14 a15 a16)).Acc)=a3/\(((qp (Sign.mk a0 a1 a2 a3 a4 a5 a6 a7 a8 a9 a10 a11 a12 a13 a14 a15 a16)).Color)=a4/\(((qp (Sign.mk a0 a1 a2 a3 a4 a5 a6 a7 a8 a9 a10 a11 a12 a13 a14 a15 a16)).Stem)=a5/\(((qp (Sign.mk a0 a1 a2 a3 a4 a5 a6 a7 a8 a9 a10 a11 a12 a13 a14 a15 a16)).Oblique)=a6/\(((qp (Sign.mk a0 a1 a2 a3 a4 a5 a6 a7 a8 a9 a10 a11 a12 a13 a14 a15 a16)).Last)=a7/\(((qp (Sign.mk a0 a1 a2 a3 a4 a5 a6 a7 a8 a9 a10 a11 a12 a13 a14 a15 a16)).MensMax)=a8/\(((qp (Sign.mk a0 a1 a2 a3 a4 a5 a6 a7 a8 a9 a10 a11 a12 a13 a14 a15 a16)).MensMod)=a9/\(((qp (Sign.mk a0 a1 a2 a3 a4 a5 a6 a7 a8 a9 a10 a11 a12 a13 a14 a15 a16)).MensTem)=a10/\(((qp (Sign.mk a0 a1 a2 a3 a4 a5 a6 a7 a8 a9 a10 a11 a12 a13 a14 a15 a16)).MensPro)=a11/\(((qp (Sign.mk a0 a1 a2 a3 a4 a5 a6 a7 a8 a9 a10 a11 a12 a13 a14 a15 a16)).Stroke)=a12/\(((qp (Sign.mk a0 a1 a2 a3 a4 a5 a6 a7 a8 a9 a10 a11 a12 a13 a14 a15 a16)).N)=a13/\(((qp (Sign.mk a0 a1 a2 a3 a4 a5 a6 a7 a8 a9 a10 a11 a12 a13 a14 a15 a16)).D)=a14/\(((qp (Sign.mk a0 a1 a2 a3 a4 a5 a6 a7 a8 a9 a10 a11 a12 a13 a14 a15 a16)).ClefStep)=a15/\((qp (Sign.mk a0 a1 a2 a3 a4 a5 a6 a7 a8 a9 a10 a11 a12 a13 a14 a15 a16)).ClefLine)=a16))))))))))))))))->
((a0=5->
(True)/\
(((jf a8 a9 a10 a11)≠0->
((12:Int)=(qa8 (Sign.mk a0 a1 a2 a3 a4 a5 a6 a7 a8 a9 a10 a11 a12 a13 a14 a15 a16)))/\
 True))/\
((jf a8 a9 a10 a11)=0->
(True)/\
(((decide (zi (Sign.mk a0 a1 a2 a3 a4 a5 a6 a7 a8 a9 a10 a11 a12 a13 a14 a15 a16)))=false->
((2:Int)=(qa8 (Sign.mk a0 a1 a2 a3 a4 a5 a6 a7 a8 a9 a10 a11 a12 a13 a14 a15 a16)))/\
 True))/\
((decide (zi (Sign.mk a0 a1 a2 a3 a4 a5 a6 a7 a8 a9 a10 a11 a12 a13 a14 a15 a16)))=true->
((a6=true->
((a7=true->
((3:Int)=(qa8 (Sign.mk a0 a1 a2 a3 a4 a5 a6 a7 a8 a9 a10 a11 a12 a13 a14 a15 a16)))/\
 True))/\
(a7=false->
((0:Int)=(qa8 (Sign.mk a0 a1 a2 a3 a4 a5 a6 a7 a8 a9 a10 a11 a12 a13 a14 a15 a16)))/\
 True)))/\
(a6=false->
((0:Int)=(qa8 (Sign.mk a0 a1 a2 a3 a4 a5 a6 a7 a8 a9 a10 a11 a12 a13 a14 a15 a16)))/\
 True)))))/\
(a0≠5->
(True)/\
(((decide (zi (Sign.mk a0 a1 a2 a3 a4 a5 a6 a7 a8 a9 a10 a11 a12 a13 a14 a15 a16)))=false->
((2:Int)=(qa8 (Sign.mk a0 a1 a2 a3 a4 a5 a6 a7 a8 a9 a10 a11 a12 a13 a14 a15 a16)))/\
 True))/\
((decide (zi (Sign.mk a0 a1 a2 a3 a4 a5 a6 a7 a8 a9 a10 a11 a12 a13 a14 a15 a16)))=true->
((a6=true->
((a7=true->
((3:Int)=(qa8 (Sign.mk a0 a1 a2 a3 a4 a5 a6 a7 a8 a9 a10 a11 a12 a13 a14 a15 a16)))/\
 True))/\
(a7=false->
((0:Int)=(qa8 (Sign.mk a0 a1 a2 a3 a4 a5 a6 a7 a8 a9 a10 a11 a12 a13 a14 a15 a16)))/\
 True)))/\
(a6=false->
((0:Int)=(qa8 (Sign.mk a0 a1 a2 a3 a4 a5 a6 a7 a8 a9 a10 a11 a12 a13 a14 a15 a16)))/\
 True))))))
theorem q97 (a0:Int) (a1:Int) (a2:Int) (a3:Int) (a4:Bool) (a5:Int) (a6:Bool) (a7:Bool) (a8:Int) (a9:Int) (a10:Int) (a11:Int) (a12:Bool) (a13:Int) (a14:Int) (a15:Int) (a16:Int):j9 (qk XK (ji q6j) (fun _ _=>False) (fun _ _=>0)) {cfg sp with ann:=j7 []} 6 36 [.agg [.int .i64 none (a0),.int .i64 none (a1),.int .i64 none (a2),.int .i64 none (a3),.sb 0 false (a4) (a4=true) (a4=false),.int .i64 none (a5),.sb 0 false (a6) (a6=true) (a6=false),.sb 0 false (a7) (a7=true) (a7=false),.int .i64 none (a8),.int .i64 none (a9),.int .i64 none (a10),.int .i64 none (a11),.sb 0 false (a12) (a12=true) (a12=false),.int .i64 none (a13),.int .i64 none (a14),.int .i64 none (a15),.int .i64 none (a16)]] (qw3 a0 a1 a2 a3 a4 a5 a6 a7 a8 a9 a10 a11 a12 a13 a14 a15 a16)=qvf a0 a1 a2 a3 a4 a5 a6 a7 a8 a9 a10 a11 a12 a13 a14 a15 a16:=by kernel_rfl
def q4h:List (Nat×Ct KT):=[(36,zap),(27,zc9),(37,zaq),(38,zda),(39,zdb),(40,zat)]
abbrev qtu (a0:Int) (a1:Int) (a2:Int) (a3:Int) (a4:Bool) (a5:Int) (a6:Bool) (a7:Bool) (a8:Int) (a9:Int) (a10:Int) (a11:Int) (a12:Bool) (a13:Int) (a14:Int) (a15:Int) (a16:Int):PV KT:=.tuple [.str (((qq (Sign.mk a0 a1 a2 a3 a4 a5 a6 a7 a8 a9 a10 a11 a12 a13 a14 a15 a16)).1)),.int .i64 none (((qq (Sign.mk a0 a1 a2 a3 a4 a5 a6 a7 a8 a9 a10 a11 a12 a13 a14 a15 a16)).2))]
abbrev qqo (a0:Int) (a1:Int) (a2:Int) (a3:Int) (a4:Bool) (a5:Int) (a6:Bool) (a7:Bool) (a8:Int) (a9:Int) (a10:Int) (a11:Int) (a12:Bool) (a13:Int) (a14:Int) (a15:Int) (a16:Int):Prop:=
(True)/\
(((qa8 (Sign.mk a0 a1 a2 a3 a4 a5 a6 a7 a8 a9 a10 a11 a12 a13 a14 a15 a16))≠0->
(([]:List UInt8)=((qq (Sign.mk a0 a1 a2 a3 a4 a5 a6 a7 a8 a9 a10 a11 a12 a13 a14 a15 a16)).1))/\
(((qa8 (Sign.mk a0 a1 a2 a3 a4 a5 a6 a7 a8 a9 a10 a11 a12 a13 a14 a15 a16)):Int)=((qq (Sign.mk a0 a1 a2 a3 a4 a5 a6 a7 a8 a9 a10 a11 a12 a13 a14 a15 a16)).2))/\
 True))/\
((qa8 (Sign.mk a0 a1 a2 a3 a4 a5 a6 a7 a8 a9 a10 a11 a12 a13 a14 a15 a16))=0->
(True)/\
((a0=1->
((-100<=a2/\a2<=100))/\
(qn (List.length ((qhf a1).1)+List.length (jm (Sign.mk a0 a1 a2 a3 a4 a5 a6 a7 a8 a9 a10 a11 a12 a13 a14 a15 a16))))/\
((((qhf a1).1)++(jm (Sign.mk a0 a1 a2 a3 a4 a5 a6 a7 a8 a9 a10 a11 a12 a13 a14 a15 a16)))=((qq (Sign.mk a0 a1 a2 a3 a4 a5 a6 a7 a8 a9 a10 a11 a12 a13 a14 a15 a16)).1))/\
((0:Int)=((qq (Sign.mk a0 a1 a2 a3 a4 a5 a6 a7 a8 a9 a10 a11 a12 a13 a14 a15 a16)).2))/\
 True))/\
(a0≠1->
((a0=2->
(qn (List.length ([114]:List UInt8)+List.length ((qhf a1).1)))/\
((([114]:List UInt8)++((qhf a1).1))=((qq (Sign.mk a0 a1 a2 a3 a4 a5 a6 a7 a8 a9 a10 a11 a12 a13 a14 a15 a16)).1))/\
((0:Int)=((qq (Sign.mk a0 a1 a2 a3 a4 a5 a6 a7 a8 a9 a10 a11 a12 a13 a14 a15 a16)).2))/\
 True))/\
(a0≠2->
((a0=3->
(([46]:List UInt8)=((qq (Sign.mk a0 a1 a2 a3 a4 a5 a6 a7 a8 a9 a10 a11 a12 a13 a14 a15 a16)).1))/\
((0:Int)=((qq (Sign.mk a0 a1 a2 a3 a4 a5 a6 a7 a8 a9 a10 a11 a12 a13 a14 a15 a16)).2))/\
 True))/\
(a0≠3->
((a0=4->
((-100<=a2/\a2<=100/\0<=a5/\a5<=3))/\
((qc0 (Sign.mk a0 a1 a2 a3 a4 a5 a6 a7 a8 a9 a10 a11 a12 a13 a14 a15 a16))=((qq (Sign.mk a0 a1 a2 a3 a4 a5 a6 a7 a8 a9 a10 a11 a12 a13 a14 a15 a16)).1))/\
((0:Int)=((qq (Sign.mk a0 a1 a2 a3 a4 a5 a6 a7 a8 a9 a10 a11 a12 a13 a14 a15 a16)).2))/\
 True))/\
(a0≠4->
((a0=5->
(True)/\
((a12=true->
(qn (List.length ([40]:List UInt8)+List.length ((zs a8 a9 a10 a11).1)))/\
(qn (List.length (([40]:List UInt8)++((zs a8 a9 a10 a11).1))+List.length ([41,124]:List UInt8)))/\
(((([40]:List UInt8)++((zs a8 a9 a10 a11).1))++([41,124]:List UInt8))=((qq (Sign.mk a0 a1 a2 a3 a4 a5 a6 a7 a8 a9 a10 a11 a12 a13 a14 a15 a16)).1))/\
((0:Int)=((qq (Sign.mk a0 a1 a2 a3 a4 a5 a6 a7 a8 a9 a10 a11 a12 a13 a14 a15 a16)).2))/\
 True))/\
(a12=false->
(qn (List.length ([40]:List UInt8)+List.length ((zs a8 a9 a10 a11).1)))/\
(qn (List.length (([40]:List UInt8)++((zs a8 a9 a10 a11).1))+List.length ([41]:List UInt8)))/\
(((([40]:List UInt8)++((zs a8 a9 a10 a11).1))++([41]:List UInt8))=((qq (Sign.mk a0 a1 a2 a3 a4 a5 a6 a7 a8 a9 a10 a11 a12 a13 a14 a15 a16)).1))/\
((0:Int)=((qq (Sign.mk a0 a1 a2 a3 a4 a5 a6 a7 a8 a9 a10 a11 a12 a13 a14 a15 a16)).2))/\
 True)))/\
(a0≠5->
((a0=6->
((-100<=a13/\a13<=100))/\
(qn (List.length (qu a13)+List.length ([47]:List UInt8)))/\
((-100<=a14/\a14<=100))/\
(qn (List.length ((qu a13)++([47]:List UInt8))+List.length (qu a14)))/\
((((qu a13)++([47]:List UInt8))++(qu a14))=((qq (Sign.mk a0 a1 a2 a3 a4 a5 a6 a7 a8 a9 a10 a11 a12 a13 a14 a15 a16)).1))/\
((0:Int)=((qq (Sign.mk a0 a1 a2 a3 a4 a5 a6 a7 a8 a9 a10 a11 a12 a13 a14 a15 a16)).2))/\
 True))/\
(a0≠6->
((a0=7->
(True)/\
(True)/\
(True)/\
(True)/\
(True)/\
(Wn a15 (ln [([67]:List UInt8),([]:List UInt8),([]:List UInt8),([70]:List UInt8),([71]:List UInt8)]))/\
(qn (List.length ([64]:List UInt8)+List.length (ix [([67]:List UInt8),([]:List UInt8),([]:List UInt8),([70]:List UInt8),([71]:List UInt8)] a15)))/\
((-100<=a16/\a16<=100))/\
(qn (List.length (([64]:List UInt8)++(ix [([67]:List UInt8),([]:List UInt8),([]:List UInt8),([70]:List UInt8),([71]:List UInt8)] a15))+List.length (qu a16)))/\
(((([64]:List UInt8)++(ix [([67]:List UInt8),([]:List UInt8),([]:List UInt8),([70]:List UInt8),([71]:List UInt8)] a15))++(qu a16))=((qq (Sign.mk a0 a1 a2 a3 a4 a5 a6 a7 a8 a9 a10 a11 a12 a13 a14 a15 a16)).1))/\
((0:Int)=((qq (Sign.mk a0 a1 a2 a3 a4 a5 a6 a7 a8 a9 a10 a11 a12 a13 a14 a15 a16)).2))/\
 True))/\
(a0≠7->
((a0=8->
((-100<=a13/\a13<=100))/\
(qn (List.length ([38]:List UInt8)+List.length (qu a13)))/\
((([38]:List UInt8)++(qu a13))=((qq (Sign.mk a0 a1 a2 a3 a4 a5 a6 a7 a8 a9 a10 a11 a12 a13 a14 a15 a16)).1))/\
((0:Int)=((qq (Sign.mk a0 a1 a2 a3 a4 a5 a6 a7 a8 a9 a10 a11 a12 a13 a14 a15 a16)).2))/\
 True))/\
(a0≠8->
((a0=9->
(([91]:List UInt8)=((qq (Sign.mk a0 a1 a2 a3 a4 a5 a6 a7 a8 a9 a10 a11 a12 a13 a14 a15 a16)).1))/\
((0:Int)=((qq (Sign.mk a0 a1 a2 a3 a4 a5 a6 a7 a8 a9 a10 a11 a12 a13 a14 a15 a16)).2))/\
 True))/\
(a0≠9->
((a0=10->
((-100<=a13/\a13<=100))/\
(qn (List.length ([93]:List UInt8)+List.length (qu a13)))/\
((([93]:List UInt8)++(qu a13))=((qq (Sign.mk a0 a1 a2 a3 a4 a5 a6 a7 a8 a9 a10 a11 a12 a13 a14 a15 a16)).1))/\
((0:Int)=((qq (Sign.mk a0 a1 a2 a3 a4 a5 a6 a7 a8 a9 a10 a11 a12 a13 a14 a15 a16)).2))/\
 True))/\
(a0≠10->
((a0=11->
(([116,117,114,110]:List UInt8)=((qq (Sign.mk a0 a1 a2 a3 a4 a5 a6 a7 a8 a9 a10 a11 a12 a13 a14 a15 a16)).1))/\
((0:Int)=((qq (Sign.mk a0 a1 a2 a3 a4 a5 a6 a7 a8 a9 a10 a11 a12 a13 a14 a15 a16)).2))/\
 True))/\
(a0≠11->
(([115,105,103]:List UInt8)=((qq (Sign.mk a0 a1 a2 a3 a4 a5 a6 a7 a8 a9 a10 a11 a12 a13 a14 a15 a16)).1))/\
((0:Int)=((qq (Sign.mk a0 a1 a2 a3 a4 a5 a6 a7 a8 a9 a10 a11 a12 a13 a14 a15 a16)).2))/\
 True))))))))))))
theorem q6y (a0:Int) (a1:Int) (a2:Int) (a3:Int) (a4:Bool) (a5:Int) (a6:Bool) (a7:Bool) (a8:Int) (a9:Int) (a10:Int) (a11:Int) (a12:Bool) (a13:Int) (a14:Int) (a15:Int) (a16:Int):j9 (qk XK (ji q4h) (fun _ _=>False) (fun _ _=>0)) {cfg sp with ann:=j7 []} 6 11 [.agg [.int .i64 none (a0),.int .i64 none (a1),.int .i64 none (a2),.int .i64 none (a3),.sb 0 false (a4) (a4=true) (a4=false),.int .i64 none (a5),.sb 0 false (a6) (a6=true) (a6=false),.sb 0 false (a7) (a7=true) (a7=false),.int .i64 none (a8),.int .i64 none (a9),.int .i64 none (a10),.int .i64 none (a11),.sb 0 false (a12) (a12=true) (a12=false),.int .i64 none (a13),.int .i64 none (a14),.int .i64 none (a15),.int .i64 none (a16)]] (qtu a0 a1 a2 a3 a4 a5 a6 a7 a8 a9 a10 a11 a12 a13 a14 a15 a16)=qqo a0 a1 a2 a3 a4 a5 a6 a7 a8 a9 a10 a11 a12 a13 a14 a15 a16:=by kernel_rfl
end Go.Proofs.YtbopmiclcimjgaaGreatDoor
