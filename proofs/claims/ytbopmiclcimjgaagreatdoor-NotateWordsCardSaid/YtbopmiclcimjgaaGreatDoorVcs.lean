/- CONDITIONS, as E3 computes them. Made by program (vc.py). -/
import Derived.Test.YtbopmiclcimjgaaGreatDoorCts
namespace Go.Proofs.YtbopmiclcimjgaaGreatDoor
open Go Go.E2 Go.E3
set_option maxRecDepth 100000
variable {sp:Nat->Option (List V->Heap->Option (CR×Heap))}

def q2v:List (Nat×Ct KT):=[]
abbrev qsf (a0:Int) (a1:Int) (a2:Int) (a3:Int):PV KT:=.int .i64 none ((jy a0 a1 a2 a3))
abbrev qeo (v0:Int) (v1:Int) (v2:Int) (v3:Int) (p:Prop):Prop:=
((v0:Int)=v0)/\
((v1:Int)=v1)/\
((v2:Int)=v2)/\
((v3:Int)=v3)/\
 p
abbrev qo6 (a0:Int) (a1:Int) (a2:Int) (a3:Int):Prop:=
(jn a0 a1 a2 a3 0)/\
(∀ x0:Int,
(jn a0 a1 a2 a3 x0->
((x0<4->
(Wn x0 4)/\
(((x0:Int)=0->
((a0≠2->
((a0≠3->
((12:Int)=(jy a0 a1 a2 a3))/\
 True))/\
(a0=3->
(I64 (x0+1))/\
(qeo a0 a1 a2 a3 (
(jn a0 a1 a2 a3 (x0+1))/\
 zo a0 a1 a2 a3 (x0+1)<zo a0 a1 a2 a3 x0)))))/\
(a0=2->
(I64 (x0+1))/\
(qeo a0 a1 a2 a3 (
(jn a0 a1 a2 a3 (x0+1))/\
 zo a0 a1 a2 a3 (x0+1)<zo a0 a1 a2 a3 x0)))))/\
(((x0:Int)=1->
((a1≠2->
((a1≠3->
((12:Int)=(jy a0 a1 a2 a3))/\
 True))/\
(a1=3->
(I64 (x0+1))/\
(qeo a0 a1 a2 a3 (
(jn a0 a1 a2 a3 (x0+1))/\
 zo a0 a1 a2 a3 (x0+1)<zo a0 a1 a2 a3 x0)))))/\
(a1=2->
(I64 (x0+1))/\
(qeo a0 a1 a2 a3 (
(jn a0 a1 a2 a3 (x0+1))/\
 zo a0 a1 a2 a3 (x0+1)<zo a0 a1 a2 a3 x0)))))/\
(((x0:Int)=2->
((a2≠2->
((a2≠3->
((12:Int)=(jy a0 a1 a2 a3))/\
 True))/\
(a2=3->
(I64 (x0+1))/\
(qeo a0 a1 a2 a3 (
(jn a0 a1 a2 a3 (x0+1))/\
 zo a0 a1 a2 a3 (x0+1)<zo a0 a1 a2 a3 x0)))))/\
(a2=2->
(I64 (x0+1))/\
(qeo a0 a1 a2 a3 (
(jn a0 a1 a2 a3 (x0+1))/\
 zo a0 a1 a2 a3 (x0+1)<zo a0 a1 a2 a3 x0)))))/\
(((x0:Int)=3->
((a3≠2->
((a3≠3->
((12:Int)=(jy a0 a1 a2 a3))/\
 True))/\
(a3=3->
(I64 (x0+1))/\
(qeo a0 a1 a2 a3 (
(jn a0 a1 a2 a3 (x0+1))/\
 zo a0 a1 a2 a3 (x0+1)<zo a0 a1 a2 a3 x0)))))/\
(a3=2->
(I64 (x0+1))/\
(qeo a0 a1 a2 a3 (
(jn a0 a1 a2 a3 (x0+1))/\
 zo a0 a1 a2 a3 (x0+1)<zo a0 a1 a2 a3 x0)))))/\
 True))/\
(4<=x0->
((0:Int)=(jy a0 a1 a2 a3))/\
 True)))
theorem q7t (a0:Int) (a1:Int) (a2:Int) (a3:Int):qau (qq XK (j7 q2v) (fun j ns=>match j,ns with | 0,[.i y0]=>jn a0 a1 a2 a3 y0 | _,_=>False) (fun j ns=>match j,ns with | 0,[.i y0]=>zo a0 a1 a2 a3 y0 | _,_=>0)) {cfg sp with ann:=qar [(59,26,.inv 0 [.one 7 (.int .i64)] [])]} 3 59 [.agg [.int .i64 none (a0),.int .i64 none (a1),.int .i64 none (a2),.int .i64 none (a3)]] (qsf a0 a1 a2 a3)=qo6 a0 a1 a2 a3:=by kernel_rfl
def qu9:List (Nat×Ct KT):=[]
abbrev ql3 (a0:List UInt8) (a1:List UInt8):PV KT:=.sb 0 false ((preB a0 a1)) ((preB a0 a1)=true) ((preB a0 a1)=false)
abbrev qjh (a0:List UInt8) (a1:List UInt8):Prop:=
(((ln a1)<=(ln a0)->
((0:Int)<=(ln a1)/\(ln a1)<=ln a0)/\
((decide ((upto a0 (ln a1))=a1))=(preB a0 a1))/\
 True))/\
((ln a0)<(ln a1)->
(false=(preB a0 a1))/\
 True)
theorem qxv (a0:List UInt8) (a1:List UInt8):qau (qq XK (j7 qu9) (fun _ _=>False) (fun _ _=>0)) {cfg sp with ann:=qar []} 3 94 [.str (a0),.str (a1)] (ql3 a0 a1)=qjh a0 a1:=by kernel_rfl
def q47:List (Nat×Ct KT):=[]
abbrev quz (a0:Int) (a1:Int) (a2:Int) (a3:Int):PV KT:=.str ((qp a0 a1 a2 a3))
abbrev qqe (a0:Int) (a1:Int) (a2:Int) (a3:Int):Prop:=
(True)/\
(True)/\
((a0=3->
(True)/\
(True)/\
(qx (List.length (kx (zi (zi ([]:List MapIS) (MapIS.mk 2 ([50]:List UInt8))) (MapIS.mk 3 ([51]:List UInt8))) (MapIS.mk a0 ([]:List UInt8))).v+List.length (kx (zi (zi ([]:List MapIS) (MapIS.mk 2 ([50]:List UInt8))) (MapIS.mk 3 ([51]:List UInt8))) (MapIS.mk a1 ([]:List UInt8))).v))/\
(True)/\
(True)/\
(True)/\
(qx (List.length ((kx (zi (zi ([]:List MapIS) (MapIS.mk 2 ([50]:List UInt8))) (MapIS.mk 3 ([51]:List UInt8))) (MapIS.mk a0 ([]:List UInt8))).v++(kx (zi (zi ([]:List MapIS) (MapIS.mk 2 ([50]:List UInt8))) (MapIS.mk 3 ([51]:List UInt8))) (MapIS.mk a1 ([]:List UInt8))).v)+List.length (kx (zi (zi ([]:List MapIS) (MapIS.mk 2 ([67]:List UInt8))) (MapIS.mk 3 ([79]:List UInt8))) (MapIS.mk a2 ([]:List UInt8))).v))/\
(True)/\
(True)/\
(qx (List.length (((kx (zi (zi ([]:List MapIS) (MapIS.mk 2 ([50]:List UInt8))) (MapIS.mk 3 ([51]:List UInt8))) (MapIS.mk a0 ([]:List UInt8))).v++(kx (zi (zi ([]:List MapIS) (MapIS.mk 2 ([50]:List UInt8))) (MapIS.mk 3 ([51]:List UInt8))) (MapIS.mk a1 ([]:List UInt8))).v)++(kx (zi (zi ([]:List MapIS) (MapIS.mk 2 ([67]:List UInt8))) (MapIS.mk 3 ([79]:List UInt8))) (MapIS.mk a2 ([]:List UInt8))).v)+List.length (kx (zi ([]:List MapIS) (MapIS.mk 3 ([46]:List UInt8))) (MapIS.mk a3 ([]:List UInt8))).v))/\
(((((kx (zi (zi ([]:List MapIS) (MapIS.mk 2 ([50]:List UInt8))) (MapIS.mk 3 ([51]:List UInt8))) (MapIS.mk a0 ([]:List UInt8))).v++(kx (zi (zi ([]:List MapIS) (MapIS.mk 2 ([50]:List UInt8))) (MapIS.mk 3 ([51]:List UInt8))) (MapIS.mk a1 ([]:List UInt8))).v)++(kx (zi (zi ([]:List MapIS) (MapIS.mk 2 ([67]:List UInt8))) (MapIS.mk 3 ([79]:List UInt8))) (MapIS.mk a2 ([]:List UInt8))).v)++(kx (zi ([]:List MapIS) (MapIS.mk 3 ([46]:List UInt8))) (MapIS.mk a3 ([]:List UInt8))).v)=(qp a0 a1 a2 a3))/\
 True))/\
(a0≠3->
((a1=3->
(True)/\
(True)/\
(qx (List.length (kx (zi (zi ([]:List MapIS) (MapIS.mk 2 ([50]:List UInt8))) (MapIS.mk 3 ([51]:List UInt8))) (MapIS.mk a0 ([]:List UInt8))).v+List.length (kx (zi (zi ([]:List MapIS) (MapIS.mk 2 ([50]:List UInt8))) (MapIS.mk 3 ([51]:List UInt8))) (MapIS.mk a1 ([]:List UInt8))).v))/\
(True)/\
(True)/\
(True)/\
(qx (List.length ((kx (zi (zi ([]:List MapIS) (MapIS.mk 2 ([50]:List UInt8))) (MapIS.mk 3 ([51]:List UInt8))) (MapIS.mk a0 ([]:List UInt8))).v++(kx (zi (zi ([]:List MapIS) (MapIS.mk 2 ([50]:List UInt8))) (MapIS.mk 3 ([51]:List UInt8))) (MapIS.mk a1 ([]:List UInt8))).v)+List.length (kx (zi (zi ([]:List MapIS) (MapIS.mk 2 ([67]:List UInt8))) (MapIS.mk 3 ([79]:List UInt8))) (MapIS.mk a2 ([]:List UInt8))).v))/\
(True)/\
(True)/\
(qx (List.length (((kx (zi (zi ([]:List MapIS) (MapIS.mk 2 ([50]:List UInt8))) (MapIS.mk 3 ([51]:List UInt8))) (MapIS.mk a0 ([]:List UInt8))).v++(kx (zi (zi ([]:List MapIS) (MapIS.mk 2 ([50]:List UInt8))) (MapIS.mk 3 ([51]:List UInt8))) (MapIS.mk a1 ([]:List UInt8))).v)++(kx (zi (zi ([]:List MapIS) (MapIS.mk 2 ([67]:List UInt8))) (MapIS.mk 3 ([79]:List UInt8))) (MapIS.mk a2 ([]:List UInt8))).v)+List.length (kx (zi ([]:List MapIS) (MapIS.mk 3 ([46]:List UInt8))) (MapIS.mk a3 ([]:List UInt8))).v))/\
(((((kx (zi (zi ([]:List MapIS) (MapIS.mk 2 ([50]:List UInt8))) (MapIS.mk 3 ([51]:List UInt8))) (MapIS.mk a0 ([]:List UInt8))).v++(kx (zi (zi ([]:List MapIS) (MapIS.mk 2 ([50]:List UInt8))) (MapIS.mk 3 ([51]:List UInt8))) (MapIS.mk a1 ([]:List UInt8))).v)++(kx (zi (zi ([]:List MapIS) (MapIS.mk 2 ([67]:List UInt8))) (MapIS.mk 3 ([79]:List UInt8))) (MapIS.mk a2 ([]:List UInt8))).v)++(kx (zi ([]:List MapIS) (MapIS.mk 3 ([46]:List UInt8))) (MapIS.mk a3 ([]:List UInt8))).v)=(qp a0 a1 a2 a3))/\
 True))/\
(a1≠3->
(True)/\
(True)/\
(True)/\
(qx (List.length ([]:List UInt8)+List.length (kx (zi (zi ([]:List MapIS) (MapIS.mk 2 ([67]:List UInt8))) (MapIS.mk 3 ([79]:List UInt8))) (MapIS.mk a2 ([]:List UInt8))).v))/\
(True)/\
(True)/\
(qx (List.length (([]:List UInt8)++(kx (zi (zi ([]:List MapIS) (MapIS.mk 2 ([67]:List UInt8))) (MapIS.mk 3 ([79]:List UInt8))) (MapIS.mk a2 ([]:List UInt8))).v)+List.length (kx (zi ([]:List MapIS) (MapIS.mk 3 ([46]:List UInt8))) (MapIS.mk a3 ([]:List UInt8))).v))/\
(((([]:List UInt8)++(kx (zi (zi ([]:List MapIS) (MapIS.mk 2 ([67]:List UInt8))) (MapIS.mk 3 ([79]:List UInt8))) (MapIS.mk a2 ([]:List UInt8))).v)++(kx (zi ([]:List MapIS) (MapIS.mk 3 ([46]:List UInt8))) (MapIS.mk a3 ([]:List UInt8))).v)=(qp a0 a1 a2 a3))/\
 True))
theorem q90 (a0:Int) (a1:Int) (a2:Int) (a3:Int):qau (qq XK (j7 q47) (fun _ _=>False) (fun _ _=>0)) {cfg sp with ann:=qar []} 3 114 [.agg [.int .i64 none (a0),.int .i64 none (a1),.int .i64 none (a2),.int .i64 none (a3)]] (quz a0 a1 a2 a3)=qqe a0 a1 a2 a3:=by kernel_rfl
def q3m:List (Nat×Ct KT):=[(59,zfg),(114,q5p)]
abbrev qsn (a0:Int) (a1:Int) (a2:Int) (a3:Int):PV KT:=.tuple [.str (((z6 a0 a1 a2 a3).1)),.int .i64 none (((z6 a0 a1 a2 a3).2))]
abbrev qpb (a0:Int) (a1:Int) (a2:Int) (a3:Int):Prop:=
(True)/\
(((jy a0 a1 a2 a3)≠0->
(([]:List UInt8)=((z6 a0 a1 a2 a3).1))/\
(((jy a0 a1 a2 a3):Int)=((z6 a0 a1 a2 a3).2))/\
 True))/\
((jy a0 a1 a2 a3)=0->
(True)/\
((qp a0 a1 a2 a3)=((z6 a0 a1 a2 a3).1))/\
((0:Int)=((z6 a0 a1 a2 a3).2))/\
 True)
theorem q72 (a0:Int) (a1:Int) (a2:Int) (a3:Int):qau (qq XK (j7 q3m) (fun _ _=>False) (fun _ _=>0)) {cfg sp with ann:=qar []} 3 74 [.agg [.int .i64 none (a0),.int .i64 none (a1),.int .i64 none (a2),.int .i64 none (a3)]] (qsn a0 a1 a2 a3)=qpb a0 a1 a2 a3:=by kernel_rfl
def qqp (a0:List UInt8) (r0:Int) (r1:Int) (r2:Int) (r3:Int) (r4:Int):Prop:=
((r0:Int)=((za a0).1.1))/\
((r1:Int)=((za a0).1.2.1))/\
((r2:Int)=((za a0).1.2.2.1))/\
((r3:Int)=((za a0).1.2.2.2))/\
((r4:Int)=((za a0).2))/\
 True

def qzo:List (Nat×Ct KT):=[(114,q5p)]
abbrev qqq (a0:List UInt8):PV KT:=.tuple [.agg [.int .i64 none (((za a0).1.1)),.int .i64 none (((za a0).1.2.1)),.int .i64 none (((za a0).1.2.2.1)),.int .i64 none (((za a0).1.2.2.2))],.int .i64 none (((za a0).2))]
abbrev qmn (a0:List UInt8):Prop:=
(True)/\
(True)/\
(True)/\
(True)/\
(True)/\
(True)/\
(True)/\
(True)/\
(True)/\
(True)/\
(True)/\
(True)/\
(True)/\
(True)/\
(True)/\
(True)/\
(True)/\
(True)/\
(True)/\
(True)/\
(True)/\
(True)/\
(True)/\
(True)/\
(True)/\
(True)/\
(True)/\
(True)/\
(True)/\
(True)/\
(True)/\
(True)/\
(True)/\
(((qtv (qj (qj (qj (qj (qj (qj (qj (qj (qj (qj (qj (qj (qj (qj (qj (qj ([]:List MapSM) (MapSM.mk (qp 2 2 2 2) 2 2 2 2)) (MapSM.mk (qp 2 2 2 3) 2 2 2 3)) (MapSM.mk (qp 2 2 3 2) 2 2 3 2)) (MapSM.mk (qp 2 2 3 3) 2 2 3 3)) (MapSM.mk (qp 2 3 2 2) 2 3 2 2)) (MapSM.mk (qp 2 3 2 3) 2 3 2 3)) (MapSM.mk (qp 2 3 3 2) 2 3 3 2)) (MapSM.mk (qp 2 3 3 3) 2 3 3 3)) (MapSM.mk (qp 3 2 2 2) 3 2 2 2)) (MapSM.mk (qp 3 2 2 3) 3 2 2 3)) (MapSM.mk (qp 3 2 3 2) 3 2 3 2)) (MapSM.mk (qp 3 2 3 3) 3 2 3 3)) (MapSM.mk (qp 3 3 2 2) 3 3 2 2)) (MapSM.mk (qp 3 3 2 3) 3 3 2 3)) (MapSM.mk (qp 3 3 3 2) 3 3 3 2)) (MapSM.mk (qp 3 3 3 3) 3 3 3 3)) (MapSM.mk a0 0 0 0 0))=false->
 qqp a0 0 0 0 0 3))/\
((qtv (qj (qj (qj (qj (qj (qj (qj (qj (qj (qj (qj (qj (qj (qj (qj (qj ([]:List MapSM) (MapSM.mk (qp 2 2 2 2) 2 2 2 2)) (MapSM.mk (qp 2 2 2 3) 2 2 2 3)) (MapSM.mk (qp 2 2 3 2) 2 2 3 2)) (MapSM.mk (qp 2 2 3 3) 2 2 3 3)) (MapSM.mk (qp 2 3 2 2) 2 3 2 2)) (MapSM.mk (qp 2 3 2 3) 2 3 2 3)) (MapSM.mk (qp 2 3 3 2) 2 3 3 2)) (MapSM.mk (qp 2 3 3 3) 2 3 3 3)) (MapSM.mk (qp 3 2 2 2) 3 2 2 2)) (MapSM.mk (qp 3 2 2 3) 3 2 2 3)) (MapSM.mk (qp 3 2 3 2) 3 2 3 2)) (MapSM.mk (qp 3 2 3 3) 3 2 3 3)) (MapSM.mk (qp 3 3 2 2) 3 3 2 2)) (MapSM.mk (qp 3 3 2 3) 3 3 2 3)) (MapSM.mk (qp 3 3 3 2) 3 3 3 2)) (MapSM.mk (qp 3 3 3 3) 3 3 3 3)) (MapSM.mk a0 0 0 0 0))=true->
 qqp a0 ((qix (qj (qj (qj (qj (qj (qj (qj (qj (qj (qj (qj (qj (qj (qj (qj (qj ([]:List MapSM) (MapSM.mk (qp 2 2 2 2) 2 2 2 2)) (MapSM.mk (qp 2 2 2 3) 2 2 2 3)) (MapSM.mk (qp 2 2 3 2) 2 2 3 2)) (MapSM.mk (qp 2 2 3 3) 2 2 3 3)) (MapSM.mk (qp 2 3 2 2) 2 3 2 2)) (MapSM.mk (qp 2 3 2 3) 2 3 2 3)) (MapSM.mk (qp 2 3 3 2) 2 3 3 2)) (MapSM.mk (qp 2 3 3 3) 2 3 3 3)) (MapSM.mk (qp 3 2 2 2) 3 2 2 2)) (MapSM.mk (qp 3 2 2 3) 3 2 2 3)) (MapSM.mk (qp 3 2 3 2) 3 2 3 2)) (MapSM.mk (qp 3 2 3 3) 3 2 3 3)) (MapSM.mk (qp 3 3 2 2) 3 3 2 2)) (MapSM.mk (qp 3 3 2 3) 3 3 2 3)) (MapSM.mk (qp 3 3 3 2) 3 3 3 2)) (MapSM.mk (qp 3 3 3 3) 3 3 3 3)) (MapSM.mk a0 0 0 0 0)).vMax) ((qix (qj (qj (qj (qj (qj (qj (qj (qj (qj (qj (qj (qj (qj (qj (qj (qj ([]:List MapSM) (MapSM.mk (qp 2 2 2 2) 2 2 2 2)) (MapSM.mk (qp 2 2 2 3) 2 2 2 3)) (MapSM.mk (qp 2 2 3 2) 2 2 3 2)) (MapSM.mk (qp 2 2 3 3) 2 2 3 3)) (MapSM.mk (qp 2 3 2 2) 2 3 2 2)) (MapSM.mk (qp 2 3 2 3) 2 3 2 3)) (MapSM.mk (qp 2 3 3 2) 2 3 3 2)) (MapSM.mk (qp 2 3 3 3) 2 3 3 3)) (MapSM.mk (qp 3 2 2 2) 3 2 2 2)) (MapSM.mk (qp 3 2 2 3) 3 2 2 3)) (MapSM.mk (qp 3 2 3 2) 3 2 3 2)) (MapSM.mk (qp 3 2 3 3) 3 2 3 3)) (MapSM.mk (qp 3 3 2 2) 3 3 2 2)) (MapSM.mk (qp 3 3 2 3) 3 3 2 3)) (MapSM.mk (qp 3 3 3 2) 3 3 3 2)) (MapSM.mk (qp 3 3 3 3) 3 3 3 3)) (MapSM.mk a0 0 0 0 0)).vMod) ((qix (qj (qj (qj (qj (qj (qj (qj (qj (qj (qj (qj (qj (qj (qj (qj (qj ([]:List MapSM) (MapSM.mk (qp 2 2 2 2) 2 2 2 2)) (MapSM.mk (qp 2 2 2 3) 2 2 2 3)) (MapSM.mk (qp 2 2 3 2) 2 2 3 2)) (MapSM.mk (qp 2 2 3 3) 2 2 3 3)) (MapSM.mk (qp 2 3 2 2) 2 3 2 2)) (MapSM.mk (qp 2 3 2 3) 2 3 2 3)) (MapSM.mk (qp 2 3 3 2) 2 3 3 2)) (MapSM.mk (qp 2 3 3 3) 2 3 3 3)) (MapSM.mk (qp 3 2 2 2) 3 2 2 2)) (MapSM.mk (qp 3 2 2 3) 3 2 2 3)) (MapSM.mk (qp 3 2 3 2) 3 2 3 2)) (MapSM.mk (qp 3 2 3 3) 3 2 3 3)) (MapSM.mk (qp 3 3 2 2) 3 3 2 2)) (MapSM.mk (qp 3 3 2 3) 3 3 2 3)) (MapSM.mk (qp 3 3 3 2) 3 3 3 2)) (MapSM.mk (qp 3 3 3 3) 3 3 3 3)) (MapSM.mk a0 0 0 0 0)).vTem) ((qix (qj (qj (qj (qj (qj (qj (qj (qj (qj (qj (qj (qj (qj (qj (qj (qj ([]:List MapSM) (MapSM.mk (qp 2 2 2 2) 2 2 2 2)) (MapSM.mk (qp 2 2 2 3) 2 2 2 3)) (MapSM.mk (qp 2 2 3 2) 2 2 3 2)) (MapSM.mk (qp 2 2 3 3) 2 2 3 3)) (MapSM.mk (qp 2 3 2 2) 2 3 2 2)) (MapSM.mk (qp 2 3 2 3) 2 3 2 3)) (MapSM.mk (qp 2 3 3 2) 2 3 3 2)) (MapSM.mk (qp 2 3 3 3) 2 3 3 3)) (MapSM.mk (qp 3 2 2 2) 3 2 2 2)) (MapSM.mk (qp 3 2 2 3) 3 2 2 3)) (MapSM.mk (qp 3 2 3 2) 3 2 3 2)) (MapSM.mk (qp 3 2 3 3) 3 2 3 3)) (MapSM.mk (qp 3 3 2 2) 3 3 2 2)) (MapSM.mk (qp 3 3 2 3) 3 3 2 3)) (MapSM.mk (qp 3 3 3 2) 3 3 3 2)) (MapSM.mk (qp 3 3 3 3) 3 3 3 3)) (MapSM.mk a0 0 0 0 0)).vPro) 0)
theorem q3d (a0:List UInt8):qau (qq XK (j7 qzo) (fun _ _=>False) (fun _ _=>0)) {cfg sp with ann:=qar [(78,58,.unroll 17)]} 6 78 [.str (a0)] (qqq a0)=qmn a0:=by kernel_rfl
def qzk:List (Nat×Ct KT):=[]
abbrev qqn (a0:List UInt8):PV KT:=.tuple [.int .i64 none (((qd a0).1)),.sb 0 false (((qd a0).2)) (((qd a0).2)=true) (((qd a0).2)=false)]
abbrev qml (a0:List UInt8):Prop:=
((a0=([]:List UInt8)->
((0:Int)=((qd a0).1))/\
(false=((qd a0).2))/\
 True))/\
(a0≠([]:List UInt8)->
(Wn 0 (ln a0))/\
(((bx a0 0)=48->
((1<(ln a0)->
((0:Int)=((qd a0).1))/\
(false=((qd a0).2))/\
 True))/\
((ln a0)<=1->
(qaz a0 0 0)/\
(∀ x3:Int,
(∀ x4:Int,
(qaz a0 x3 x4->
((x4<(ln a0)->
(Wn x4 (ln a0))/\
(((bx a0 x4)<48->
((0:Int)=((qd a0).1))/\
(false=((qd a0).2))/\
 True))/\
(48<=(bx a0 x4)->
(Wn x4 (ln a0))/\
((57<(bx a0 x4)->
((0:Int)=((qd a0).1))/\
(false=((qd a0).2))/\
 True))/\
((bx a0 x4)<=57->
(I64 (10 * x3))/\
(Wn x4 (ln a0))/\
(U8 ((bx a0 x4)-48))/\
(I64 ((bx a0 x4)-48))/\
(I64 ((10 * x3)+((bx a0 x4)-48)))/\
((1099511627776<((10 * x3)+((bx a0 x4)-48))->
((0:Int)=((qd a0).1))/\
(false=((qd a0).2))/\
 True))/\
(((10 * x3)+((bx a0 x4)-48))<=1099511627776->
(I64 (x4+1))/\
(qaz a0 ((10 * x3)+((bx a0 x4)-48)) (x4+1))/\
 qb0 a0 ((10 * x3)+((bx a0 x4)-48)) (x4+1)<qb0 a0 x3 x4)))))/\
((ln a0)<=x4->
((x3:Int)=((qd a0).1))/\
(true=((qd a0).2))/\
 True)))))))/\
((bx a0 0)≠48->
(qaz a0 0 0)/\
(∀ x2:Int,
(∀ x3:Int,
(qaz a0 x2 x3->
((x3<(ln a0)->
(Wn x3 (ln a0))/\
(((bx a0 x3)<48->
((0:Int)=((qd a0).1))/\
(false=((qd a0).2))/\
 True))/\
(48<=(bx a0 x3)->
(Wn x3 (ln a0))/\
((57<(bx a0 x3)->
((0:Int)=((qd a0).1))/\
(false=((qd a0).2))/\
 True))/\
((bx a0 x3)<=57->
(I64 (10 * x2))/\
(Wn x3 (ln a0))/\
(U8 ((bx a0 x3)-48))/\
(I64 ((bx a0 x3)-48))/\
(I64 ((10 * x2)+((bx a0 x3)-48)))/\
((1099511627776<((10 * x2)+((bx a0 x3)-48))->
((0:Int)=((qd a0).1))/\
(false=((qd a0).2))/\
 True))/\
(((10 * x2)+((bx a0 x3)-48))<=1099511627776->
(I64 (x3+1))/\
(qaz a0 ((10 * x2)+((bx a0 x3)-48)) (x3+1))/\
 qb0 a0 ((10 * x2)+((bx a0 x3)-48)) (x3+1)<qb0 a0 x2 x3)))))/\
((ln a0)<=x3->
((x2:Int)=((qd a0).1))/\
(true=((qd a0).2))/\
 True))))))
theorem q26 (a0:List UInt8):qau (qq XK (j7 qzk) (fun j ns=>match j,ns with | 0,[.i y0,.i y1]=>qaz a0 y0 y1 | _,_=>False) (fun j ns=>match j,ns with | 0,[.i y0,.i y1]=>qb0 a0 y0 y1 | _,_=>0)) {cfg sp with ann:=qar [(118,122,.inv 0 [.one 4 (.int .i64),.one 20 (.int .i64)] [])]} 3 118 [.str (a0)] (qqn a0)=qml a0:=by kernel_rfl
def qzs:List (Nat×Ct KT):=[(118,q0a)]
abbrev qqs (a0:List UInt8):PV KT:=.tuple [.int .i64 none (((z7 a0).1)),.sb 0 false (((z7 a0).2)) (((z7 a0).2)=true) (((z7 a0).2)=false)]
abbrev qmp (a0:List UInt8):Prop:=
(((ln ([45]:List UInt8))<=(ln a0)->
((0:Int)<=(ln ([45]:List UInt8))/\(ln ([45]:List UInt8))<=ln a0)/\
(((upto a0 (ln ([45]:List UInt8)))≠([45]:List UInt8)->
((ln a0<=1000000))/\
((((qd a0).2)=false->
((0:Int)=((z7 a0).1))/\
(false=((z7 a0).2))/\
 True))/\
(((qd a0).2)=true->
((((qd a0).1):Int)=((z7 a0).1))/\
(true=((z7 a0).2))/\
 True)))/\
((upto a0 (ln ([45]:List UInt8)))=([45]:List UInt8)->
((0:Int)<=(ln ([45]:List UInt8))/\(ln ([45]:List UInt8))<=ln a0)/\
((ln (fr a0 (ln ([45]:List UInt8)))<=1000000))/\
((((qd (fr a0 (ln ([45]:List UInt8)))).2)=false->
((0:Int)=((z7 a0).1))/\
(false=((z7 a0).2))/\
 True))/\
(((qd (fr a0 (ln ([45]:List UInt8)))).2)=true->
((((qd (fr a0 (ln ([45]:List UInt8)))).1)=0->
((0:Int)=((z7 a0).1))/\
(false=((z7 a0).2))/\
 True))/\
(((qd (fr a0 (ln ([45]:List UInt8)))).1)≠0->
(I64 (-((qd (fr a0 (ln ([45]:List UInt8)))).1)))/\
(((-((qd (fr a0 (ln ([45]:List UInt8)))).1)):Int)=((z7 a0).1))/\
(true=((z7 a0).2))/\
 True)))))/\
((ln a0)<(ln ([45]:List UInt8))->
((ln a0<=1000000))/\
((((qd a0).2)=false->
((0:Int)=((z7 a0).1))/\
(false=((z7 a0).2))/\
 True))/\
(((qd a0).2)=true->
((((qd a0).1):Int)=((z7 a0).1))/\
(true=((z7 a0).2))/\
 True))
theorem q3k (a0:List UInt8):qau (qq XK (j7 qzs) (fun _ _=>False) (fun _ _=>0)) {cfg sp with ann:=qar []} 3 136 [.str (a0)] (qqs a0)=qmp a0:=by kernel_rfl
def qzj:List (Nat×Ct KT):=[]
abbrev qqm (a0:List UInt8):PV KT:=.tuple [.int .i64 none (((qd a0).1)),.sb 0 false (((qd a0).2)) (((qd a0).2)=true) (((qd a0).2)=false)]
abbrev qmk (a0:List UInt8):Prop:=
((a0=([]:List UInt8)->
((0:Int)=((qd a0).1))/\
(false=((qd a0).2))/\
 True))/\
(a0≠([]:List UInt8)->
(Wn 0 (ln a0))/\
(((bx a0 0)=48->
((1<(ln a0)->
((0:Int)=((qd a0).1))/\
(false=((qd a0).2))/\
 True))/\
((ln a0)<=1->
(qay a0 0 0)/\
(∀ x3:Int,
(∀ x4:Int,
(qay a0 x3 x4->
((x4<(ln a0)->
(Wn x4 (ln a0))/\
((48<=(bx a0 x4)->
((57<(bx a0 x4)->
((0:Int)=((qd a0).1))/\
(false=((qd a0).2))/\
 True))/\
((bx a0 x4)<=57->
(I64 (10 * x3))/\
(Wn x4 (ln a0))/\
(U8 ((bx a0 x4)-48))/\
(I64 ((bx a0 x4)-48))/\
(I64 ((10 * x3)+((bx a0 x4)-48)))/\
((1099511627776<((10 * x3)+((bx a0 x4)-48))->
((0:Int)=((qd a0).1))/\
(false=((qd a0).2))/\
 True))/\
(((10 * x3)+((bx a0 x4)-48))<=1099511627776->
(I64 (x4+1))/\
(qay a0 ((10 * x3)+((bx a0 x4)-48)) (x4+1))/\
 qbz a0 ((10 * x3)+((bx a0 x4)-48)) (x4+1)<qbz a0 x3 x4))))/\
((bx a0 x4)<48->
((0:Int)=((qd a0).1))/\
(false=((qd a0).2))/\
 True)))/\
((ln a0)<=x4->
((x3:Int)=((qd a0).1))/\
(true=((qd a0).2))/\
 True)))))))/\
((bx a0 0)≠48->
(qay a0 0 0)/\
(∀ x2:Int,
(∀ x3:Int,
(qay a0 x2 x3->
((x3<(ln a0)->
(Wn x3 (ln a0))/\
((48<=(bx a0 x3)->
((57<(bx a0 x3)->
((0:Int)=((qd a0).1))/\
(false=((qd a0).2))/\
 True))/\
((bx a0 x3)<=57->
(I64 (10 * x2))/\
(Wn x3 (ln a0))/\
(U8 ((bx a0 x3)-48))/\
(I64 ((bx a0 x3)-48))/\
(I64 ((10 * x2)+((bx a0 x3)-48)))/\
((1099511627776<((10 * x2)+((bx a0 x3)-48))->
((0:Int)=((qd a0).1))/\
(false=((qd a0).2))/\
 True))/\
(((10 * x2)+((bx a0 x3)-48))<=1099511627776->
(I64 (x3+1))/\
(qay a0 ((10 * x2)+((bx a0 x3)-48)) (x3+1))/\
 qbz a0 ((10 * x2)+((bx a0 x3)-48)) (x3+1)<qbz a0 x2 x3))))/\
((bx a0 x3)<48->
((0:Int)=((qd a0).1))/\
(false=((qd a0).2))/\
 True)))/\
((ln a0)<=x3->
((x2:Int)=((qd a0).1))/\
(true=((qd a0).2))/\
 True))))))
theorem q23 (a0:List UInt8):qau (qq XK (j7 qzj) (fun j ns=>match j,ns with | 0,[.i y0,.i y1]=>qay a0 y0 y1 | _,_=>False) (fun j ns=>match j,ns with | 0,[.i y0,.i y1]=>qbz a0 y0 y1 | _,_=>0)) {cfg sp with ann:=qar [(101,122,.inv 0 [.one 4 (.int .i64),.one 5 (.int .i64)] [])]} 3 101 [.str (a0)] (qqm a0)=qmk a0:=by kernel_rfl
def qzr:List (Nat×Ct KT):=[(101,q5o)]
abbrev qqr (a0:List UInt8):PV KT:=.tuple [.int .i64 none (((z7 a0).1)),.sb 0 false (((z7 a0).2)) (((z7 a0).2)=true) (((z7 a0).2)=false)]
abbrev qmo (a0:List UInt8):Prop:=
((a0=([]:List UInt8)->
((ln a0<=1000000))/\
((((qd a0).1):Int)=((z7 a0).1))/\
(((qd a0).2)=((z7 a0).2))/\
 True))/\
(a0≠([]:List UInt8)->
(Wn 0 (ln a0))/\
(((bx a0 0)≠45->
((ln a0<=1000000))/\
((((qd a0).1):Int)=((z7 a0).1))/\
(((qd a0).2)=((z7 a0).2))/\
 True))/\
((bx a0 0)=45->
((0:Int)<=1/\1<=ln a0)/\
((ln (fr a0 1)<=1000000))/\
(I64 (-((qd (fr a0 1)).1)))/\
((((qd (fr a0 1)).2)=true->
(((-((qd (fr a0 1)).1)):Int)=((z7 a0).1))/\
((decide (0<((qd (fr a0 1)).1)))=((z7 a0).2))/\
 True))/\
(((qd (fr a0 1)).2)=false->
(((-((qd (fr a0 1)).1)):Int)=((z7 a0).1))/\
(false=((z7 a0).2))/\
 True)))
theorem q3h (a0:List UInt8):qau (qq XK (j7 qzr) (fun _ _=>False) (fun _ _=>0)) {cfg sp with ann:=qar []} 3 125 [.str (a0)] (qqr a0)=qmo a0:=by kernel_rfl
def qo9 (a0:List UInt8) (a1:Int) (r0:List UInt8) (r1:List UInt8) (r2:Bool):Prop:=
(r0=((qad a0 a1).1))/\
(r1=((qad a0 a1).2.1))/\
(r2=((qad a0 a1).2.2))/\
 True

def q7u:List (Nat×Ct KT):=[]
abbrev qv1 (a0:List UInt8) (a1:Int):PV KT:=.tuple [.str (((qad a0 a1).1)),.str (((qad a0 a1).2.1)),.sb 0 false (((qad a0 a1).2.2)) (((qad a0 a1).2.2)=true) (((qad a0 a1).2.2)=false)]
abbrev qsh (a0:List UInt8) (a1:Int):Prop:=
(qer a0 a1 0 0 0)/\
(∀ x0:Int,
(∀ x1:Int,
(∀ x2:Int,
(qer a0 a1 x0 x1 x2->
((x2<(ln a0)->
(Wn x2 (ln a0))/\
(((bx a0 x2)=a1->
(I64 (x1+1))/\
(I64 (x2+1))/\
(qer a0 a1 x2 (x1+1) (x2+1))/\
 qdk a0 a1 x2 (x1+1) (x2+1)<qdk a0 a1 x0 x1 x2))/\
((bx a0 x2)≠a1->
(I64 (x2+1))/\
(qer a0 a1 x0 x1 (x2+1))/\
 qdk a0 a1 x0 x1 (x2+1)<qdk a0 a1 x0 x1 x2)))/\
((ln a0)<=x2->
((x1≠1->
 qo9 a0 a1 ([]:List UInt8) ([]:List UInt8) false))/\
(x1=1->
((0:Int)<=x0/\x0<=ln a0)/\
(I64 (x0+1))/\
((0:Int)<=(x0+1)/\(x0+1)<=ln a0)/\
 qo9 a0 a1 (upto a0 x0) (fr a0 (x0+1)) true))))))
theorem zaa (a0:List UInt8) (a1:Int):qau (qq XK (j7 q7u) (fun j ns=>match j,ns with | 0,[.i y0,.i y1,.i y2]=>qer a0 a1 y0 y1 y2 | _,_=>False) (fun j ns=>match j,ns with | 0,[.i y0,.i y1,.i y2]=>qdk a0 a1 y0 y1 y2 | _,_=>0)) {cfg sp with ann:=qar [(100,58,.inv 0 [.one 7 (.int .i64),.one 8 (.int .i64),.one 9 (.int .i64)] [])]} 3 100 [.str (a0),.int .u8 none (a1)] (qv1 a0 a1)=qsh a0 a1:=by kernel_rfl
def qzf:List (Nat×Ct KT):=[]
abbrev qqj (a0:Int) (a1:Int) (a2:Int) (a3:Int):PV KT:=.int .i64 none ((jy a0 a1 a2 a3))
abbrev qmi (a0:Int) (a1:Int) (a2:Int) (a3:Int):Prop:=
(True)/\
(True)/\
(True)/\
(True)/\
(qcu a0 a1 a2 a3 0)/\
(∀ x0:Int,
(qcu a0 a1 a2 a3 x0->
((x0<(ln ([a0,a1,a2,a3]:List Int))->
(Wn x0 (ln ([a0,a1,a2,a3]:List Int)))/\
(((ix ([a0,a1,a2,a3]:List Int) x0)≠2->
(Wn x0 (ln ([a0,a1,a2,a3]:List Int)))/\
(((ix ([a0,a1,a2,a3]:List Int) x0)≠3->
((12:Int)=(jy a0 a1 a2 a3))/\
 True))/\
((ix ([a0,a1,a2,a3]:List Int) x0)=3->
(I64 (x0+1))/\
((a0:Int)=a0)/\
((a1:Int)=a1)/\
((a2:Int)=a2)/\
((a3:Int)=a3)/\
(qcu a0 a1 a2 a3 (x0+1))/\
 qby a0 a1 a2 a3 (x0+1)<qby a0 a1 a2 a3 x0)))/\
((ix ([a0,a1,a2,a3]:List Int) x0)=2->
(I64 (x0+1))/\
((a0:Int)=a0)/\
((a1:Int)=a1)/\
((a2:Int)=a2)/\
((a3:Int)=a3)/\
(qcu a0 a1 a2 a3 (x0+1))/\
 qby a0 a1 a2 a3 (x0+1)<qby a0 a1 a2 a3 x0)))/\
((ln ([a0,a1,a2,a3]:List Int))<=x0->
((0:Int)=(jy a0 a1 a2 a3))/\
 True)))
theorem q2u (a0:Int) (a1:Int) (a2:Int) (a3:Int):qau (qq XK (j7 qzf) (fun j ns=>match j,ns with | 0,[.i y0]=>qcu a0 a1 a2 a3 y0 | _,_=>False) (fun j ns=>match j,ns with | 0,[.i y0]=>qby a0 a1 a2 a3 y0 | _,_=>0)) {cfg sp with ann:=qar [(92,58,.inv 0 [.one 4 (.int .i64)] [])]} 3 92 [.agg [.int .i64 none (a0),.int .i64 none (a1),.int .i64 none (a2),.int .i64 none (a3)]] (qqj a0 a1 a2 a3)=qmi a0 a1 a2 a3:=by kernel_rfl
def q3l:List (Nat×Ct KT):=[(92,zfl)]
abbrev qsm (a0:Int) (a1:Int) (a2:Int) (a3:Int):PV KT:=.tuple [.str (((z6 a0 a1 a2 a3).1)),.int .i64 none (((z6 a0 a1 a2 a3).2))]
abbrev qpa (a0:Int) (a1:Int) (a2:Int) (a3:Int):Prop:=
(True)/\
(((jy a0 a1 a2 a3)≠0->
(([]:List UInt8)=((z6 a0 a1 a2 a3).1))/\
(((jy a0 a1 a2 a3):Int)=((z6 a0 a1 a2 a3).2))/\
 True))/\
((jy a0 a1 a2 a3)=0->
((a0=3->
(I64 (48+a0))/\
(U8 (48+a0))/\
(I64 (48+a1))/\
(U8 (48+a1))/\
(U8 ((48+a0)))/\
(U8 ((48+a1)))/\
((a2=3->
(qx (List.length [(UInt8.ofNat (Int.toNat ((48+a0)))),(UInt8.ofNat (Int.toNat ((48+a1))))]+List.length ([79]:List UInt8)))/\
((a3=3->
(qx (List.length ([(UInt8.ofNat (Int.toNat ((48+a0)))),(UInt8.ofNat (Int.toNat ((48+a1))))]++([79]:List UInt8))+List.length ([46]:List UInt8)))/\
((([(UInt8.ofNat (Int.toNat ((48+a0)))),(UInt8.ofNat (Int.toNat ((48+a1))))]++([79]:List UInt8))++([46]:List UInt8))=((z6 a0 a1 a2 a3).1))/\
((0:Int)=((z6 a0 a1 a2 a3).2))/\
 True))/\
(a3≠3->
(([(UInt8.ofNat (Int.toNat ((48+a0)))),(UInt8.ofNat (Int.toNat ((48+a1))))]++([79]:List UInt8))=((z6 a0 a1 a2 a3).1))/\
((0:Int)=((z6 a0 a1 a2 a3).2))/\
 True)))/\
(a2≠3->
(qx (List.length [(UInt8.ofNat (Int.toNat ((48+a0)))),(UInt8.ofNat (Int.toNat ((48+a1))))]+List.length ([67]:List UInt8)))/\
((a3=3->
(qx (List.length ([(UInt8.ofNat (Int.toNat ((48+a0)))),(UInt8.ofNat (Int.toNat ((48+a1))))]++([67]:List UInt8))+List.length ([46]:List UInt8)))/\
((([(UInt8.ofNat (Int.toNat ((48+a0)))),(UInt8.ofNat (Int.toNat ((48+a1))))]++([67]:List UInt8))++([46]:List UInt8))=((z6 a0 a1 a2 a3).1))/\
((0:Int)=((z6 a0 a1 a2 a3).2))/\
 True))/\
(a3≠3->
(([(UInt8.ofNat (Int.toNat ((48+a0)))),(UInt8.ofNat (Int.toNat ((48+a1))))]++([67]:List UInt8))=((z6 a0 a1 a2 a3).1))/\
((0:Int)=((z6 a0 a1 a2 a3).2))/\
 True))))/\
(a0≠3->
((a1=3->
(I64 (48+a0))/\
(U8 (48+a0))/\
(I64 (48+a1))/\
(U8 (48+a1))/\
(U8 ((48+a0)))/\
(U8 ((48+a1)))/\
((a2=3->
(qx (List.length [(UInt8.ofNat (Int.toNat ((48+a0)))),(UInt8.ofNat (Int.toNat ((48+a1))))]+List.length ([79]:List UInt8)))/\
((a3=3->
(qx (List.length ([(UInt8.ofNat (Int.toNat ((48+a0)))),(UInt8.ofNat (Int.toNat ((48+a1))))]++([79]:List UInt8))+List.length ([46]:List UInt8)))/\
((([(UInt8.ofNat (Int.toNat ((48+a0)))),(UInt8.ofNat (Int.toNat ((48+a1))))]++([79]:List UInt8))++([46]:List UInt8))=((z6 a0 a1 a2 a3).1))/\
((0:Int)=((z6 a0 a1 a2 a3).2))/\
 True))/\
(a3≠3->
(([(UInt8.ofNat (Int.toNat ((48+a0)))),(UInt8.ofNat (Int.toNat ((48+a1))))]++([79]:List UInt8))=((z6 a0 a1 a2 a3).1))/\
((0:Int)=((z6 a0 a1 a2 a3).2))/\
 True)))/\
(a2≠3->
(qx (List.length [(UInt8.ofNat (Int.toNat ((48+a0)))),(UInt8.ofNat (Int.toNat ((48+a1))))]+List.length ([67]:List UInt8)))/\
((a3=3->
(qx (List.length ([(UInt8.ofNat (Int.toNat ((48+a0)))),(UInt8.ofNat (Int.toNat ((48+a1))))]++([67]:List UInt8))+List.length ([46]:List UInt8)))/\
((([(UInt8.ofNat (Int.toNat ((48+a0)))),(UInt8.ofNat (Int.toNat ((48+a1))))]++([67]:List UInt8))++([46]:List UInt8))=((z6 a0 a1 a2 a3).1))/\
((0:Int)=((z6 a0 a1 a2 a3).2))/\
 True))/\
(a3≠3->
(([(UInt8.ofNat (Int.toNat ((48+a0)))),(UInt8.ofNat (Int.toNat ((48+a1))))]++([67]:List UInt8))=((z6 a0 a1 a2 a3).1))/\
((0:Int)=((z6 a0 a1 a2 a3).2))/\
 True))))/\
(a1≠3->
((a2=3->
(qx (List.length ([]:List UInt8)+List.length ([79]:List UInt8)))/\
((a3=3->
(qx (List.length (([]:List UInt8)++([79]:List UInt8))+List.length ([46]:List UInt8)))/\
(((([]:List UInt8)++([79]:List UInt8))++([46]:List UInt8))=((z6 a0 a1 a2 a3).1))/\
((0:Int)=((z6 a0 a1 a2 a3).2))/\
 True))/\
(a3≠3->
((([]:List UInt8)++([79]:List UInt8))=((z6 a0 a1 a2 a3).1))/\
((0:Int)=((z6 a0 a1 a2 a3).2))/\
 True)))/\
(a2≠3->
(qx (List.length ([]:List UInt8)+List.length ([67]:List UInt8)))/\
((a3=3->
(qx (List.length (([]:List UInt8)++([67]:List UInt8))+List.length ([46]:List UInt8)))/\
(((([]:List UInt8)++([67]:List UInt8))++([46]:List UInt8))=((z6 a0 a1 a2 a3).1))/\
((0:Int)=((z6 a0 a1 a2 a3).2))/\
 True))/\
(a3≠3->
((([]:List UInt8)++([67]:List UInt8))=((z6 a0 a1 a2 a3).1))/\
((0:Int)=((z6 a0 a1 a2 a3).2))/\
 True)))))
theorem q7z (a0:Int) (a1:Int) (a2:Int) (a3:Int):qau (qq XK (j7 q3l) (fun _ _=>False) (fun _ _=>0)) {cfg sp with ann:=qar []} 3 39 [.agg [.int .i64 none (a0),.int .i64 none (a1),.int .i64 none (a2),.int .i64 none (a3)]] (qsm a0 a1 a2 a3)=qpa a0 a1 a2 a3:=by kernel_rfl
def qr4 (a0:Int) (r0:Int) (r1:Int) (r2:Int) (r3:Int) (r4:Int):Prop:=
((r0:Int)=((ofM a0).1))/\
((r1:Int)=((ofM a0).2.1))/\
((r2:Int)=((ofM a0).2.2.1))/\
((r3:Int)=((ofM a0).2.2.2))/\
((r4:Int)=((0:Int)))/\
 True

def zeq:List (Nat×Ct KT):=[]
abbrev q5d (a0:Int):PV KT:=.tuple [.agg [.int .i64 none (((ofM a0).1)),.int .i64 none (((ofM a0).2.1)),.int .i64 none (((ofM a0).2.2.1)),.int .i64 none (((ofM a0).2.2.2))],.int .i64 none (((0:Int)))]
abbrev q27 (a0:Int):Prop:=
((a0<0->
 qr4 a0 0 0 0 0 2))/\
(0<=a0->
((15<a0->
 qr4 a0 0 0 0 0 2))/\
(a0<=15->
((8:Int)≠0/\I64 (Int.tdiv a0 8))/\
(I64 (2+(Int.tdiv a0 8)))/\
((4:Int)≠0/\I64 (Int.tdiv a0 4))/\
((2:Int)≠0)/\
(I64 (2+(Int.tmod (Int.tdiv a0 4) 2)))/\
((2:Int)≠0/\I64 (Int.tdiv a0 2))/\
((2:Int)≠0)/\
(I64 (2+(Int.tmod (Int.tdiv a0 2) 2)))/\
((2:Int)≠0)/\
(I64 (2+(Int.tmod a0 2)))/\
 qr4 a0 (2+(Int.tdiv a0 8)) (2+(Int.tmod (Int.tdiv a0 4) 2)) (2+(Int.tmod (Int.tdiv a0 2) 2)) (2+(Int.tmod a0 2)) 0))
theorem zh7 (a0:Int):qau (qq XK (j7 zeq) (fun _ _=>False) (fun _ _=>0)) {cfg sp with ann:=qar []} 3 140 [.int .i64 none (a0)] (q5d a0)=q27 a0:=by kernel_rfl
def qke (a0:List UInt8) (r0:Int) (r1:Int) (r2:Int) (r3:Int) (r4:Int):Prop:=
((r0:Int)=((za a0).1.1))/\
((r1:Int)=((za a0).1.2.1))/\
((r2:Int)=((za a0).1.2.2.1))/\
((r3:Int)=((za a0).1.2.2.2))/\
((r4:Int)=((za a0).2))/\
 True

def qzn:List (Nat×Ct KT):=[(140,za9),(39,zfe)]
abbrev qqo (a0:List UInt8):PV KT:=.tuple [.agg [.int .i64 none (((za a0).1.1)),.int .i64 none (((za a0).1.2.1)),.int .i64 none (((za a0).1.2.2.1)),.int .i64 none (((za a0).1.2.2.2))],.int .i64 none (((za a0).2))]
abbrev qmm (a0:List UInt8):Prop:=
(qdy a0 0)/\
(∀ x0:Int,
(qdy a0 x0->
((x0<16->
((0<=x0/\x0<=15))/\
(True)/\
((((z6 ((ofM x0).1) ((ofM x0).2.1) ((ofM x0).2.2.1) ((ofM x0).2.2.2)).1)=a0->
 qke a0 ((ofM x0).1) ((ofM x0).2.1) ((ofM x0).2.2.1) ((ofM x0).2.2.2) 0))/\
(((z6 ((ofM x0).1) ((ofM x0).2.1) ((ofM x0).2.2.1) ((ofM x0).2.2.2)).1)≠a0->
(I64 (x0+1))/\
(qdy a0 (x0+1))/\
 qfe a0 (x0+1)<qfe a0 x0)))/\
(16<=x0->
 qke a0 0 0 0 0 3)))
theorem q3a (a0:List UInt8):qau (qq XK (j7 qzn) (fun j ns=>match j,ns with | 0,[.i y0]=>qdy a0 y0 | _,_=>False) (fun j ns=>match j,ns with | 0,[.i y0]=>qfe a0 y0 | _,_=>0)) {cfg sp with ann:=qar [(124,26,.inv 0 [.one 4 (.int .i64)] [])]} 6 124 [.str (a0)] (qqo a0)=qmm a0:=by kernel_rfl
def qsg:List (Nat×Ct KT):=[(137,za7)]
abbrev qkc (a0:List UInt8) (a1:Int):PV KT:=.int .i64 none ((zq a0 a1))
abbrev ql4 (a0:List UInt8) (a1:Int):Prop:=
(True)/\
(((zq a0 a1):Int)=(zq a0 a1))/\
 True
theorem qvc (a0:List UInt8) (a1:Int):qau (qq XK (j7 qsg) (fun _ _=>False) (fun _ _=>0)) {cfg sp with ann:=qar []} 3 77 [.str (a0),.int .u8 none (a1)] (qkc a0 a1)=ql4 a0 a1:=by kernel_rfl
def q9w:List (Nat×Ct KT):=[]
abbrev qxl (a0:List UInt8) (a1:Int):PV KT:=.tuple [.str (((qe a0 a1).1)),.sb 0 false (((qe a0 a1).2)) (((qe a0 a1).2)=true) (((qe a0 a1).2)=false)]
abbrev quy (a0:List UInt8) (a1:Int):Prop:=
((a0≠([]:List UInt8)->
(Wn 0 (ln a0))/\
(((bx a0 0)=a1->
((0:Int)<=1/\1<=ln a0)/\
((fr a0 1)=((qe a0 a1).1))/\
(true=((qe a0 a1).2))/\
 True))/\
((bx a0 0)≠a1->
(a0=((qe a0 a1).1))/\
(false=((qe a0 a1).2))/\
 True)))/\
(a0=([]:List UInt8)->
(a0=((qe a0 a1).1))/\
(false=((qe a0 a1).2))/\
 True)
theorem zd8 (a0:List UInt8) (a1:Int):qau (qq XK (j7 q9w) (fun _ _=>False) (fun _ _=>0)) {cfg sp with ann:=qar []} 3 123 [.str (a0),.int .u8 none (a1)] (qxl a0 a1)=quy a0 a1:=by kernel_rfl
def qzi:List (Nat×Ct KT):=[]
abbrev qql (a0:Int):PV KT:=.tuple [.str (((qi0 a0).1)),.int .i64 none (((qi0 a0).2))]
abbrev qmj (a0:Int):Prop:=
((a0<1->
(([]:List UInt8)=((qi0 a0).1))/\
((2:Int)=((qi0 a0).2))/\
 True))/\
(1<=a0->
((8<a0->
(([]:List UInt8)=((qi0 a0).1))/\
((2:Int)=((qi0 a0).2))/\
 True))/\
(a0<=8->
(I64 (a0-1))/\
((0:Int)<=(a0-1)/\((a0-1):Int)<=a0/\a0<=ln ([88,76,66,83,77,81,70,90]:List UInt8))/\
((sub ([88,76,66,83,77,81,70,90]:List UInt8) (a0-1) a0)=((qi0 a0).1))/\
((0:Int)=((qi0 a0).2))/\
 True))
theorem q20 (a0:Int):qau (qq XK (j7 qzi) (fun _ _=>False) (fun _ _=>0)) {cfg sp with ann:=qar []} 3 27 [.int .i64 none (a0)] (qql a0)=qmj a0:=by kernel_rfl
def q3n:List (Nat×Ct KT):=[]
abbrev qso (a0:List UInt8):PV KT:=.tuple [.int .i64 none (((jf a0).1)),.int .i64 none (((jf a0).2))]
abbrev qpc (a0:List UInt8):Prop:=
((0:Int)<=0/\(0:Int)<=1/\1<=ln ([88,76,66,83,77,81,70,90]:List UInt8))/\
((a0=(sub ([88,76,66,83,77,81,70,90]:List UInt8) 0 1)->
((1:Int)=((jf a0).1))/\
((0:Int)=((jf a0).2))/\
 True))/\
(a0≠(sub ([88,76,66,83,77,81,70,90]:List UInt8) 0 1)->
((0:Int)<=1/\(1:Int)<=2/\2<=ln ([88,76,66,83,77,81,70,90]:List UInt8))/\
((a0=(sub ([88,76,66,83,77,81,70,90]:List UInt8) 1 2)->
((2:Int)=((jf a0).1))/\
((0:Int)=((jf a0).2))/\
 True))/\
(a0≠(sub ([88,76,66,83,77,81,70,90]:List UInt8) 1 2)->
((0:Int)<=2/\(2:Int)<=3/\3<=ln ([88,76,66,83,77,81,70,90]:List UInt8))/\
((a0=(sub ([88,76,66,83,77,81,70,90]:List UInt8) 2 3)->
((3:Int)=((jf a0).1))/\
((0:Int)=((jf a0).2))/\
 True))/\
(a0≠(sub ([88,76,66,83,77,81,70,90]:List UInt8) 2 3)->
((0:Int)<=3/\(3:Int)<=4/\4<=ln ([88,76,66,83,77,81,70,90]:List UInt8))/\
((a0=(sub ([88,76,66,83,77,81,70,90]:List UInt8) 3 4)->
((4:Int)=((jf a0).1))/\
((0:Int)=((jf a0).2))/\
 True))/\
(a0≠(sub ([88,76,66,83,77,81,70,90]:List UInt8) 3 4)->
((0:Int)<=4/\(4:Int)<=5/\5<=ln ([88,76,66,83,77,81,70,90]:List UInt8))/\
((a0=(sub ([88,76,66,83,77,81,70,90]:List UInt8) 4 5)->
((5:Int)=((jf a0).1))/\
((0:Int)=((jf a0).2))/\
 True))/\
(a0≠(sub ([88,76,66,83,77,81,70,90]:List UInt8) 4 5)->
((0:Int)<=5/\(5:Int)<=6/\6<=ln ([88,76,66,83,77,81,70,90]:List UInt8))/\
((a0=(sub ([88,76,66,83,77,81,70,90]:List UInt8) 5 6)->
((6:Int)=((jf a0).1))/\
((0:Int)=((jf a0).2))/\
 True))/\
(a0≠(sub ([88,76,66,83,77,81,70,90]:List UInt8) 5 6)->
((0:Int)<=6/\(6:Int)<=7/\7<=ln ([88,76,66,83,77,81,70,90]:List UInt8))/\
((a0=(sub ([88,76,66,83,77,81,70,90]:List UInt8) 6 7)->
((7:Int)=((jf a0).1))/\
((0:Int)=((jf a0).2))/\
 True))/\
(a0≠(sub ([88,76,66,83,77,81,70,90]:List UInt8) 6 7)->
((0:Int)<=7/\(7:Int)<=8/\8<=ln ([88,76,66,83,77,81,70,90]:List UInt8))/\
((a0=(sub ([88,76,66,83,77,81,70,90]:List UInt8) 7 8)->
((8:Int)=((jf a0).1))/\
((0:Int)=((jf a0).2))/\
 True))/\
(a0≠(sub ([88,76,66,83,77,81,70,90]:List UInt8) 7 8)->
((0:Int)=((jf a0).1))/\
((3:Int)=((jf a0).2))/\
 True))))))))
theorem q75 (a0:List UInt8):qau (qq XK (j7 q3n) (fun _ _=>False) (fun _ _=>0)) {cfg sp with ann:=qar [(29,26,.unroll 9)]} 3 29 [.str (a0)] (qso a0)=qpc a0:=by kernel_rfl
def zbb (a0:Int):Ct KT:=([.one (.int .i64)],fun ns=>match ns with
| [.i b0]=>some (((-100<=b0/\b0<=100))/\((if b0<0 then (1000:Nat) else Int.toNat b0))<((if a0<0 then (1000:Nat) else Int.toNat a0)),.str ((zb b0)))
| _=>none)
def q0e (a0:Int):List (Nat×Ct KT):=[(40,zbb a0)]
abbrev qku (a0:Int):PV KT:=.str ((zb a0))
abbrev qmw (a0:Int):Prop:=
((a0<0->
(I64 (-a0))/\
(((-100<=(-a0)/\(-a0)<=100))/\((if (-a0)<0 then (1000:Nat) else Int.toNat (-a0)))<((if a0<0 then (1000:Nat) else Int.toNat a0)))/\
(qx (List.length ([45]:List UInt8)+List.length (zb (-a0))))/\
((([45]:List UInt8)++(zb (-a0)))=(zb a0))/\
 True))/\
(0<=a0->
((9<a0->
((10:Int)≠0/\I64 (Int.tdiv a0 10))/\
(((-100<=(Int.tdiv a0 10)/\(Int.tdiv a0 10)<=100))/\((if (Int.tdiv a0 10)<0 then (1000:Nat) else Int.toNat (Int.tdiv a0 10)))<((if a0<0 then (1000:Nat) else Int.toNat a0)))/\
((10:Int)≠0)/\
(((-100<=(Int.tmod a0 10)/\(Int.tmod a0 10)<=100))/\((if (Int.tmod a0 10)<0 then (1000:Nat) else Int.toNat (Int.tmod a0 10)))<((if a0<0 then (1000:Nat) else Int.toNat a0)))/\
(qx (List.length (zb (Int.tdiv a0 10))+List.length (zb (Int.tmod a0 10))))/\
(((zb (Int.tdiv a0 10))++(zb (Int.tmod a0 10)))=(zb a0))/\
 True))/\
(a0<=9->
(I64 (a0+1))/\
((0:Int)<=a0/\(a0:Int)<=(a0+1)/\(a0+1)<=ln ([48,49,50,51,52,53,54,55,56,57]:List UInt8))/\
((sub ([48,49,50,51,52,53,54,55,56,57]:List UInt8) a0 (a0+1))=(zb a0))/\
 True))
theorem q30 (a0:Int):qau (qq XK (j7 (q0e a0)) (fun _ _=>False) (fun _ _=>0)) {cfg sp with ann:=qar []} 3 40 [.int .i64 none (a0)] (qku a0)=qmw a0:=by kernel_rfl
def q8n:List (Nat×Ct KT):=[(40,zff)]
abbrev qwo (a0:Int) (a1:Int) (a2:Int) (a3:Int) (a4:Bool) (a5:Int) (a6:Bool) (a7:Bool) (a8:Int) (a9:Int) (a10:Int) (a11:Int) (a12:Bool) (a13:Int) (a14:Int) (a15:Int) (a16:Int):PV KT:=.str ((j6 (Sign.mk a0 a1 a2 a3 a4 a5 a6 a7 a8 a9 a10 a11 a12 a13 a14 a15 a16)))
abbrev qtw (a0:Int) (a1:Int) (a2:Int) (a3:Int) (a4:Bool) (a5:Int) (a6:Bool) (a7:Bool) (a8:Int) (a9:Int) (a10:Int) (a11:Int) (a12:Bool) (a13:Int) (a14:Int) (a15:Int) (a16:Int):Prop:=
((-100<=a2/\a2<=100))/\
((a3=(-1)->
(qx (List.length (zb a2)+List.length ([98]:List UInt8)))/\
((a4=true->
(qx (List.length ((zb a2)++([98]:List UInt8))+List.length ([42]:List UInt8)))/\
((((zb a2)++([98]:List UInt8))++([42]:List UInt8))=(j6 (Sign.mk a0 a1 a2 a3 a4 a5 a6 a7 a8 a9 a10 a11 a12 a13 a14 a15 a16)))/\
 True))/\
(a4=false->
(((zb a2)++([98]:List UInt8))=(j6 (Sign.mk a0 a1 a2 a3 a4 a5 a6 a7 a8 a9 a10 a11 a12 a13 a14 a15 a16)))/\
 True)))/\
(a3≠(-1)->
((a3=1->
(qx (List.length (zb a2)+List.length ([35]:List UInt8)))/\
((a4=true->
(qx (List.length ((zb a2)++([35]:List UInt8))+List.length ([42]:List UInt8)))/\
((((zb a2)++([35]:List UInt8))++([42]:List UInt8))=(j6 (Sign.mk a0 a1 a2 a3 a4 a5 a6 a7 a8 a9 a10 a11 a12 a13 a14 a15 a16)))/\
 True))/\
(a4=false->
(((zb a2)++([35]:List UInt8))=(j6 (Sign.mk a0 a1 a2 a3 a4 a5 a6 a7 a8 a9 a10 a11 a12 a13 a14 a15 a16)))/\
 True)))/\
(a3≠1->
((a3=2->
(qx (List.length (zb a2)+List.length ([110]:List UInt8)))/\
((a4=true->
(qx (List.length ((zb a2)++([110]:List UInt8))+List.length ([42]:List UInt8)))/\
((((zb a2)++([110]:List UInt8))++([42]:List UInt8))=(j6 (Sign.mk a0 a1 a2 a3 a4 a5 a6 a7 a8 a9 a10 a11 a12 a13 a14 a15 a16)))/\
 True))/\
(a4=false->
(((zb a2)++([110]:List UInt8))=(j6 (Sign.mk a0 a1 a2 a3 a4 a5 a6 a7 a8 a9 a10 a11 a12 a13 a14 a15 a16)))/\
 True)))/\
(a3≠2->
((a4=true->
(qx (List.length (zb a2)+List.length ([42]:List UInt8)))/\
(((zb a2)++([42]:List UInt8))=(j6 (Sign.mk a0 a1 a2 a3 a4 a5 a6 a7 a8 a9 a10 a11 a12 a13 a14 a15 a16)))/\
 True))/\
(a4=false->
((zb a2)=(j6 (Sign.mk a0 a1 a2 a3 a4 a5 a6 a7 a8 a9 a10 a11 a12 a13 a14 a15 a16)))/\
 True))))
theorem zbs (a0:Int) (a1:Int) (a2:Int) (a3:Int) (a4:Bool) (a5:Int) (a6:Bool) (a7:Bool) (a8:Int) (a9:Int) (a10:Int) (a11:Int) (a12:Bool) (a13:Int) (a14:Int) (a15:Int) (a16:Int):qau (qq XK (j7 q8n) (fun _ _=>False) (fun _ _=>0)) {cfg sp with ann:=qar []} 3 37 [.agg [.int .i64 none (a0),.int .i64 none (a1),.int .i64 none (a2),.int .i64 none (a3),.sb 0 false (a4) (a4=true) (a4=false),.int .i64 none (a5),.sb 0 false (a6) (a6=true) (a6=false),.sb 0 false (a7) (a7=true) (a7=false),.int .i64 none (a8),.int .i64 none (a9),.int .i64 none (a10),.int .i64 none (a11),.sb 0 false (a12) (a12=true) (a12=false),.int .i64 none (a13),.int .i64 none (a14),.int .i64 none (a15),.int .i64 none (a16)]] (qwo a0 a1 a2 a3 a4 a5 a6 a7 a8 a9 a10 a11 a12 a13 a14 a15 a16)=qtw a0 a1 a2 a3 a4 a5 a6 a7 a8 a9 a10 a11 a12 a13 a14 a15 a16:=by kernel_rfl
def q91:List (Nat×Ct KT):=[(37,zfc)]
abbrev qxn (a0:Int) (a1:Int) (a2:Int) (a3:Int) (a4:Bool) (a5:Int) (a6:Bool) (a7:Bool) (a8:Int) (a9:Int) (a10:Int) (a11:Int) (a12:Bool) (a13:Int) (a14:Int) (a15:Int) (a16:Int):PV KT:=.str ((qd1 (Sign.mk a0 a1 a2 a3 a4 a5 a6 a7 a8 a9 a10 a11 a12 a13 a14 a15 a16)))
abbrev qu0 (a0:Int) (a1:Int) (a2:Int) (a3:Int) (a4:Bool) (a5:Int) (a6:Bool) (a7:Bool) (a8:Int) (a9:Int) (a10:Int) (a11:Int) (a12:Bool) (a13:Int) (a14:Int) (a15:Int) (a16:Int):Prop:=
((-100<=a2/\a2<=100))/\
(qx (List.length ([116]:List UInt8)+List.length (j6 (Sign.mk a0 a1 a2 a3 a4 a5 a6 a7 a8 a9 a10 a11 a12 a13 a14 a15 a16))))/\
(True)/\
(True)/\
(True)/\
(True)/\
(Wn a5 (ln [([]:List UInt8),([94]:List UInt8),([118]:List UInt8),([62]:List UInt8)]))/\
(qx (List.length (([116]:List UInt8)++(j6 (Sign.mk a0 a1 a2 a3 a4 a5 a6 a7 a8 a9 a10 a11 a12 a13 a14 a15 a16)))+List.length (ix [([]:List UInt8),([94]:List UInt8),([118]:List UInt8),([62]:List UInt8)] a5)))/\
((a6=true->
(qx (List.length ((([116]:List UInt8)++(j6 (Sign.mk a0 a1 a2 a3 a4 a5 a6 a7 a8 a9 a10 a11 a12 a13 a14 a15 a16)))++(ix [([]:List UInt8),([94]:List UInt8),([118]:List UInt8),([62]:List UInt8)] a5))+List.length ([126]:List UInt8)))/\
((a7=true->
(qx (List.length (((([116]:List UInt8)++(j6 (Sign.mk a0 a1 a2 a3 a4 a5 a6 a7 a8 a9 a10 a11 a12 a13 a14 a15 a16)))++(ix [([]:List UInt8),([94]:List UInt8),([118]:List UInt8),([62]:List UInt8)] a5))++([126]:List UInt8))+List.length ([33]:List UInt8)))/\
(((((([116]:List UInt8)++(j6 (Sign.mk a0 a1 a2 a3 a4 a5 a6 a7 a8 a9 a10 a11 a12 a13 a14 a15 a16)))++(ix [([]:List UInt8),([94]:List UInt8),([118]:List UInt8),([62]:List UInt8)] a5))++([126]:List UInt8))++([33]:List UInt8))=(qd1 (Sign.mk a0 a1 a2 a3 a4 a5 a6 a7 a8 a9 a10 a11 a12 a13 a14 a15 a16)))/\
 True))/\
(a7=false->
((((([116]:List UInt8)++(j6 (Sign.mk a0 a1 a2 a3 a4 a5 a6 a7 a8 a9 a10 a11 a12 a13 a14 a15 a16)))++(ix [([]:List UInt8),([94]:List UInt8),([118]:List UInt8),([62]:List UInt8)] a5))++([126]:List UInt8))=(qd1 (Sign.mk a0 a1 a2 a3 a4 a5 a6 a7 a8 a9 a10 a11 a12 a13 a14 a15 a16)))/\
 True)))/\
(a6=false->
((a7=true->
(qx (List.length ((([116]:List UInt8)++(j6 (Sign.mk a0 a1 a2 a3 a4 a5 a6 a7 a8 a9 a10 a11 a12 a13 a14 a15 a16)))++(ix [([]:List UInt8),([94]:List UInt8),([118]:List UInt8),([62]:List UInt8)] a5))+List.length ([33]:List UInt8)))/\
((((([116]:List UInt8)++(j6 (Sign.mk a0 a1 a2 a3 a4 a5 a6 a7 a8 a9 a10 a11 a12 a13 a14 a15 a16)))++(ix [([]:List UInt8),([94]:List UInt8),([118]:List UInt8),([62]:List UInt8)] a5))++([33]:List UInt8))=(qd1 (Sign.mk a0 a1 a2 a3 a4 a5 a6 a7 a8 a9 a10 a11 a12 a13 a14 a15 a16)))/\
 True))/\
(a7=false->
(((([116]:List UInt8)++(j6 (Sign.mk a0 a1 a2 a3 a4 a5 a6 a7 a8 a9 a10 a11 a12 a13 a14 a15 a16)))++(ix [([]:List UInt8),([94]:List UInt8),([118]:List UInt8),([62]:List UInt8)] a5))=(qd1 (Sign.mk a0 a1 a2 a3 a4 a5 a6 a7 a8 a9 a10 a11 a12 a13 a14 a15 a16)))/\
 True))
theorem zeb (a0:Int) (a1:Int) (a2:Int) (a3:Int) (a4:Bool) (a5:Int) (a6:Bool) (a7:Bool) (a8:Int) (a9:Int) (a10:Int) (a11:Int) (a12:Bool) (a13:Int) (a14:Int) (a15:Int) (a16:Int):qau (qq XK (j7 q91) (fun _ _=>False) (fun _ _=>0)) {cfg sp with ann:=qar []} 3 38 [.agg [.int .i64 none (a0),.int .i64 none (a1),.int .i64 none (a2),.int .i64 none (a3),.sb 0 false (a4) (a4=true) (a4=false),.int .i64 none (a5),.sb 0 false (a6) (a6=true) (a6=false),.sb 0 false (a7) (a7=true) (a7=false),.int .i64 none (a8),.int .i64 none (a9),.int .i64 none (a10),.int .i64 none (a11),.sb 0 false (a12) (a12=true) (a12=false),.int .i64 none (a13),.int .i64 none (a14),.int .i64 none (a15),.int .i64 none (a16)]] (qxn a0 a1 a2 a3 a4 a5 a6 a7 a8 a9 a10 a11 a12 a13 a14 a15 a16)=qu0 a0 a1 a2 a3 a4 a5 a6 a7 a8 a9 a10 a11 a12 a13 a14 a15 a16:=by kernel_rfl
def qd3 (a0:Int) (a1:Int) (a2:Int) (a3:Int) (a4:Bool) (a5:Int) (a6:Bool) (a7:Bool) (a8:Int) (a9:Int) (a10:Int) (a11:Int) (a12:Bool) (a13:Int) (a14:Int) (a15:Int) (a16:Int) (r0:Int) (r1:Int) (r2:Int) (r3:Int) (r4:Bool) (r5:Int) (r6:Bool) (r7:Bool) (r8:Int) (r9:Int) (r10:Int) (r11:Int) (r12:Bool) (r13:Int) (r14:Int) (r15:Int) (r16:Int):Prop:=
((r0:Int)=((qy (Sign.mk a0 a1 a2 a3 a4 a5 a6 a7 a8 a9 a10 a11 a12 a13 a14 a15 a16)).Kind))/\
((r1:Int)=((qy (Sign.mk a0 a1 a2 a3 a4 a5 a6 a7 a8 a9 a10 a11 a12 a13 a14 a15 a16)).Value))/\
((r2:Int)=((qy (Sign.mk a0 a1 a2 a3 a4 a5 a6 a7 a8 a9 a10 a11 a12 a13 a14 a15 a16)).Place))/\
((r3:Int)=((qy (Sign.mk a0 a1 a2 a3 a4 a5 a6 a7 a8 a9 a10 a11 a12 a13 a14 a15 a16)).Acc))/\
(r4=((qy (Sign.mk a0 a1 a2 a3 a4 a5 a6 a7 a8 a9 a10 a11 a12 a13 a14 a15 a16)).Color))/\
((r5:Int)=((qy (Sign.mk a0 a1 a2 a3 a4 a5 a6 a7 a8 a9 a10 a11 a12 a13 a14 a15 a16)).Stem))/\
(r6=((qy (Sign.mk a0 a1 a2 a3 a4 a5 a6 a7 a8 a9 a10 a11 a12 a13 a14 a15 a16)).Oblique))/\
(r7=((qy (Sign.mk a0 a1 a2 a3 a4 a5 a6 a7 a8 a9 a10 a11 a12 a13 a14 a15 a16)).Last))/\
((r8:Int)=((qy (Sign.mk a0 a1 a2 a3 a4 a5 a6 a7 a8 a9 a10 a11 a12 a13 a14 a15 a16)).MensMax))/\
((r9:Int)=((qy (Sign.mk a0 a1 a2 a3 a4 a5 a6 a7 a8 a9 a10 a11 a12 a13 a14 a15 a16)).MensMod))/\
((r10:Int)=((qy (Sign.mk a0 a1 a2 a3 a4 a5 a6 a7 a8 a9 a10 a11 a12 a13 a14 a15 a16)).MensTem))/\
((r11:Int)=((qy (Sign.mk a0 a1 a2 a3 a4 a5 a6 a7 a8 a9 a10 a11 a12 a13 a14 a15 a16)).MensPro))/\
(r12=((qy (Sign.mk a0 a1 a2 a3 a4 a5 a6 a7 a8 a9 a10 a11 a12 a13 a14 a15 a16)).Stroke))/\
((r13:Int)=((qy (Sign.mk a0 a1 a2 a3 a4 a5 a6 a7 a8 a9 a10 a11 a12 a13 a14 a15 a16)).N))/\
((r14:Int)=((qy (Sign.mk a0 a1 a2 a3 a4 a5 a6 a7 a8 a9 a10 a11 a12 a13 a14 a15 a16)).D))/\
((r15:Int)=((qy (Sign.mk a0 a1 a2 a3 a4 a5 a6 a7 a8 a9 a10 a11 a12 a13 a14 a15 a16)).ClefStep))/\
((r16:Int)=((qy (Sign.mk a0 a1 a2 a3 a4 a5 a6 a7 a8 a9 a10 a11 a12 a13 a14 a15 a16)).ClefLine))/\
 True

def zee:List (Nat×Ct KT):=[]
abbrev q2o (a0:Int) (a1:Int) (a2:Int) (a3:Int) (a4:Bool) (a5:Int) (a6:Bool) (a7:Bool) (a8:Int) (a9:Int) (a10:Int) (a11:Int) (a12:Bool) (a13:Int) (a14:Int) (a15:Int) (a16:Int):PV KT:=.agg [.int .i64 none (((qy (Sign.mk a0 a1 a2 a3 a4 a5 a6 a7 a8 a9 a10 a11 a12 a13 a14 a15 a16)).Kind)),.int .i64 none (((qy (Sign.mk a0 a1 a2 a3 a4 a5 a6 a7 a8 a9 a10 a11 a12 a13 a14 a15 a16)).Value)),.int .i64 none (((qy (Sign.mk a0 a1 a2 a3 a4 a5 a6 a7 a8 a9 a10 a11 a12 a13 a14 a15 a16)).Place)),.int .i64 none (((qy (Sign.mk a0 a1 a2 a3 a4 a5 a6 a7 a8 a9 a10 a11 a12 a13 a14 a15 a16)).Acc)),.sb 0 false (((qy (Sign.mk a0 a1 a2 a3 a4 a5 a6 a7 a8 a9 a10 a11 a12 a13 a14 a15 a16)).Color)) (((qy (Sign.mk a0 a1 a2 a3 a4 a5 a6 a7 a8 a9 a10 a11 a12 a13 a14 a15 a16)).Color)=true) (((qy (Sign.mk a0 a1 a2 a3 a4 a5 a6 a7 a8 a9 a10 a11 a12 a13 a14 a15 a16)).Color)=false),.int .i64 none (((qy (Sign.mk a0 a1 a2 a3 a4 a5 a6 a7 a8 a9 a10 a11 a12 a13 a14 a15 a16)).Stem)),.sb 0 false (((qy (Sign.mk a0 a1 a2 a3 a4 a5 a6 a7 a8 a9 a10 a11 a12 a13 a14 a15 a16)).Oblique)) (((qy (Sign.mk a0 a1 a2 a3 a4 a5 a6 a7 a8 a9 a10 a11 a12 a13 a14 a15 a16)).Oblique)=true) (((qy (Sign.mk a0 a1 a2 a3 a4 a5 a6 a7 a8 a9 a10 a11 a12 a13 a14 a15 a16)).Oblique)=false),.sb 0 false (((qy (Sign.mk a0 a1 a2 a3 a4 a5 a6 a7 a8 a9 a10 a11 a12 a13 a14 a15 a16)).Last)) (((qy (Sign.mk a0 a1 a2 a3 a4 a5 a6 a7 a8 a9 a10 a11 a12 a13 a14 a15 a16)).Last)=true) (((qy (Sign.mk a0 a1 a2 a3 a4 a5 a6 a7 a8 a9 a10 a11 a12 a13 a14 a15 a16)).Last)=false),.int .i64 none (((qy (Sign.mk a0 a1 a2 a3 a4 a5 a6 a7 a8 a9 a10 a11 a12 a13 a14 a15 a16)).MensMax)),.int .i64 none (((qy (Sign.mk a0 a1 a2 a3 a4 a5 a6 a7 a8 a9 a10 a11 a12 a13 a14 a15 a16)).MensMod)),.int .i64 none (((qy (Sign.mk a0 a1 a2 a3 a4 a5 a6 a7 a8 a9 a10 a11 a12 a13 a14 a15 a16)).MensTem)),.int .i64 none (((qy (Sign.mk a0 a1 a2 a3 a4 a5 a6 a7 a8 a9 a10 a11 a12 a13 a14 a15 a16)).MensPro)),.sb 0 false (((qy (Sign.mk a0 a1 a2 a3 a4 a5 a6 a7 a8 a9 a10 a11 a12 a13 a14 a15 a16)).Stroke)) (((qy (Sign.mk a0 a1 a2 a3 a4 a5 a6 a7 a8 a9 a10 a11 a12 a13 a14 a15 a16)).Stroke)=true) (((qy (Sign.mk a0 a1 a2 a3 a4 a5 a6 a7 a8 a9 a10 a11 a12 a13 a14 a15 a16)).Stroke)=false),.int .i64 none (((qy (Sign.mk a0 a1 a2 a3 a4 a5 a6 a7 a8 a9 a10 a11 a12 a13 a14 a15 a16)).N)),.int .i64 none (((qy (Sign.mk a0 a1 a2 a3 a4 a5 a6 a7 a8 a9 a10 a11 a12 a13 a14 a15 a16)).D)),.int .i64 none (((qy (Sign.mk a0 a1 a2 a3 a4 a5 a6 a7 a8 a9 a10 a11 a12 a13 a14 a15 a16)).ClefStep)),.int .i64 none (((qy (Sign.mk a0 a1 a2 a3 a4 a5 a6 a7 a8 a9 a10 a11 a12 a13 a14 a15 a16)).ClefLine))]
abbrev qy6 (a0:Int) (a1:Int) (a2:Int) (a3:Int) (a4:Bool) (a5:Int) (a6:Bool) (a7:Bool) (a8:Int) (a9:Int) (a10:Int) (a11:Int) (a12:Bool) (a13:Int) (a14:Int) (a15:Int) (a16:Int):Prop:=
((a0=1->
 qd3 a0 a1 a2 a3 a4 a5 a6 a7 a8 a9 a10 a11 a12 a13 a14 a15 a16 a0 a1 a2 a3 a4 0 false false 0 0 0 0 false 0 0 0 0))/\
(a0≠1->
((a0=2->
 qd3 a0 a1 a2 a3 a4 a5 a6 a7 a8 a9 a10 a11 a12 a13 a14 a15 a16 a0 a1 0 0 false 0 false false 0 0 0 0 false 0 0 0 0))/\
(a0≠2->
((a0=4->
 qd3 a0 a1 a2 a3 a4 a5 a6 a7 a8 a9 a10 a11 a12 a13 a14 a15 a16 a0 0 a2 a3 a4 a5 a6 a7 0 0 0 0 false 0 0 0 0))/\
(a0≠4->
((a0=5->
 qd3 a0 a1 a2 a3 a4 a5 a6 a7 a8 a9 a10 a11 a12 a13 a14 a15 a16 a0 0 0 0 false 0 false false a8 a9 a10 a11 a12 0 0 0 0))/\
(a0≠5->
((a0=6->
 qd3 a0 a1 a2 a3 a4 a5 a6 a7 a8 a9 a10 a11 a12 a13 a14 a15 a16 a0 0 0 0 false 0 false false 0 0 0 0 false a13 a14 0 0))/\
(a0≠6->
((a0=7->
 qd3 a0 a1 a2 a3 a4 a5 a6 a7 a8 a9 a10 a11 a12 a13 a14 a15 a16 a0 0 0 0 false 0 false false 0 0 0 0 false 0 0 a15 a16))/\
(a0≠7->
((a0=8->
 qd3 a0 a1 a2 a3 a4 a5 a6 a7 a8 a9 a10 a11 a12 a13 a14 a15 a16 a0 0 0 0 false 0 false false 0 0 0 0 false a13 0 0 0))/\
(a0≠8->
((a0=10->
 qd3 a0 a1 a2 a3 a4 a5 a6 a7 a8 a9 a10 a11 a12 a13 a14 a15 a16 a0 0 0 0 false 0 false false 0 0 0 0 false a13 0 0 0))/\
(a0≠10->
 qd3 a0 a1 a2 a3 a4 a5 a6 a7 a8 a9 a10 a11 a12 a13 a14 a15 a16 a0 0 0 0 false 0 false false 0 0 0 0 false 0 0 0 0))))))))
theorem zhf (a0:Int) (a1:Int) (a2:Int) (a3:Int) (a4:Bool) (a5:Int) (a6:Bool) (a7:Bool) (a8:Int) (a9:Int) (a10:Int) (a11:Int) (a12:Bool) (a13:Int) (a14:Int) (a15:Int) (a16:Int):qau (qq XK (j7 zee) (fun _ _=>False) (fun _ _=>0)) {cfg sp with ann:=qar []} 3 91 [.agg [.int .i64 none (a0),.int .i64 none (a1),.int .i64 none (a2),.int .i64 none (a3),.sb 0 false (a4) (a4=true) (a4=false),.int .i64 none (a5),.sb 0 false (a6) (a6=true) (a6=false),.sb 0 false (a7) (a7=true) (a7=false),.int .i64 none (a8),.int .i64 none (a9),.int .i64 none (a10),.int .i64 none (a11),.sb 0 false (a12) (a12=true) (a12=false),.int .i64 none (a13),.int .i64 none (a14),.int .i64 none (a15),.int .i64 none (a16)]] (q2o a0 a1 a2 a3 a4 a5 a6 a7 a8 a9 a10 a11 a12 a13 a14 a15 a16)=qy6 a0 a1 a2 a3 a4 a5 a6 a7 a8 a9 a10 a11 a12 a13 a14 a15 a16:=by kernel_rfl
def q4u:List (Nat×Ct KT):=[]
abbrev quh (a0:Int) (a1:Int) (a2:Int) (a3:Int) (a4:Bool) (a5:Int) (a6:Bool) (a7:Bool) (a8:Int) (a9:Int) (a10:Int) (a11:Int) (a12:Bool) (a13:Int) (a14:Int) (a15:Int) (a16:Int):PV KT:=.sb 0 false ((decide (zt (Sign.mk a0 a1 a2 a3 a4 a5 a6 a7 a8 a9 a10 a11 a12 a13 a14 a15 a16)))) ((decide (zt (Sign.mk a0 a1 a2 a3 a4 a5 a6 a7 a8 a9 a10 a11 a12 a13 a14 a15 a16)))=true) ((decide (zt (Sign.mk a0 a1 a2 a3 a4 a5 a6 a7 a8 a9 a10 a11 a12 a13 a14 a15 a16)))=false)
abbrev qp8 (a0:Int) (a1:Int) (a2:Int) (a3:Int) (a4:Bool) (a5:Int) (a6:Bool) (a7:Bool) (a8:Int) (a9:Int) (a10:Int) (a11:Int) (a12:Bool) (a13:Int) (a14:Int) (a15:Int) (a16:Int):Prop:=
((a0=1->
((1<=a1->
((a1<=8->
(((-4)<=a2->
((a2<=12->
(((-1)<=a3->
((decide (a3<=2))=(decide (zt (Sign.mk a0 a1 a2 a3 a4 a5 a6 a7 a8 a9 a10 a11 a12 a13 a14 a15 a16))))/\
 True))/\
(a3<(-1)->
(false=(decide (zt (Sign.mk a0 a1 a2 a3 a4 a5 a6 a7 a8 a9 a10 a11 a12 a13 a14 a15 a16))))/\
 True)))/\
(12<a2->
(false=(decide (zt (Sign.mk a0 a1 a2 a3 a4 a5 a6 a7 a8 a9 a10 a11 a12 a13 a14 a15 a16))))/\
 True)))/\
(a2<(-4)->
(false=(decide (zt (Sign.mk a0 a1 a2 a3 a4 a5 a6 a7 a8 a9 a10 a11 a12 a13 a14 a15 a16))))/\
 True)))/\
(8<a1->
(false=(decide (zt (Sign.mk a0 a1 a2 a3 a4 a5 a6 a7 a8 a9 a10 a11 a12 a13 a14 a15 a16))))/\
 True)))/\
(a1<1->
(false=(decide (zt (Sign.mk a0 a1 a2 a3 a4 a5 a6 a7 a8 a9 a10 a11 a12 a13 a14 a15 a16))))/\
 True)))/\
(a0≠1->
((a0=2->
((1<=a1->
((decide (a1<=8))=(decide (zt (Sign.mk a0 a1 a2 a3 a4 a5 a6 a7 a8 a9 a10 a11 a12 a13 a14 a15 a16))))/\
 True))/\
(a1<1->
(false=(decide (zt (Sign.mk a0 a1 a2 a3 a4 a5 a6 a7 a8 a9 a10 a11 a12 a13 a14 a15 a16))))/\
 True)))/\
(a0≠2->
((a0=4->
(((-4)<=a2->
((a2<=12->
(((-1)<=a3->
((a3<=2->
((0<=a5->
((decide (a5<=3))=(decide (zt (Sign.mk a0 a1 a2 a3 a4 a5 a6 a7 a8 a9 a10 a11 a12 a13 a14 a15 a16))))/\
 True))/\
(a5<0->
(false=(decide (zt (Sign.mk a0 a1 a2 a3 a4 a5 a6 a7 a8 a9 a10 a11 a12 a13 a14 a15 a16))))/\
 True)))/\
(2<a3->
(false=(decide (zt (Sign.mk a0 a1 a2 a3 a4 a5 a6 a7 a8 a9 a10 a11 a12 a13 a14 a15 a16))))/\
 True)))/\
(a3<(-1)->
(false=(decide (zt (Sign.mk a0 a1 a2 a3 a4 a5 a6 a7 a8 a9 a10 a11 a12 a13 a14 a15 a16))))/\
 True)))/\
(12<a2->
(false=(decide (zt (Sign.mk a0 a1 a2 a3 a4 a5 a6 a7 a8 a9 a10 a11 a12 a13 a14 a15 a16))))/\
 True)))/\
(a2<(-4)->
(false=(decide (zt (Sign.mk a0 a1 a2 a3 a4 a5 a6 a7 a8 a9 a10 a11 a12 a13 a14 a15 a16))))/\
 True)))/\
(a0≠4->
((a0=6->
((1<=a13->
((a13<=100->
((1<=a14->
((decide (a14<=100))=(decide (zt (Sign.mk a0 a1 a2 a3 a4 a5 a6 a7 a8 a9 a10 a11 a12 a13 a14 a15 a16))))/\
 True))/\
(a14<1->
(false=(decide (zt (Sign.mk a0 a1 a2 a3 a4 a5 a6 a7 a8 a9 a10 a11 a12 a13 a14 a15 a16))))/\
 True)))/\
(100<a13->
(false=(decide (zt (Sign.mk a0 a1 a2 a3 a4 a5 a6 a7 a8 a9 a10 a11 a12 a13 a14 a15 a16))))/\
 True)))/\
(a13<1->
(false=(decide (zt (Sign.mk a0 a1 a2 a3 a4 a5 a6 a7 a8 a9 a10 a11 a12 a13 a14 a15 a16))))/\
 True)))/\
(a0≠6->
((a0=7->
((a15=0->
((1<=a16->
((decide (a16<=5))=(decide (zt (Sign.mk a0 a1 a2 a3 a4 a5 a6 a7 a8 a9 a10 a11 a12 a13 a14 a15 a16))))/\
 True))/\
(a16<1->
(false=(decide (zt (Sign.mk a0 a1 a2 a3 a4 a5 a6 a7 a8 a9 a10 a11 a12 a13 a14 a15 a16))))/\
 True)))/\
(a15≠0->
((a15=3->
((1<=a16->
((decide (a16<=5))=(decide (zt (Sign.mk a0 a1 a2 a3 a4 a5 a6 a7 a8 a9 a10 a11 a12 a13 a14 a15 a16))))/\
 True))/\
(a16<1->
(false=(decide (zt (Sign.mk a0 a1 a2 a3 a4 a5 a6 a7 a8 a9 a10 a11 a12 a13 a14 a15 a16))))/\
 True)))/\
(a15≠3->
((a15=4->
((1<=a16->
((decide (a16<=5))=(decide (zt (Sign.mk a0 a1 a2 a3 a4 a5 a6 a7 a8 a9 a10 a11 a12 a13 a14 a15 a16))))/\
 True))/\
(a16<1->
(false=(decide (zt (Sign.mk a0 a1 a2 a3 a4 a5 a6 a7 a8 a9 a10 a11 a12 a13 a14 a15 a16))))/\
 True)))/\
(a15≠4->
(false=(decide (zt (Sign.mk a0 a1 a2 a3 a4 a5 a6 a7 a8 a9 a10 a11 a12 a13 a14 a15 a16))))/\
 True)))))/\
(a0≠7->
((a0=8->
((0<=a13->
((decide (a13<=2))=(decide (zt (Sign.mk a0 a1 a2 a3 a4 a5 a6 a7 a8 a9 a10 a11 a12 a13 a14 a15 a16))))/\
 True))/\
(a13<0->
(false=(decide (zt (Sign.mk a0 a1 a2 a3 a4 a5 a6 a7 a8 a9 a10 a11 a12 a13 a14 a15 a16))))/\
 True)))/\
(a0≠8->
((a0=10->
((2<=a13->
((decide (a13<=4))=(decide (zt (Sign.mk a0 a1 a2 a3 a4 a5 a6 a7 a8 a9 a10 a11 a12 a13 a14 a15 a16))))/\
 True))/\
(a13<2->
(false=(decide (zt (Sign.mk a0 a1 a2 a3 a4 a5 a6 a7 a8 a9 a10 a11 a12 a13 a14 a15 a16))))/\
 True)))/\
(a0≠10->
(true=(decide (zt (Sign.mk a0 a1 a2 a3 a4 a5 a6 a7 a8 a9 a10 a11 a12 a13 a14 a15 a16))))/\
 True)))))))
theorem q9m (a0:Int) (a1:Int) (a2:Int) (a3:Int) (a4:Bool) (a5:Int) (a6:Bool) (a7:Bool) (a8:Int) (a9:Int) (a10:Int) (a11:Int) (a12:Bool) (a13:Int) (a14:Int) (a15:Int) (a16:Int):qau (qq XK (j7 q4u) (fun _ _=>False) (fun _ _=>0)) {cfg sp with ann:=qar []} 3 93 [.agg [.int .i64 none (a0),.int .i64 none (a1),.int .i64 none (a2),.int .i64 none (a3),.sb 0 false (a4) (a4=true) (a4=false),.int .i64 none (a5),.sb 0 false (a6) (a6=true) (a6=false),.sb 0 false (a7) (a7=true) (a7=false),.int .i64 none (a8),.int .i64 none (a9),.int .i64 none (a10),.int .i64 none (a11),.sb 0 false (a12) (a12=true) (a12=false),.int .i64 none (a13),.int .i64 none (a14),.int .i64 none (a15),.int .i64 none (a16)]] (quh a0 a1 a2 a3 a4 a5 a6 a7 a8 a9 a10 a11 a12 a13 a14 a15 a16)=qp8 a0 a1 a2 a3 a4 a5 a6 a7 a8 a9 a10 a11 a12 a13 a14 a15 a16:=by kernel_rfl
def q96:List (Nat×Ct KT):=[(91,zii),(92,zfl),(93,zij)]
abbrev qzl (a0:Int) (a1:Int) (a2:Int) (a3:Int) (a4:Bool) (a5:Int) (a6:Bool) (a7:Bool) (a8:Int) (a9:Int) (a10:Int) (a11:Int) (a12:Bool) (a13:Int) (a14:Int) (a15:Int) (a16:Int):PV KT:=.int .i64 none ((zh (Sign.mk a0 a1 a2 a3 a4 a5 a6 a7 a8 a9 a10 a11 a12 a13 a14 a15 a16)))
abbrev qxw (a0:Int) (a1:Int) (a2:Int) (a3:Int) (a4:Bool) (a5:Int) (a6:Bool) (a7:Bool) (a8:Int) (a9:Int) (a10:Int) (a11:Int) (a12:Bool) (a13:Int) (a14:Int) (a15:Int) (a16:Int):Prop:=
((a0<1->
((8:Int)=(zh (Sign.mk a0 a1 a2 a3 a4 a5 a6 a7 a8 a9 a10 a11 a12 a13 a14 a15 a16)))/\
 True))/\
(1<=a0->
((12<a0->
((8:Int)=(zh (Sign.mk a0 a1 a2 a3 a4 a5 a6 a7 a8 a9 a10 a11 a12 a13 a14 a15 a16)))/\
 True))/\
(a0<=12->
(True)/\
(((((qy (Sign.mk a0 a1 a2 a3 a4 a5 a6 a7 a8 a9 a10 a11 a12 a13 a14 a15 a16)).Kind)≠a0∨(((qy (Sign.mk a0 a1 a2 a3 a4 a5 a6 a7 a8 a9 a10 a11 a12 a13 a14 a15 a16)).Value)≠a1∨(((qy (Sign.mk a0 a1 a2 a3 a4 a5 a6 a7 a8 a9 a10 a11 a12 a13 a14 a15 a16)).Place)≠a2∨(((qy (Sign.mk a0 a1 a2 a3 a4 a5 a6 a7 a8 a9 a10 a11 a12 a13 a14 a15 a16)).Acc)≠a3∨(((qy (Sign.mk a0 a1 a2 a3 a4 a5 a6 a7 a8 a9 a10 a11 a12 a13 a14 a15 a16)).Color)≠a4∨(((qy (Sign.mk a0 a1 a2 a3 a4 a5 a6 a7 a8 a9 a10 a11 a12 a13 a14 a15 a16)).Stem)≠a5∨(((qy (Sign.mk a0 a1 a2 a3 a4 a5 a6 a7 a8 a9 a10 a11 a12 a13 a14 a15 a16)).Oblique)≠a6∨(((qy (Sign.mk a0 a1 a2 a3 a4 a5 a6 a7 a8 a9 a10 a11 a12 a13 a14 a15 a16)).Last)≠a7∨(((qy (Sign.mk a0 a1 a2 a3 a4 a5 a6 a7 a8 a9 a10 a11 a12 a13 a14 a15 a16)).MensMax)≠a8∨(((qy (Sign.mk a0 a1 a2 a3 a4 a5 a6 a7 a8 a9 a10 a11 a12 a13 a14 a15 a16)).MensMod)≠a9∨(((qy (Sign.mk a0 a1 a2 a3 a4 a5 a6 a7 a8 a9 a10 a11 a12 a13 a14 a15 a16)).MensTem)≠a10∨(((qy (Sign.mk a0 a1 a2 a3 a4 a5 a6 a7 a8 a9 a10 a11 a12 a13 a14 a15 a16)).MensPro)≠a11∨(((qy (Sign.mk a0 a1 a2 a3 a4 a5 a6 a7 a8 a9 a10 a11 a12 a13 a14 a15 a16)).Stroke)≠a12∨(((qy (Sign.mk a0 a1 a2 a3 a4 a5 a6 a7 a8 a9 a10 a11 a12 a13 a14 a15 a16)).N)≠a13∨(((qy (Sign.mk a0 a1 a2 a3 a4 a5 a6 a7 a8 a9 a10 a11 a12 a13 a14 a15 a16)).D)≠a14∨(((qy (Sign.mk a0 a1 a2 a3 a4 a5 a6 a7 a8 a9 a10 a11 a12 a13 a14 a15 a16)).ClefStep)≠a15∨((qy (Sign.mk a0 a1 a2 a3 a4 a5 a6 a7 a8 a9 a10 a11 a12 a13 a14 a15 a16)).ClefLine)≠a16))))))))))))))))->
((3:Int)=(zh (Sign.mk a0 a1 a2 a3 a4 a5 a6 a7 a8 a9 a10 a11 a12 a13 a14 a15 a16)))/\
 True))/\
((((qy (Sign.mk a0 a1 a2 a3 a4 a5 a6 a7 a8 a9 a10 a11 a12 a13 a14 a15 a16)).Kind)=a0/\(((qy (Sign.mk a0 a1 a2 a3 a4 a5 a6 a7 a8 a9 a10 a11 a12 a13 a14 a15 a16)).Value)=a1/\(((qy (Sign.mk a0 a1 a2 a3 a4 a5 a6 a7 a8 a9 a10 a11 a12 a13 a14 a15 a16)).Place)=a2/\(((qy (Sign.mk a0 a1 a2 a3 a4 a5 a6 a7 a8 a9 a10 a11 a12 a13 a14 a15 a16)).Acc)=a3/\(((qy (Sign.mk a0 a1 a2 a3 a4 a5 a6 a7 a8 a9 a10 a11 a12 a13 a14 a15 a16)).Color)=a4/\(((qy (Sign.mk a0 a1 a2 a3 a4 a5 a6 a7 a8 a9 a10 a11 a12 a13 a14 a15 a16)).Stem)=a5/\(((qy (Sign.mk a0 a1 a2 a3 a4 a5 a6 a7 a8 a9 a10 a11 a12 a13 a14 a15 a16)).Oblique)=a6/\(((qy (Sign.mk a0 a1 a2 a3 a4 a5 a6 a7 a8 a9 a10 a11 a12 a13 a14 a15 a16)).Last)=a7/\(((qy (Sign.mk a0 a1 a2 a3 a4 a5 a6 a7 a8 a9 a10 a11 a12 a13 a14 a15 a16)).MensMax)=a8/\(((qy (Sign.mk a0 a1 a2 a3 a4 a5 a6 a7 a8 a9 a10 a11 a12 a13 a14 a15 a16)).MensMod)=a9/\(((qy (Sign.mk a0 a1 a2 a3 a4 a5 a6 a7 a8 a9 a10 a11 a12 a13 a14 a15 a16)).MensTem)=a10/\(((qy (Sign.mk a0 a1 a2 a3 a4 a5 a6 a7 a8 a9 a10 a11 a12 a13 a14 a15 a16)).MensPro)=a11/\(((qy (Sign.mk a0 a1 a2 a3 a4 a5 a6 a7 a8 a9 a10 a11 a12 a13 a14 a15 a16)).Stroke)=a12/\(((qy (Sign.mk a0 a1 a2 a3 a4 a5 a6 a7 a8 a9 a10 a11 a12 a13 a14 a15 a16)).N)=a13/\(((qy (Sign.mk a0 a1 a2 a3 a4 a5 a6 a7 a8 a9 a10 a11 a12 a13 a14 a15 a16)).D)=a14/\(((qy (Sign.mk a0 a1 a2 a3 a4 a5 a6 a7 a8 a9 a10 a11 a12 a13 a14 a15 a16)).ClefStep)=a15/\((qy (Sign.mk a0 a1 a2 a3 a4 a5 a6 a7 a8 a9 a10 a11 a12 a13 a14 a15 a16)).ClefLine)=a16))))))))))))))))->
((a0=5->
(True)/\
(((jy a8 a9 a10 a11)≠0->
((12:Int)=(zh (Sign.mk a0 a1 a2 a3 a4 a5 a6 a7 a8 a9 a10 a11 a12 a13 a14 a15 a16)))/\
 True))/\
((jy a8 a9 a10 a11)=0->
(True)/\
(((decide (zt (Sign.mk a0 a1 a2 a3 a4 a5 a6 a7 a8 a9 a10 a11 a12 a13 a14 a15 a16)))=false->
((2:Int)=(zh (Sign.mk a0 a1 a2 a3 a4 a5 a6 a7 a8 a9 a10 a11 a12 a13 a14 a15 a16)))/\
 True))/\
((decide (zt (Sign.mk a0 a1 a2 a3 a4 a5 a6 a7 a8 a9 a10 a11 a12 a13 a14 a15 a16)))=true->
((a6=true->
((a7=true->
((3:Int)=(zh (Sign.mk a0 a1 a2 a3 a4 a5 a6 a7 a8 a9 a10 a11 a12 a13 a14 a15 a16)))/\
 True))/\
(a7=false->
((0:Int)=(zh (Sign.mk a0 a1 a2 a3 a4 a5 a6 a7 a8 a9 a10 a11 a12 a13 a14 a15 a16)))/\
 True)))/\
(a6=false->
((0:Int)=(zh (Sign.mk a0 a1 a2 a3 a4 a5 a6 a7 a8 a9 a10 a11 a12 a13 a14 a15 a16)))/\
 True)))))/\
(a0≠5->
(True)/\
(((decide (zt (Sign.mk a0 a1 a2 a3 a4 a5 a6 a7 a8 a9 a10 a11 a12 a13 a14 a15 a16)))=false->
((2:Int)=(zh (Sign.mk a0 a1 a2 a3 a4 a5 a6 a7 a8 a9 a10 a11 a12 a13 a14 a15 a16)))/\
 True))/\
((decide (zt (Sign.mk a0 a1 a2 a3 a4 a5 a6 a7 a8 a9 a10 a11 a12 a13 a14 a15 a16)))=true->
((a6=true->
((a7=true->
((3:Int)=(zh (Sign.mk a0 a1 a2 a3 a4 a5 a6 a7 a8 a9 a10 a11 a12 a13 a14 a15 a16)))/\
 True))/\
(a7=false->
((0:Int)=(zh (Sign.mk a0 a1 a2 a3 a4 a5 a6 a7 a8 a9 a10 a11 a12 a13 a14 a15 a16)))/\
 True)))/\
(a6=false->
((0:Int)=(zh (Sign.mk a0 a1 a2 a3 a4 a5 a6 a7 a8 a9 a10 a11 a12 a13 a14 a15 a16)))/\
 True))))))
theorem zet (a0:Int) (a1:Int) (a2:Int) (a3:Int) (a4:Bool) (a5:Int) (a6:Bool) (a7:Bool) (a8:Int) (a9:Int) (a10:Int) (a11:Int) (a12:Bool) (a13:Int) (a14:Int) (a15:Int) (a16:Int):qau (qq XK (j7 q96) (fun _ _=>False) (fun _ _=>0)) {cfg sp with ann:=qar []} 6 36 [.agg [.int .i64 none (a0),.int .i64 none (a1),.int .i64 none (a2),.int .i64 none (a3),.sb 0 false (a4) (a4=true) (a4=false),.int .i64 none (a5),.sb 0 false (a6) (a6=true) (a6=false),.sb 0 false (a7) (a7=true) (a7=false),.int .i64 none (a8),.int .i64 none (a9),.int .i64 none (a10),.int .i64 none (a11),.sb 0 false (a12) (a12=true) (a12=false),.int .i64 none (a13),.int .i64 none (a14),.int .i64 none (a15),.int .i64 none (a16)]] (qzl a0 a1 a2 a3 a4 a5 a6 a7 a8 a9 a10 a11 a12 a13 a14 a15 a16)=qxw a0 a1 a2 a3 a4 a5 a6 a7 a8 a9 a10 a11 a12 a13 a14 a15 a16:=by kernel_rfl
def q77:List (Nat×Ct KT):=[(36,zfb),(27,zif),(37,zfc),(38,zih),(39,zfe),(40,zff)]
abbrev qv6 (a0:Int) (a1:Int) (a2:Int) (a3:Int) (a4:Bool) (a5:Int) (a6:Bool) (a7:Bool) (a8:Int) (a9:Int) (a10:Int) (a11:Int) (a12:Bool) (a13:Int) (a14:Int) (a15:Int) (a16:Int):PV KT:=.tuple [.str (((zk (Sign.mk a0 a1 a2 a3 a4 a5 a6 a7 a8 a9 a10 a11 a12 a13 a14 a15 a16)).1)),.int .i64 none (((zk (Sign.mk a0 a1 a2 a3 a4 a5 a6 a7 a8 a9 a10 a11 a12 a13 a14 a15 a16)).2))]
abbrev qsq (a0:Int) (a1:Int) (a2:Int) (a3:Int) (a4:Bool) (a5:Int) (a6:Bool) (a7:Bool) (a8:Int) (a9:Int) (a10:Int) (a11:Int) (a12:Bool) (a13:Int) (a14:Int) (a15:Int) (a16:Int):Prop:=
(True)/\
(((zh (Sign.mk a0 a1 a2 a3 a4 a5 a6 a7 a8 a9 a10 a11 a12 a13 a14 a15 a16))≠0->
(([]:List UInt8)=((zk (Sign.mk a0 a1 a2 a3 a4 a5 a6 a7 a8 a9 a10 a11 a12 a13 a14 a15 a16)).1))/\
(((zh (Sign.mk a0 a1 a2 a3 a4 a5 a6 a7 a8 a9 a10 a11 a12 a13 a14 a15 a16)):Int)=((zk (Sign.mk a0 a1 a2 a3 a4 a5 a6 a7 a8 a9 a10 a11 a12 a13 a14 a15 a16)).2))/\
 True))/\
((zh (Sign.mk a0 a1 a2 a3 a4 a5 a6 a7 a8 a9 a10 a11 a12 a13 a14 a15 a16))=0->
(True)/\
((a0=1->
((-100<=a2/\a2<=100))/\
(qx (List.length ((qi0 a1).1)+List.length (j6 (Sign.mk a0 a1 a2 a3 a4 a5 a6 a7 a8 a9 a10 a11 a12 a13 a14 a15 a16))))/\
((((qi0 a1).1)++(j6 (Sign.mk a0 a1 a2 a3 a4 a5 a6 a7 a8 a9 a10 a11 a12 a13 a14 a15 a16)))=((zk (Sign.mk a0 a1 a2 a3 a4 a5 a6 a7 a8 a9 a10 a11 a12 a13 a14 a15 a16)).1))/\
((0:Int)=((zk (Sign.mk a0 a1 a2 a3 a4 a5 a6 a7 a8 a9 a10 a11 a12 a13 a14 a15 a16)).2))/\
 True))/\
(a0≠1->
((a0=2->
(qx (List.length ([114]:List UInt8)+List.length ((qi0 a1).1)))/\
((([114]:List UInt8)++((qi0 a1).1))=((zk (Sign.mk a0 a1 a2 a3 a4 a5 a6 a7 a8 a9 a10 a11 a12 a13 a14 a15 a16)).1))/\
((0:Int)=((zk (Sign.mk a0 a1 a2 a3 a4 a5 a6 a7 a8 a9 a10 a11 a12 a13 a14 a15 a16)).2))/\
 True))/\
(a0≠2->
((a0=3->
(([46]:List UInt8)=((zk (Sign.mk a0 a1 a2 a3 a4 a5 a6 a7 a8 a9 a10 a11 a12 a13 a14 a15 a16)).1))/\
((0:Int)=((zk (Sign.mk a0 a1 a2 a3 a4 a5 a6 a7 a8 a9 a10 a11 a12 a13 a14 a15 a16)).2))/\
 True))/\
(a0≠3->
((a0=4->
((-100<=a2/\a2<=100/\0<=a5/\a5<=3))/\
((qd1 (Sign.mk a0 a1 a2 a3 a4 a5 a6 a7 a8 a9 a10 a11 a12 a13 a14 a15 a16))=((zk (Sign.mk a0 a1 a2 a3 a4 a5 a6 a7 a8 a9 a10 a11 a12 a13 a14 a15 a16)).1))/\
((0:Int)=((zk (Sign.mk a0 a1 a2 a3 a4 a5 a6 a7 a8 a9 a10 a11 a12 a13 a14 a15 a16)).2))/\
 True))/\
(a0≠4->
((a0=5->
(True)/\
((a12=true->
(qx (List.length ([40]:List UInt8)+List.length ((z6 a8 a9 a10 a11).1)))/\
(qx (List.length (([40]:List UInt8)++((z6 a8 a9 a10 a11).1))+List.length ([41,124]:List UInt8)))/\
(((([40]:List UInt8)++((z6 a8 a9 a10 a11).1))++([41,124]:List UInt8))=((zk (Sign.mk a0 a1 a2 a3 a4 a5 a6 a7 a8 a9 a10 a11 a12 a13 a14 a15 a16)).1))/\
((0:Int)=((zk (Sign.mk a0 a1 a2 a3 a4 a5 a6 a7 a8 a9 a10 a11 a12 a13 a14 a15 a16)).2))/\
 True))/\
(a12=false->
(qx (List.length ([40]:List UInt8)+List.length ((z6 a8 a9 a10 a11).1)))/\
(qx (List.length (([40]:List UInt8)++((z6 a8 a9 a10 a11).1))+List.length ([41]:List UInt8)))/\
(((([40]:List UInt8)++((z6 a8 a9 a10 a11).1))++([41]:List UInt8))=((zk (Sign.mk a0 a1 a2 a3 a4 a5 a6 a7 a8 a9 a10 a11 a12 a13 a14 a15 a16)).1))/\
((0:Int)=((zk (Sign.mk a0 a1 a2 a3 a4 a5 a6 a7 a8 a9 a10 a11 a12 a13 a14 a15 a16)).2))/\
 True)))/\
(a0≠5->
((a0=6->
((-100<=a13/\a13<=100))/\
(qx (List.length (zb a13)+List.length ([47]:List UInt8)))/\
((-100<=a14/\a14<=100))/\
(qx (List.length ((zb a13)++([47]:List UInt8))+List.length (zb a14)))/\
((((zb a13)++([47]:List UInt8))++(zb a14))=((zk (Sign.mk a0 a1 a2 a3 a4 a5 a6 a7 a8 a9 a10 a11 a12 a13 a14 a15 a16)).1))/\
((0:Int)=((zk (Sign.mk a0 a1 a2 a3 a4 a5 a6 a7 a8 a9 a10 a11 a12 a13 a14 a15 a16)).2))/\
 True))/\
(a0≠6->
((a0=7->
(True)/\
(True)/\
(True)/\
(True)/\
(True)/\
(Wn a15 (ln [([67]:List UInt8),([]:List UInt8),([]:List UInt8),([70]:List UInt8),([71]:List UInt8)]))/\
(qx (List.length ([64]:List UInt8)+List.length (ix [([67]:List UInt8),([]:List UInt8),([]:List UInt8),([70]:List UInt8),([71]:List UInt8)] a15)))/\
((-100<=a16/\a16<=100))/\
(qx (List.length (([64]:List UInt8)++(ix [([67]:List UInt8),([]:List UInt8),([]:List UInt8),([70]:List UInt8),([71]:List UInt8)] a15))+List.length (zb a16)))/\
(((([64]:List UInt8)++(ix [([67]:List UInt8),([]:List UInt8),([]:List UInt8),([70]:List UInt8),([71]:List UInt8)] a15))++(zb a16))=((zk (Sign.mk a0 a1 a2 a3 a4 a5 a6 a7 a8 a9 a10 a11 a12 a13 a14 a15 a16)).1))/\
((0:Int)=((zk (Sign.mk a0 a1 a2 a3 a4 a5 a6 a7 a8 a9 a10 a11 a12 a13 a14 a15 a16)).2))/\
 True))/\
(a0≠7->
((a0=8->
((-100<=a13/\a13<=100))/\
(qx (List.length ([38]:List UInt8)+List.length (zb a13)))/\
((([38]:List UInt8)++(zb a13))=((zk (Sign.mk a0 a1 a2 a3 a4 a5 a6 a7 a8 a9 a10 a11 a12 a13 a14 a15 a16)).1))/\
((0:Int)=((zk (Sign.mk a0 a1 a2 a3 a4 a5 a6 a7 a8 a9 a10 a11 a12 a13 a14 a15 a16)).2))/\
 True))/\
(a0≠8->
((a0=9->
(([91]:List UInt8)=((zk (Sign.mk a0 a1 a2 a3 a4 a5 a6 a7 a8 a9 a10 a11 a12 a13 a14 a15 a16)).1))/\
((0:Int)=((zk (Sign.mk a0 a1 a2 a3 a4 a5 a6 a7 a8 a9 a10 a11 a12 a13 a14 a15 a16)).2))/\
 True))/\
(a0≠9->
((a0=10->
((-100<=a13/\a13<=100))/\
(qx (List.length ([93]:List UInt8)+List.length (zb a13)))/\
((([93]:List UInt8)++(zb a13))=((zk (Sign.mk a0 a1 a2 a3 a4 a5 a6 a7 a8 a9 a10 a11 a12 a13 a14 a15 a16)).1))/\
((0:Int)=((zk (Sign.mk a0 a1 a2 a3 a4 a5 a6 a7 a8 a9 a10 a11 a12 a13 a14 a15 a16)).2))/\
 True))/\
(a0≠10->
((a0=11->
(([116,117,114,110]:List UInt8)=((zk (Sign.mk a0 a1 a2 a3 a4 a5 a6 a7 a8 a9 a10 a11 a12 a13 a14 a15 a16)).1))/\
((0:Int)=((zk (Sign.mk a0 a1 a2 a3 a4 a5 a6 a7 a8 a9 a10 a11 a12 a13 a14 a15 a16)).2))/\
 True))/\
(a0≠11->
(([115,105,103]:List UInt8)=((zk (Sign.mk a0 a1 a2 a3 a4 a5 a6 a7 a8 a9 a10 a11 a12 a13 a14 a15 a16)).1))/\
((0:Int)=((zk (Sign.mk a0 a1 a2 a3 a4 a5 a6 a7 a8 a9 a10 a11 a12 a13 a14 a15 a16)).2))/\
 True))))))))))))
theorem zao (a0:Int) (a1:Int) (a2:Int) (a3:Int) (a4:Bool) (a5:Int) (a6:Bool) (a7:Bool) (a8:Int) (a9:Int) (a10:Int) (a11:Int) (a12:Bool) (a13:Int) (a14:Int) (a15:Int) (a16:Int):qau (qq XK (j7 q77) (fun _ _=>False) (fun _ _=>0)) {cfg sp with ann:=qar []} 6 11 [.agg [.int .i64 none (a0),.int .i64 none (a1),.int .i64 none (a2),.int .i64 none (a3),.sb 0 false (a4) (a4=true) (a4=false),.int .i64 none (a5),.sb 0 false (a6) (a6=true) (a6=false),.sb 0 false (a7) (a7=true) (a7=false),.int .i64 none (a8),.int .i64 none (a9),.int .i64 none (a10),.int .i64 none (a11),.sb 0 false (a12) (a12=true) (a12=false),.int .i64 none (a13),.int .i64 none (a14),.int .i64 none (a15),.int .i64 none (a16)]] (qv6 a0 a1 a2 a3 a4 a5 a6 a7 a8 a9 a10 a11 a12 a13 a14 a15 a16)=qsq a0 a1 a2 a3 a4 a5 a6 a7 a8 a9 a10 a11 a12 a13 a14 a15 a16:=by kernel_rfl
def qye:List (Nat×Ct KT):=[(9,ct9),(10,zib),(11,zic),(12,zid),(13,zie)]
abbrev qoh (a0:Int) (a1:Int) (a2:Int) (a3:Int) (a4:Bool) (a5:Int) (a6:Bool) (a7:Bool) (a8:Int) (a9:Int) (a10:Int) (a11:Int) (a12:Bool) (a13:Int) (a14:Int) (a15:Int) (a16:Int) (a17:List UInt8):PV KT:=.sb 0 false ((true)) ((true)=true) ((true)=false)
abbrev qk2 (a0:Int) (a1:Int) (a2:Int) (a3:Int) (a4:Bool) (a5:Int) (a6:Bool) (a7:Bool) (a8:Int) (a9:Int) (a10:Int) (a11:Int) (a12:Bool) (a13:Int) (a14:Int) (a15:Int) (a16:Int) (a17:List UInt8):Prop:=
((300<(ln a17)->
(True)/\
((true)=(true))/\
 True))/\
((ln a17)<=300->
(True)/\
(True)/\
((ln a17<=300))/\
((ln a17<=300))/\
((((zk (Sign.mk a0 a1 a2 a3 a4 a5 a6 a7 a8 a9 a10 a11 a12 a13 a14 a15 a16)).1)=((zk (Sign.mk a0 a1 a2 a3 a4 a5 a6 a7 a8 a9 a10 a11 a12 a13 a14 a15 a16)).1)->
((((zk (Sign.mk a0 a1 a2 a3 a4 a5 a6 a7 a8 a9 a10 a11 a12 a13 a14 a15 a16)).2)=((zk (Sign.mk a0 a1 a2 a3 a4 a5 a6 a7 a8 a9 a10 a11 a12 a13 a14 a15 a16)).2)->
((((((qw a17).1).Kind)=(((qu a17).1).Kind)/\((((qw a17).1).Value)=(((qu a17).1).Value)/\((((qw a17).1).Place)=(((qu a17).1).Place)/\((((qw a17).1).Acc)=(((qu a17).1).Acc)/\((((qw a17).1).Color)=(((qu a17).1).Color)/\((((qw a17).1).Stem)=(((qu a17).1).Stem)/\((((qw a17).1).Oblique)=(((qu a17).1).Oblique)/\((((qw a17).1).Last)=(((qu a17).1).Last)/\((((qw a17).1).MensMax)=(((qu a17).1).MensMax)/\((((qw a17).1).MensMod)=(((qu a17).1).MensMod)/\((((qw a17).1).MensTem)=(((qu a17).1).MensTem)/\((((qw a17).1).MensPro)=(((qu a17).1).MensPro)/\((((qw a17).1).Stroke)=(((qu a17).1).Stroke)/\((((qw a17).1).N)=(((qu a17).1).N)/\((((qw a17).1).D)=(((qu a17).1).D)/\((((qw a17).1).ClefStep)=(((qu a17).1).ClefStep)/\(((qw a17).1).ClefLine)=(((qu a17).1).ClefLine)))))))))))))))))->
((((qw a17).2)=((qu a17).2)->
(True)/\
((true)=(true))/\
 True))/\
(((qw a17).2)≠((qu a17).2)->
(false=(true))/\
 True)))/\
(((((qw a17).1).Kind)≠(((qu a17).1).Kind)∨((((qw a17).1).Value)≠(((qu a17).1).Value)∨((((qw a17).1).Place)≠(((qu a17).1).Place)∨((((qw a17).1).Acc)≠(((qu a17).1).Acc)∨((((qw a17).1).Color)≠(((qu a17).1).Color)∨((((qw a17).1).Stem)≠(((qu a17).1).Stem)∨((((qw a17).1).Oblique)≠(((qu a17).1).Oblique)∨((((qw a17).1).Last)≠(((qu a17).1).Last)∨((((qw a17).1).MensMax)≠(((qu a17).1).MensMax)∨((((qw a17).1).MensMod)≠(((qu a17).1).MensMod)∨((((qw a17).1).MensTem)≠(((qu a17).1).MensTem)∨((((qw a17).1).MensPro)≠(((qu a17).1).MensPro)∨((((qw a17).1).Stroke)≠(((qu a17).1).Stroke)∨((((qw a17).1).N)≠(((qu a17).1).N)∨((((qw a17).1).D)≠(((qu a17).1).D)∨((((qw a17).1).ClefStep)≠(((qu a17).1).ClefStep)∨(((qw a17).1).ClefLine)≠(((qu a17).1).ClefLine)))))))))))))))))->
(false=(true))/\
 True)))/\
(((zk (Sign.mk a0 a1 a2 a3 a4 a5 a6 a7 a8 a9 a10 a11 a12 a13 a14 a15 a16)).2)≠((zk (Sign.mk a0 a1 a2 a3 a4 a5 a6 a7 a8 a9 a10 a11 a12 a13 a14 a15 a16)).2)->
(false=(true))/\
 True)))/\
(((zk (Sign.mk a0 a1 a2 a3 a4 a5 a6 a7 a8 a9 a10 a11 a12 a13 a14 a15 a16)).1)≠((zk (Sign.mk a0 a1 a2 a3 a4 a5 a6 a7 a8 a9 a10 a11 a12 a13 a14 a15 a16)).1)->
(false=(true))/\
 True))
theorem q05 (a0:Int) (a1:Int) (a2:Int) (a3:Int) (a4:Bool) (a5:Int) (a6:Bool) (a7:Bool) (a8:Int) (a9:Int) (a10:Int) (a11:Int) (a12:Bool) (a13:Int) (a14:Int) (a15:Int) (a16:Int) (a17:List UInt8):qau (qq XK (j7 qye) (fun _ _=>False) (fun _ _=>0)) {cfg sp with ann:=qar []} 3 3 [.agg [.int .i64 none (a0),.int .i64 none (a1),.int .i64 none (a2),.int .i64 none (a3),.sb 0 false (a4) (a4=true) (a4=false),.int .i64 none (a5),.sb 0 false (a6) (a6=true) (a6=false),.sb 0 false (a7) (a7=true) (a7=false),.int .i64 none (a8),.int .i64 none (a9),.int .i64 none (a10),.int .i64 none (a11),.sb 0 false (a12) (a12=true) (a12=false),.int .i64 none (a13),.int .i64 none (a14),.int .i64 none (a15),.int .i64 none (a16)],.str (a17)] (qoh a0 a1 a2 a3 a4 a5 a6 a7 a8 a9 a10 a11 a12 a13 a14 a15 a16 a17)=qk2 a0 a1 a2 a3 a4 a5 a6 a7 a8 a9 a10 a11 a12 a13 a14 a15 a16 a17:=by kernel_rfl
end Go.Proofs.YtbopmiclcimjgaaGreatDoor
