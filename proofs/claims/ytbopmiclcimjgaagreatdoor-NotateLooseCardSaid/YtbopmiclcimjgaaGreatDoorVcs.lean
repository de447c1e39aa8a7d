/- CONDITIONS, as E3 computes them. Made by program (vc.py). -/
import Derived.Test.YtbopmiclcimjgaaGreatDoorCts
namespace Go.Proofs.YtbopmiclcimjgaaGreatDoor
open Go Go.E2 Go.E3
set_option maxRecDepth 100000
variable {sp:Nat->Option (List V->Heap->Option (CR×Heap))}

def q8c:List (Nat×Ct KT):=[]
abbrev qv4 (a0:Int) (a1:Int) (a2:Int) (a3:Int):PV KT:=.int .i64 none ((qb5 a0 a1 a2 a3))
abbrev qfl (v0:Int) (v1:Int) (v2:Int) (v3:Int) (p:Prop):Prop:=
((v0:Int)=v0)/\
((v1:Int)=v1)/\
((v2:Int)=v2)/\
((v3:Int)=v3)/\
 p
abbrev qr5 (a0:Int) (a1:Int) (a2:Int) (a3:Int):Prop:=
(j8 a0 a1 a2 a3 0)/\
(∀ x0:Int,
(j8 a0 a1 a2 a3 x0->
((x0<4->
(Wn x0 4)/\
(((x0:Int)=0->
((a0≠2->
((a0≠3->
((12:Int)=(qb5 a0 a1 a2 a3))/\
 True))/\
(a0=3->
(I64 (x0+1))/\
(qfl a0 a1 a2 a3 (
(j8 a0 a1 a2 a3 (x0+1))/\
 zq a0 a1 a2 a3 (x0+1)<zq a0 a1 a2 a3 x0)))))/\
(a0=2->
(I64 (x0+1))/\
(qfl a0 a1 a2 a3 (
(j8 a0 a1 a2 a3 (x0+1))/\
 zq a0 a1 a2 a3 (x0+1)<zq a0 a1 a2 a3 x0)))))/\
(((x0:Int)=1->
((a1≠2->
((a1≠3->
((12:Int)=(qb5 a0 a1 a2 a3))/\
 True))/\
(a1=3->
(I64 (x0+1))/\
(qfl a0 a1 a2 a3 (
(j8 a0 a1 a2 a3 (x0+1))/\
 zq a0 a1 a2 a3 (x0+1)<zq a0 a1 a2 a3 x0)))))/\
(a1=2->
(I64 (x0+1))/\
(qfl a0 a1 a2 a3 (
(j8 a0 a1 a2 a3 (x0+1))/\
 zq a0 a1 a2 a3 (x0+1)<zq a0 a1 a2 a3 x0)))))/\
(((x0:Int)=2->
((a2≠2->
((a2≠3->
((12:Int)=(qb5 a0 a1 a2 a3))/\
 True))/\
(a2=3->
(I64 (x0+1))/\
(qfl a0 a1 a2 a3 (
(j8 a0 a1 a2 a3 (x0+1))/\
 zq a0 a1 a2 a3 (x0+1)<zq a0 a1 a2 a3 x0)))))/\
(a2=2->
(I64 (x0+1))/\
(qfl a0 a1 a2 a3 (
(j8 a0 a1 a2 a3 (x0+1))/\
 zq a0 a1 a2 a3 (x0+1)<zq a0 a1 a2 a3 x0)))))/\
(((x0:Int)=3->
((a3≠2->
((a3≠3->
((12:Int)=(qb5 a0 a1 a2 a3))/\
 True))/\
(a3=3->
(I64 (x0+1))/\
(qfl a0 a1 a2 a3 (
(j8 a0 a1 a2 a3 (x0+1))/\
 zq a0 a1 a2 a3 (x0+1)<zq a0 a1 a2 a3 x0)))))/\
(a3=2->
(I64 (x0+1))/\
(qfl a0 a1 a2 a3 (
(j8 a0 a1 a2 a3 (x0+1))/\
 zq a0 a1 a2 a3 (x0+1)<zq a0 a1 a2 a3 x0)))))/\
 True))/\
(4<=x0->
((0:Int)=(qb5 a0 a1 a2 a3))/\
 True)))
theorem zdv (a0:Int) (a1:Int) (a2:Int) (a3:Int):qbs (qq XK (qav q8c) (fun j ns=>match j,ns with | 0,[.i y0]=>j8 a0 a1 a2 a3 y0 | _,_=>False) (fun j ns=>match j,ns with | 0,[.i y0]=>zq a0 a1 a2 a3 y0 | _,_=>0)) {cfg sp with ann:=qbp [(59,26,.inv 0 [.one 7 (.int .i64)] [])]} 3 59 [.agg [.int .i64 none (a0),.int .i64 none (a1),.int .i64 none (a2),.int .i64 none (a3)]] (qv4 a0 a1 a2 a3)=qr5 a0 a1 a2 a3:=by kernel_rfl
def qzd:List (Nat×Ct KT):=[]
abbrev qop (a0:ZB) (a1:ZB):PV KT:=.sb 0 false ((preB a0 a1)) ((preB a0 a1)=true) ((preB a0 a1)=false)
abbrev qlg (a0:ZB) (a1:ZB):Prop:=
(((ln a1)<=(ln a0)->
((0:Int)<=(ln a1)/\(ln a1)<=ln a0)/\
((decide ((upto a0 (ln a1))=a1))=(preB a0 a1))/\
 True))/\
((ln a0)<(ln a1)->
(false=(preB a0 a1))/\
 True)
theorem q2d (a0:ZB) (a1:ZB):qbs (qq XK (qav qzd) (fun _ _=>False) (fun _ _=>0)) {cfg sp with ann:=qbp []} 3 94 [.str (a0),.str (a1)] (qop a0 a1)=qlg a0 a1:=by kernel_rfl
def zaw:List (Nat×Ct KT):=[]
abbrev qy2 (a0:Int) (a1:Int) (a2:Int) (a3:Int):PV KT:=.str ((jr a0 a1 a2 a3))
abbrev qtk (a0:Int) (a1:Int) (a2:Int) (a3:Int):Prop:=
 let l2_:=qf5 (qg8 ([]:List MapIS) (MapIS.mk 3 ([46]:ZB))) (MapIS.mk a3 ([]:ZB));
 let l1_:=qf5 (qg8 (qg8 ([]:List MapIS) (MapIS.mk 2 ([67]:ZB))) (MapIS.mk 3 ([79]:ZB))) (MapIS.mk a2 ([]:ZB));
 let l0_:=qg8 (qg8 ([]:List MapIS) (MapIS.mk 2 ([50]:ZB))) (MapIS.mk 3 ([51]:ZB));
 let l3_:=(qf5 l0_ (MapIS.mk a0 ([]:ZB))).v++(qf5 l0_ (MapIS.mk a1 ([]:ZB))).v;
(True)/\
(True)/\
((a0=3->
(True)/\
(True)/\
(qh (List.length (qf5 l0_ (MapIS.mk a0 ([]:ZB))).v+List.length (qf5 l0_ (MapIS.mk a1 ([]:ZB))).v))/\
(True)/\
(True)/\
(True)/\
(qh (List.length l3_+List.length l1_.v))/\
(True)/\
(True)/\
(qh (List.length (l3_++l1_.v)+List.length l2_.v))/\
(((l3_++l1_.v)++l2_.v)=(jr a0 a1 a2 a3))/\
 True))/\
(a0≠3->
((a1=3->
(True)/\
(True)/\
(qh (List.length (qf5 l0_ (MapIS.mk a0 ([]:ZB))).v+List.length (qf5 l0_ (MapIS.mk a1 ([]:ZB))).v))/\
(True)/\
(True)/\
(True)/\
(qh (List.length l3_+List.length l1_.v))/\
(True)/\
(True)/\
(qh (List.length (l3_++l1_.v)+List.length l2_.v))/\
(((l3_++l1_.v)++l2_.v)=(jr a0 a1 a2 a3))/\
 True))/\
(a1≠3->
(True)/\
(True)/\
(True)/\
(qh (List.length ([]:ZB)+List.length l1_.v))/\
(True)/\
(True)/\
(qh (List.length (([]:ZB)++l1_.v)+List.length l2_.v))/\
(((([]:ZB)++l1_.v)++l2_.v)=(jr a0 a1 a2 a3))/\
 True))
theorem zgf (a0:Int) (a1:Int) (a2:Int) (a3:Int):qbs (qq XK (qav zaw) (fun _ _=>False) (fun _ _=>0)) {cfg sp with ann:=qbp []} 3 114 [.agg [.int .i64 none (a0),.int .i64 none (a1),.int .i64 none (a2),.int .i64 none (a3)]] (qy2 a0 a1 a2 a3)=qtk a0 a1 a2 a3:=by kernel_rfl
def q8t:List (Nat×Ct KT):=[(59,znc),(114,zbi)]
abbrev qwe (a0:Int) (a1:Int) (a2:Int) (a3:Int):PV KT:=.tuple [.str (((qki a0 a1 a2 a3).1)),.int .i64 none (((qki a0 a1 a2 a3).2))]
abbrev qsb (a0:Int) (a1:Int) (a2:Int) (a3:Int):Prop:=
(True)/\
(((qb5 a0 a1 a2 a3)≠0->
(([]:ZB)=((qki a0 a1 a2 a3).1))/\
(((qb5 a0 a1 a2 a3):Int)=((qki a0 a1 a2 a3).2))/\
 True))/\
((qb5 a0 a1 a2 a3)=0->
(True)/\
((jr a0 a1 a2 a3)=((qki a0 a1 a2 a3).1))/\
((0:Int)=((qki a0 a1 a2 a3).2))/\
 True)
theorem zd7 (a0:Int) (a1:Int) (a2:Int) (a3:Int):qbs (qq XK (qav q8t) (fun _ _=>False) (fun _ _=>0)) {cfg sp with ann:=qbp []} 3 74 [.agg [.int .i64 none (a0),.int .i64 none (a1),.int .i64 none (a2),.int .i64 none (a3)]] (qwe a0 a1 a2 a3)=qsb a0 a1 a2 a3:=by kernel_rfl
def qtv (a0:ZB) (r0:Int) (r1:Int) (r2:Int) (r3:Int) (r4:Int):Prop:=
((r0:Int)=((qgf a0).1.1))/\
((r1:Int)=((qgf a0).1.2.1))/\
((r2:Int)=((qgf a0).1.2.2.1))/\
((r3:Int)=((qgf a0).1.2.2.2))/\
((r4:Int)=((qgf a0).2))/\
 True

def q4n:List (Nat×Ct KT):=[(114,zbi)]
abbrev qtw (a0:ZB):PV KT:=.tuple [.agg [.int .i64 none (((qgf a0).1.1)),.int .i64 none (((qgf a0).1.2.1)),.int .i64 none (((qgf a0).1.2.2.1)),.int .i64 none (((qgf a0).1.2.2.2))],.int .i64 none (((qgf a0).2))]
abbrev qo9 (a0:ZB):Prop:=
 let l0_:=j5 (j5 (j5 (j5 (j5 (j5 (j5 (j5 (j5 (j5 (j5 (j5 (j5 ([]:List MapSM) (MapSM.mk (jr 2 2 2 2) 2 2 2 2)) (MapSM.mk (jr 2 2 2 3) 2 2 2 3)) (MapSM.mk (jr 2 2 3 2) 2 2 3 2)) (MapSM.mk (jr 2 2 3 3) 2 2 3 3)) (MapSM.mk (jr 2 3 2 2) 2 3 2 2)) (MapSM.mk (jr 2 3 2 3) 2 3 2 3)) (MapSM.mk (jr 2 3 3 2) 2 3 3 2)) (MapSM.mk (jr 2 3 3 3) 2 3 3 3)) (MapSM.mk (jr 3 2 2 2) 3 2 2 2)) (MapSM.mk (jr 3 2 2 3) 3 2 2 3)) (MapSM.mk (jr 3 2 3 2) 3 2 3 2)) (MapSM.mk (jr 3 2 3 3) 3 2 3 3)) (MapSM.mk (jr 3 3 2 2) 3 3 2 2);
 let l1_:=j5 (j5 (j5 l0_ (MapSM.mk (jr 3 3 2 3) 3 3 2 3)) (MapSM.mk (jr 3 3 3 2) 3 3 3 2)) (MapSM.mk (jr 3 3 3 3) 3 3 3 3);
(True)/\
(True)/\
(True)/\
(True)/\
(True)/\
(True)/\
(True)/\
(True)/\
(True)/\
(True)/\
(True)/\
(True)/\
(True)/\
(True)/\
(True)/\
(True)/\
(True)/\
(True)/\
(True)/\
(True)/\
(True)/\
(True)/\
(True)/\
(True)/\
(True)/\
(True)/\
(True)/\
(True)/\
(True)/\
(True)/\
(True)/\
(True)/\
(True)/\
(((qxx l1_ (MapSM.mk a0 0 0 0 0))=false->
 qtv a0 0 0 0 0 3))/\
((qxx l1_ (MapSM.mk a0 0 0 0 0))=true->
 qtv a0 ((qkp l1_ (MapSM.mk a0 0 0 0 0)).vMax) ((qkp l1_ (MapSM.mk a0 0 0 0 0)).vMod) ((qkp l1_ (MapSM.mk a0 0 0 0 0)).vTem) ((qkp l1_ (MapSM.mk a0 0 0 0 0)).vPro) 0)
theorem q8n (a0:ZB):qbs (qq XK (qav q4n) (fun _ _=>False) (fun _ _=>0)) {cfg sp with ann:=qbp [(78,58,.unroll 17)]} 6 78 [.str (a0)] (qtw a0)=qo9 a0:=by kernel_rfl
def q4l:List (Nat×Ct KT):=[]
abbrev qtu (a0:ZB):PV KT:=.tuple [.int .i64 none (((qx a0).1)),.sb 0 false (((qx a0).2)) (((qx a0).2)=true) (((qx a0).2)=false)]
abbrev qo8 (a0:ZB):Prop:=
((a0=([]:ZB)->
((0:Int)=((qx a0).1))/\
(false=((qx a0).2))/\
 True))/\
(a0≠([]:ZB)->
(Wn 0 (ln a0))/\
(((bx a0 0)=48->
((1<(ln a0)->
((0:Int)=((qx a0).1))/\
(false=((qx a0).2))/\
 True))/\
((ln a0)<=1->
(qbj a0 0 0)/\
(∀ x3:Int,
(∀ x4:Int,
(qbj a0 x3 x4->
((x4<(ln a0)->
(Wn x4 (ln a0))/\
(((bx a0 x4)<48->
((0:Int)=((qx a0).1))/\
(false=((qx a0).2))/\
 True))/\
(48<=(bx a0 x4)->
(Wn x4 (ln a0))/\
((57<(bx a0 x4)->
((0:Int)=((qx a0).1))/\
(false=((qx a0).2))/\
 True))/\
((bx a0 x4)<=57->
(I64 (10 * x3))/\
(Wn x4 (ln a0))/\
(U8 ((bx a0 x4)-48))/\
(I64 ((bx a0 x4)-48))/\
(I64 ((10 * x3)+((bx a0 x4)-48)))/\
((1099511627776<((10 * x3)+((bx a0 x4)-48))->
((0:Int)=((qx a0).1))/\
(false=((qx a0).2))/\
 True))/\
(((10 * x3)+((bx a0 x4)-48))<=1099511627776->
(I64 (x4+1))/\
(qbj a0 ((10 * x3)+((bx a0 x4)-48)) (x4+1))/\
 qcl a0 ((10 * x3)+((bx a0 x4)-48)) (x4+1)<qcl a0 x3 x4)))))/\
((ln a0)<=x4->
((x3:Int)=((qx a0).1))/\
(true=((qx a0).2))/\
 True)))))))/\
((bx a0 0)≠48->
(qbj a0 0 0)/\
(∀ x2:Int,
(∀ x3:Int,
(qbj a0 x2 x3->
((x3<(ln a0)->
(Wn x3 (ln a0))/\
(((bx a0 x3)<48->
((0:Int)=((qx a0).1))/\
(false=((qx a0).2))/\
 True))/\
(48<=(bx a0 x3)->
(Wn x3 (ln a0))/\
((57<(bx a0 x3)->
((0:Int)=((qx a0).1))/\
(false=((qx a0).2))/\
 True))/\
((bx a0 x3)<=57->
(I64 (10 * x2))/\
(Wn x3 (ln a0))/\
(U8 ((bx a0 x3)-48))/\
(I64 ((bx a0 x3)-48))/\
(I64 ((10 * x2)+((bx a0 x3)-48)))/\
((1099511627776<((10 * x2)+((bx a0 x3)-48))->
((0:Int)=((qx a0).1))/\
(false=((qx a0).2))/\
 True))/\
(((10 * x2)+((bx a0 x3)-48))<=1099511627776->
(I64 (x3+1))/\
(qbj a0 ((10 * x2)+((bx a0 x3)-48)) (x3+1))/\
 qcl a0 ((10 * x2)+((bx a0 x3)-48)) (x3+1)<qcl a0 x2 x3)))))/\
((ln a0)<=x3->
((x2:Int)=((qx a0).1))/\
(true=((qx a0).2))/\
 True))))))
theorem q8k (a0:ZB):qbs (qq XK (qav q4l) (fun j ns=>match j,ns with | 0,[.i y0,.i y1]=>qbj a0 y0 y1 | _,_=>False) (fun j ns=>match j,ns with | 0,[.i y0,.i y1]=>qcl a0 y0 y1 | _,_=>0)) {cfg sp with ann:=qbp [(118,122,.inv 0 [.one 4 (.int .i64),.one 20 (.int .i64)] [])]} 3 118 [.str (a0)] (qtu a0)=qo8 a0:=by kernel_rfl
def q4u:List (Nat×Ct KT):=[(118,q5g)]
abbrev qty (a0:ZB):PV KT:=.tuple [.int .i64 none (((qbg a0).1)),.sb 0 false (((qbg a0).2)) (((qbg a0).2)=true) (((qbg a0).2)=false)]
abbrev qpa (a0:ZB):Prop:=
 let l0_:=ln ([45]:ZB);
((l0_<=(ln a0)->
((0:Int)<=l0_/\l0_<=ln a0)/\
(((upto a0 l0_)≠([45]:ZB)->
((ln a0<=1000000))/\
((((qx a0).2)=false->
((0:Int)=((qbg a0).1))/\
(false=((qbg a0).2))/\
 True))/\
(((qx a0).2)=true->
((((qx a0).1):Int)=((qbg a0).1))/\
(true=((qbg a0).2))/\
 True)))/\
((upto a0 l0_)=([45]:ZB)->
((0:Int)<=l0_/\l0_<=ln a0)/\
((ln (fr a0 l0_)<=1000000))/\
((((qx (fr a0 l0_)).2)=false->
((0:Int)=((qbg a0).1))/\
(false=((qbg a0).2))/\
 True))/\
(((qx (fr a0 l0_)).2)=true->
((((qx (fr a0 l0_)).1)=0->
((0:Int)=((qbg a0).1))/\
(false=((qbg a0).2))/\
 True))/\
(((qx (fr a0 l0_)).1)≠0->
(I64 (-((qx (fr a0 l0_)).1)))/\
(((-((qx (fr a0 l0_)).1)):Int)=((qbg a0).1))/\
(true=((qbg a0).2))/\
 True)))))/\
((ln a0)<l0_->
((ln a0<=1000000))/\
((((qx a0).2)=false->
((0:Int)=((qbg a0).1))/\
(false=((qbg a0).2))/\
 True))/\
(((qx a0).2)=true->
((((qx a0).1):Int)=((qbg a0).1))/\
(true=((qbg a0).2))/\
 True))
theorem q8s (a0:ZB):qbs (qq XK (qav q4u) (fun _ _=>False) (fun _ _=>0)) {cfg sp with ann:=qbp []} 3 136 [.str (a0)] (qty a0)=qpa a0:=by kernel_rfl
def qv5:List (Nat×Ct KT):=[(137,zbk)]
abbrev qmf (a0:ZB) (a1:Int):PV KT:=.int .i64 none ((jc a0 a1))
abbrev qoq (a0:ZB) (a1:Int):Prop:=
(True)/\
(((jc a0 a1):Int)=(jc a0 a1))/\
 True
theorem qzg (a0:ZB) (a1:Int):qbs (qq XK (qav qv5) (fun _ _=>False) (fun _ _=>0)) {cfg sp with ann:=qbp []} 3 77 [.str (a0),.int .u8 none (a1)] (qmf a0 a1)=qoq a0 a1:=by kernel_rfl
end Go.Proofs.YtbopmiclcimjgaaGreatDoor
namespace Go.Proofs.YtbopmiclcimjgaaGreatDoor
open Go Go.E2 Go.E3
set_option maxRecDepth 100000
variable {sp:Nat->Option (List V->Heap->Option (CR×Heap))}

def zi (a0:ZB) (r0:Int) (r1:Int) (r2:Int) (r3:Int) (r4:Bool) (r5:Int) (r6:Bool) (r7:Bool) (r8:Int) (r9:Int) (r10:Int) (r11:Int) (r12:Bool) (r13:Int) (r14:Int) (r15:Int) (r16:Int) (r17:Int):Prop:=
((r0:Int)=(((zg a0).1).Kind))/\
((r1:Int)=(((zg a0).1).Value))/\
((r2:Int)=(((zg a0).1).Place))/\
((r3:Int)=(((zg a0).1).Acc))/\
(r4=(((zg a0).1).Color))/\
((r5:Int)=(((zg a0).1).Stem))/\
(r6=(((zg a0).1).Oblique))/\
(r7=(((zg a0).1).Last))/\
((r8:Int)=(((zg a0).1).MensMax))/\
((r9:Int)=(((zg a0).1).MensMod))/\
((r10:Int)=(((zg a0).1).MensTem))/\
((r11:Int)=(((zg a0).1).MensPro))/\
(r12=(((zg a0).1).Stroke))/\
((r13:Int)=(((zg a0).1).N))/\
((r14:Int)=(((zg a0).1).D))/\
((r15:Int)=(((zg a0).1).ClefStep))/\
((r16:Int)=(((zg a0).1).ClefLine))/\
((r17:Int)=((zg a0).2))/\
 True

def zd3:List (Nat×Ct KT):=[(117,qmw),(94,znf),(136,zbj),(74,znd),(77,zh9),(78,zne),(118,q5g),(32,zh8)]
abbrev q0b (a0:ZB):PV KT:=.tuple [.agg [.int .i64 none ((((zg a0).1).Kind)),.int .i64 none ((((zg a0).1).Value)),.int .i64 none ((((zg a0).1).Place)),.int .i64 none ((((zg a0).1).Acc)),.sb 0 false ((((zg a0).1).Color)) ((((zg a0).1).Color)=true) ((((zg a0).1).Color)=false),.int .i64 none ((((zg a0).1).Stem)),.sb 0 false ((((zg a0).1).Oblique)) ((((zg a0).1).Oblique)=true) ((((zg a0).1).Oblique)=false),.sb 0 false ((((zg a0).1).Last)) ((((zg a0).1).Last)=true) ((((zg a0).1).Last)=false),.int .i64 none ((((zg a0).1).MensMax)),.int .i64 none ((((zg a0).1).MensMod)),.int .i64 none ((((zg a0).1).MensTem)),.int .i64 none ((((zg a0).1).MensPro)),.sb 0 false ((((zg a0).1).Stroke)) ((((zg a0).1).Stroke)=true) ((((zg a0).1).Stroke)=false),.int .i64 none ((((zg a0).1).N)),.int .i64 none ((((zg a0).1).D)),.int .i64 none ((((zg a0).1).ClefStep)),.int .i64 none ((((zg a0).1).ClefLine))],.int .i64 none (((zg a0).2))]
abbrev qiv (v0:ZB) (v1:Bool) (v2:Int) (p:Prop):Prop:=
(v0=v0)/\
(v1=v1)/\
((v2:Int)=v2)/\
(([]:ZB)=([]:ZB))/\
 p
abbrev qmi (v0:ZB) (v1:Bool) (v2:Int) (v3:ZB) (v4:Int) (v5:Int) (p:Prop):Prop:=
(v0=v0)/\
(v1=v1)/\
((v2:Int)=v2)/\
((((qbg (v3++(sub v0 v4 v5))).1):Int)=((qbg (v3++(sub v0 v4 v5))).1))/\
(([]:ZB)=([]:ZB))/\
 p
abbrev qfz (v0:ZB) (p:Prop):Prop:=
(v0=v0)/\
(([116]:ZB)=([116]:ZB))/\
 p
abbrev qmj (v0:ZB) (v1:Bool) (v2:ZB) (v3:Int) (v4:Int) (p:Prop):Prop:=
(v0=v0)/\
(v1=v1)/\
((((qbg (v2++(sub v0 v3 v4))).1):Int)=((qbg (v2++(sub v0 v3 v4))).1))/\
(([116]:ZB)=([116]:ZB))/\
 p
abbrev qmk (v0:ZB) (v1:Bool) (v2:Int) (v3:Int) (v4:Bool) (p:Prop):Prop:=
(v0=v0)/\
(v1=v1)/\
((v2:Int)=v2)/\
((v3:Int)=v3)/\
(v4=v4)/\
(([116]:ZB)=([116]:ZB))/\
 p
abbrev qml (v0:ZB) (v1:Bool) (v2:Int) (p:Prop):Prop:=
(v0=v0)/\
(v1=v1)/\
((((qx (sub v0 (0+(ln ([]:ZB))) v2)).1):Int)=((qx (sub v0 (0+(ln ([]:ZB))) v2)).1))/\
(([]:ZB)=([]:ZB))/\
 p
abbrev qwd (a0:ZB):Prop:=
 let l12_:=0+(ln ([40]:ZB));
 let l7_:=0+(ln ([116]:ZB));
 let l6_:=0+(ln ([114]:ZB));
 let l5_:=0+(ln ([93]:ZB));
 let l4_:=0+(ln ([38]:ZB));
 let l3_:=0+(ln ([64]:ZB));
 let l1_:=0+(ln ([]:ZB));
 let l0_:=l12_+(if (jc (fr a0 l12_) 41) > 0 then (jc (fr a0 l12_) 41) else 0);
 let l9_:=l0_+(ln ([41]:ZB));
 let l2_:=qgf (sub a0 l12_ l0_);
(fun r1_:Int=>
(fun r0_:Int=>
((qc a0 0)/\
 True)/\
(qc a0 0->
(((0:Int)<=0/\0<=ln a0)/\
(True)/\
(((preB (fr a0 0) ([]:ZB))=true->
(I64 l1_)/\
((kg a0 0 l1_)/\
(∀ x2:Int,
 let l13_:=sub ([88,76,66,83,77,81,70,90]:ZB) x2 (x2+1);
(kg a0 x2 l1_->
((x2<8->
(I64 (x2+1))/\
((0:Int)<=x2/\(x2:Int)<=(x2+1)/\(x2+1)<=ln ([88,76,66,83,77,81,70,90]:ZB))/\
((0:Int)<=l1_/\l1_<=ln a0)/\
(True)/\
(((preB (fr a0 l1_) l13_)=true->
(I64 (l1_+(ln l13_)))/\
(I64 (x2+1))/\
(a0=a0)/\
(([]:ZB)=([]:ZB))/\
(qbk a0 (l1_+(ln l13_)) false (x2+1))/\
 True))/\
((preB (fr a0 l1_) l13_)=false->
(I64 (x2+1))/\
(a0=a0)/\
((l1_:Int)=l1_)/\
(([]:ZB)=([]:ZB))/\
(kg a0 (x2+1) l1_)/\
 qb6 a0 (x2+1) l1_<qb6 a0 x2 l1_)))/\
(8<=x2->
(a0=a0)/\
(([]:ZB)=([]:ZB))/\
(qbk a0 l1_ true 0)/\
 True))))/\
(∀ x2:Int,
(∀ x3:Bool,
(∀ x4:Int,
(qbk a0 x2 x3 x4->
(((0:Int)<=x2/\x2<=ln a0)/\
(True)/\
(((preB (fr a0 x2) ([45]:ZB))=true->
(I64 (x2+(ln ([45]:ZB))))/\
(qiv a0 x3 x4 (
(jq a0 ([45]:ZB) (x2+(ln ([45]:ZB))) x2)/\
 True))))/\
((preB (fr a0 x2) ([45]:ZB))=false->
(qiv a0 x3 x4 (
(jq a0 ([]:ZB) x2 x2)/\
 True))))/\
(∀ x6:ZB,
(∀ x7:Int,
(jq a0 x6 x7 x2->
((zb a0 x7 x7)/\
(∀ x9:Int,
(zb a0 x9 x7->
((x9<(ln a0)->
(Wn x9 (ln a0))/\
((48<=(bx a0 x9)->
(Wn x9 (ln a0))/\
(((bx a0 x9)<=57->
(I64 (x9+1))/\
(qiv a0 x3 x4 (
(zb a0 (x9+1) x7)/\
 z9 a0 (x9+1) x7<z9 a0 x9 x7))))/\
(57<(bx a0 x9)->
(qiv a0 x3 x4 (
(qj a0 x9 x7)/\
 True)))))/\
((bx a0 x9)<48->
(qiv a0 x3 x4 (
(qj a0 x9 x7)/\
 True)))))/\
((ln a0)<=x9->
(qiv a0 x3 x4 (
(qj a0 x9 x7)/\
 True))))))/\
(∀ x9:Int,
 let l8_:=qbg (x6++(sub a0 x7 x9));
(qj a0 x9 x7->
((0:Int)<=x7/\(x7:Int)<=x9/\x9<=ln a0)/\
(qh (List.length x6+List.length (sub a0 x7 x9)))/\
((ln (x6++(sub a0 x7 x9))<=1000000))/\
(((x3=true->
(a0=a0)/\
((x9:Int)=x9)/\
((x4:Int)=x4)/\
(([]:ZB)=([]:ZB))/\
(qb3 a0 true x3 (l8_.2))/\
 True))/\
(x3=false->
(a0=a0)/\
((x9:Int)=x9)/\
((x4:Int)=x4)/\
(([]:ZB)=([]:ZB))/\
(qb3 a0 (!(l8_.2)) x3 (l8_.2))/\
 True))/\
(∀ x11:Bool,
(qb3 a0 x11 x3 (l8_.2)->
(((0:Int)<=x9/\x9<=ln a0)/\
(True)/\
(((preB (fr a0 x9) ([98]:ZB))=true->
(I64 (x9+(ln ([98]:ZB))))/\
(qmi a0 x11 x4 x6 x7 x9 (
(zv a0 (x9+(ln ([98]:ZB))) (-1) x9)/\
 True))))/\
((preB (fr a0 x9) ([98]:ZB))=false->
((0:Int)<=x9/\x9<=ln a0)/\
(True)/\
(((preB (fr a0 x9) ([35]:ZB))=true->
(I64 (x9+(ln ([35]:ZB))))/\
(qmi a0 x11 x4 x6 x7 x9 (
(zv a0 (x9+(ln ([35]:ZB))) 1 x9)/\
 True))))/\
((preB (fr a0 x9) ([35]:ZB))=false->
((0:Int)<=x9/\x9<=ln a0)/\
(True)/\
(((preB (fr a0 x9) ([110]:ZB))=true->
(I64 (x9+(ln ([110]:ZB))))/\
(qmi a0 x11 x4 x6 x7 x9 (
(zv a0 (x9+(ln ([110]:ZB))) 2 x9)/\
 True))))/\
((preB (fr a0 x9) ([110]:ZB))=false->
(qmi a0 x11 x4 x6 x7 x9 (
(zv a0 x9 0 x9)/\
 True))))))/\
(∀ x13:Int,
(∀ x14:Int,
(zv a0 x13 x14 x9->
((0:Int)<=x13/\x13<=ln a0)/\
(True)/\
(((preB (fr a0 x13) ([42]:ZB))=true->
(I64 (x13+(ln ([42]:ZB))))/\
((x11=true->
(qc a0 1)/\
 True))/\
(x11=false->
(((x13+(ln ([42]:ZB)))≠(ln a0)->
(qc a0 1)/\
 True))/\
((x13+(ln ([42]:ZB)))=(ln a0)->
(True)/\
(((ku (Sign.mk 1 x4 (l8_.1) x14 true 0 false false 0 0 0 0 false 0 0 0 0))≠0->
 zi a0 0 0 0 0 false 0 false false 0 0 0 0 false 0 0 0 0 (ku (Sign.mk 1 x4 (l8_.1) x14 true 0 false false 0 0 0 0 false 0 0 0 0))))/\
((ku (Sign.mk 1 x4 (l8_.1) x14 true 0 false false 0 0 0 0 false 0 0 0 0))=0->
 zi a0 1 x4 (l8_.1) x14 true 0 false false 0 0 0 0 false 0 0 0 0 0)))))/\
((preB (fr a0 x13) ([42]:ZB))=false->
((x11=true->
(qc a0 1)/\
 True))/\
(x11=false->
((x13≠(ln a0)->
(qc a0 1)/\
 True))/\
(x13=(ln a0)->
(True)/\
(((ku (Sign.mk 1 x4 (l8_.1) x14 false 0 false false 0 0 0 0 false 0 0 0 0))≠0->
 zi a0 0 0 0 0 false 0 false false 0 0 0 0 false 0 0 0 0 (ku (Sign.mk 1 x4 (l8_.1) x14 false 0 false false 0 0 0 0 false 0 0 0 0))))/\
((ku (Sign.mk 1 x4 (l8_.1) x14 false 0 false false 0 0 0 0 false 0 0 0 0))=0->
 zi a0 1 x4 (l8_.1) x14 false 0 false false 0 0 0 0 false 0 0 0 0 0))))))))))))))))))))/\
((preB (fr a0 0) ([]:ZB))=false->
(qc a0 1)/\
 True))/\
(qc a0 1->
(((0:Int)<=0/\0<=ln a0)/\
(True)/\
(((preB (fr a0 0) ([114]:ZB))=true->
(I64 l6_)/\
(kg a0 0 l6_)/\
(∀ x3:Int,
 let l11_:=sub ([88,76,66,83,77,81,70,90]:ZB) x3 (x3+1);
(kg a0 x3 l6_->
((x3<8->
(I64 (x3+1))/\
((0:Int)<=x3/\(x3:Int)<=(x3+1)/\(x3+1)<=ln ([88,76,66,83,77,81,70,90]:ZB))/\
((0:Int)<=l6_/\l6_<=ln a0)/\
(True)/\
(((preB (fr a0 l6_) l11_)=true->
(I64 (l6_+(ln l11_)))/\
(I64 (x3+1))/\
(((l6_+(ln l11_))≠(ln a0)->
(qc a0 2)/\
 True))/\
((l6_+(ln l11_))=(ln a0)->
(True)/\
(((ku (Sign.mk 2 (x3+1) 0 0 false 0 false false 0 0 0 0 false 0 0 0 0))≠0->
 zi a0 0 0 0 0 false 0 false false 0 0 0 0 false 0 0 0 0 (ku (Sign.mk 2 (x3+1) 0 0 false 0 false false 0 0 0 0 false 0 0 0 0))))/\
((ku (Sign.mk 2 (x3+1) 0 0 false 0 false false 0 0 0 0 false 0 0 0 0))=0->
 zi a0 2 (x3+1) 0 0 false 0 false false 0 0 0 0 false 0 0 0 0 0))))/\
((preB (fr a0 l6_) l11_)=false->
(I64 (x3+1))/\
(a0=a0)/\
((l6_:Int)=l6_)/\
(([114]:ZB)=([114]:ZB))/\
(kg a0 (x3+1) l6_)/\
 qb6 a0 (x3+1) l6_<qb6 a0 x3 l6_)))/\
(8<=x3->
(qc a0 2)/\
 True)))))/\
((preB (fr a0 0) ([114]:ZB))=false->
(qc a0 2)/\
 True))/\
(qc a0 2->
(((0:Int)<=0/\0<=ln a0)/\
(True)/\
(((preB (fr a0 0) ([46]:ZB))=true->
(I64 (0+(ln ([46]:ZB))))/\
(((0+(ln ([46]:ZB)))≠(ln a0)->
(qc a0 3)/\
 True))/\
((0+(ln ([46]:ZB)))=(ln a0)->
(True)/\
(((ku (Sign.mk 3 0 0 0 false 0 false false 0 0 0 0 false 0 0 0 0))≠0->
 zi a0 0 0 0 0 false 0 false false 0 0 0 0 false 0 0 0 0 (ku (Sign.mk 3 0 0 0 false 0 false false 0 0 0 0 false 0 0 0 0))))/\
((ku (Sign.mk 3 0 0 0 false 0 false false 0 0 0 0 false 0 0 0 0))=0->
 zi a0 3 0 0 0 false 0 false false 0 0 0 0 false 0 0 0 0 0))))/\
((preB (fr a0 0) ([46]:ZB))=false->
(qc a0 3)/\
 True))/\
(qc a0 3->
(((0:Int)<=0/\0<=ln a0)/\
(True)/\
(((preB (fr a0 0) ([116]:ZB))=true->
(I64 l7_)/\
((((0:Int)<=l7_/\l7_<=ln a0)/\
(True)/\
(((preB (fr a0 l7_) ([45]:ZB))=true->
(I64 (l7_+(ln ([45]:ZB))))/\
(qfz a0 (
(jq a0 ([45]:ZB) (l7_+(ln ([45]:ZB))) l7_)/\
 True))))/\
((preB (fr a0 l7_) ([45]:ZB))=false->
(qfz a0 (
(jq a0 ([]:ZB) l7_ l7_)/\
 True))))/\
(∀ x5:ZB,
(∀ x6:Int,
(jq a0 x5 x6 l7_->
((zb a0 x6 x6)/\
(∀ x8:Int,
(zb a0 x8 x6->
((x8<(ln a0)->
(Wn x8 (ln a0))/\
((48<=(bx a0 x8)->
(Wn x8 (ln a0))/\
(((bx a0 x8)<=57->
(I64 (x8+1))/\
(qfz a0 (
(zb a0 (x8+1) x6)/\
 z9 a0 (x8+1) x6<z9 a0 x8 x6))))/\
(57<(bx a0 x8)->
(qfz a0 (
(qj a0 x8 x6)/\
 True)))))/\
((bx a0 x8)<48->
(qfz a0 (
(qj a0 x8 x6)/\
 True)))))/\
((ln a0)<=x8->
(qfz a0 (
(qj a0 x8 x6)/\
 True))))))/\
(∀ x8:Int,
(qj a0 x8 x6->
((0:Int)<=x6/\(x6:Int)<=x8/\x8<=ln a0)/\
(qh (List.length x5+List.length (sub a0 x6 x8)))/\
((ln (x5++(sub a0 x6 x8))<=1000000))/\
((a0=a0)/\
((x8:Int)=x8)/\
(([116]:ZB)=([116]:ZB))/\
(qb3 a0 (!((qbg (x5++(sub a0 x6 x8))).2)) false ((qbg (x5++(sub a0 x6 x8))).2))/\
 True)/\
(∀ x10:Bool,
(qb3 a0 x10 false ((qbg (x5++(sub a0 x6 x8))).2)->
(((0:Int)<=x8/\x8<=ln a0)/\
(True)/\
(((preB (fr a0 x8) ([98]:ZB))=true->
(I64 (x8+(ln ([98]:ZB))))/\
(qmj a0 x10 x5 x6 x8 (
(zv a0 (x8+(ln ([98]:ZB))) (-1) x8)/\
 True))))/\
((preB (fr a0 x8) ([98]:ZB))=false->
((0:Int)<=x8/\x8<=ln a0)/\
(True)/\
(((preB (fr a0 x8) ([35]:ZB))=true->
(I64 (x8+(ln ([35]:ZB))))/\
(qmj a0 x10 x5 x6 x8 (
(zv a0 (x8+(ln ([35]:ZB))) 1 x8)/\
 True))))/\
((preB (fr a0 x8) ([35]:ZB))=false->
((0:Int)<=x8/\x8<=ln a0)/\
(True)/\
(((preB (fr a0 x8) ([110]:ZB))=true->
(I64 (x8+(ln ([110]:ZB))))/\
(qmj a0 x10 x5 x6 x8 (
(zv a0 (x8+(ln ([110]:ZB))) 2 x8)/\
 True))))/\
((preB (fr a0 x8) ([110]:ZB))=false->
(qmj a0 x10 x5 x6 x8 (
(zv a0 x8 0 x8)/\
 True))))))/\
(∀ x12:Int,
(∀ x13:Int,
(zv a0 x12 x13 x8->
((0:Int)<=x12/\x12<=ln a0)/\
(True)/\
(((preB (fr a0 x12) ([42]:ZB))=true->
(I64 (x12+(ln ([42]:ZB))))/\
(qfz a0 (
(qb4 a0 (x12+(ln ([42]:ZB))) x10 ((qbg (x5++(sub a0 x6 x8))).1) x13 true l7_ false)/\
 True))))/\
((preB (fr a0 x12) ([42]:ZB))=false->
(qfz a0 (
(qb4 a0 x12 x10 ((qbg (x5++(sub a0 x6 x8))).1) x13 false l7_ false)/\
 True))))))))))))))/\
(∀ x5:Int,
(∀ x6:Bool,
(∀ x7:Int,
(∀ x8:Int,
(∀ x9:Bool,
(qb4 a0 x5 x6 x7 x8 x9 l7_ false->
(((0:Int)<=1/\(1:Int)<=2/\2<=ln ([32,94,118,62]:ZB))/\
((0:Int)<=x5/\x5<=ln a0)/\
(True)/\
(((preB (fr a0 x5) (sub ([32,94,118,62]:ZB) 1 2))=true->
(I64 (x5+(ln (sub ([32,94,118,62]:ZB) 1 2))))/\
(qmk a0 x6 x7 x8 x9 (
(ju a0 (x5+(ln (sub ([32,94,118,62]:ZB) 1 2))) 1 x5)/\
 True))))/\
((preB (fr a0 x5) (sub ([32,94,118,62]:ZB) 1 2))=false->
((0:Int)<=2/\(2:Int)<=3/\3<=ln ([32,94,118,62]:ZB))/\
((0:Int)<=x5/\x5<=ln a0)/\
(True)/\
(((preB (fr a0 x5) (sub ([32,94,118,62]:ZB) 2 3))=true->
(I64 (x5+(ln (sub ([32,94,118,62]:ZB) 2 3))))/\
(qmk a0 x6 x7 x8 x9 (
(ju a0 (x5+(ln (sub ([32,94,118,62]:ZB) 2 3))) 2 x5)/\
 True))))/\
((preB (fr a0 x5) (sub ([32,94,118,62]:ZB) 2 3))=false->
((0:Int)<=3/\(3:Int)<=4/\4<=ln ([32,94,118,62]:ZB))/\
((0:Int)<=x5/\x5<=ln a0)/\
(True)/\
(((preB (fr a0 x5) (sub ([32,94,118,62]:ZB) 3 4))=true->
(I64 (x5+(ln (sub ([32,94,118,62]:ZB) 3 4))))/\
(qmk a0 x6 x7 x8 x9 (
(ju a0 (x5+(ln (sub ([32,94,118,62]:ZB) 3 4))) 3 x5)/\
 True))))/\
((preB (fr a0 x5) (sub ([32,94,118,62]:ZB) 3 4))=false->
(qmk a0 x6 x7 x8 x9 (
(ju a0 x5 0 x5)/\
 True))))))/\
(∀ x11:Int,
(∀ x12:Int,
(ju a0 x11 x12 x5->
(((0:Int)<=x11/\x11<=ln a0)/\
(True)/\
(((preB (fr a0 x11) ([126]:ZB))=true->
(I64 (x11+(ln ([126]:ZB))))/\
(a0=a0)/\
(x6=x6)/\
((x7:Int)=x7)/\
((x8:Int)=x8)/\
(x9=x9)/\
((x12:Int)=x12)/\
(([116]:ZB)=([116]:ZB))/\
(qax a0 (x11+(ln ([126]:ZB))) true x11)/\
 True))/\
((preB (fr a0 x11) ([126]:ZB))=false->
(a0=a0)/\
(x6=x6)/\
((x7:Int)=x7)/\
((x8:Int)=x8)/\
(x9=x9)/\
((x12:Int)=x12)/\
(([116]:ZB)=([116]:ZB))/\
(qax a0 x11 false x11)/\
 True))/\
(∀ x14:Int,
(∀ x15:Bool,
(qax a0 x14 x15 x11->
((0:Int)<=x14/\x14<=ln a0)/\
(True)/\
(((preB (fr a0 x14) ([33]:ZB))=true->
(I64 (x14+(ln ([33]:ZB))))/\
((x6=true->
(qc a0 4)/\
 True))/\
(x6=false->
(((x14+(ln ([33]:ZB)))≠(ln a0)->
(qc a0 4)/\
 True))/\
((x14+(ln ([33]:ZB)))=(ln a0)->
(True)/\
(((ku (Sign.mk 4 0 x7 x8 x9 x12 x15 true 0 0 0 0 false 0 0 0 0))≠0->
 zi a0 0 0 0 0 false 0 false false 0 0 0 0 false 0 0 0 0 (ku (Sign.mk 4 0 x7 x8 x9 x12 x15 true 0 0 0 0 false 0 0 0 0))))/\
((ku (Sign.mk 4 0 x7 x8 x9 x12 x15 true 0 0 0 0 false 0 0 0 0))=0->
 zi a0 4 0 x7 x8 x9 x12 x15 true 0 0 0 0 false 0 0 0 0 0)))))/\
((preB (fr a0 x14) ([33]:ZB))=false->
((x6=true->
(qc a0 4)/\
 True))/\
(x6=false->
((x14≠(ln a0)->
(qc a0 4)/\
 True))/\
(x14=(ln a0)->
(True)/\
(((ku (Sign.mk 4 0 x7 x8 x9 x12 x15 false 0 0 0 0 false 0 0 0 0))≠0->
 zi a0 0 0 0 0 false 0 false false 0 0 0 0 false 0 0 0 0 (ku (Sign.mk 4 0 x7 x8 x9 x12 x15 false 0 0 0 0 false 0 0 0 0))))/\
((ku (Sign.mk 4 0 x7 x8 x9 x12 x15 false 0 0 0 0 false 0 0 0 0))=0->
 zi a0 4 0 x7 x8 x9 x12 x15 false 0 0 0 0 false 0 0 0 0 0))))))))))))))))))/\
((preB (fr a0 0) ([116]:ZB))=false->
(qc a0 4)/\
 True))/\
(qc a0 4->
(((0:Int)<=0/\0<=ln a0)/\
(True)/\
(((preB (fr a0 0) ([40]:ZB))=true->
(I64 l12_)/\
((0:Int)<=l12_/\l12_<=ln a0)/\
((U8 41))/\
(I64 l0_)/\
((0:Int)<=l12_/\(l12_:Int)<=l0_/\l0_<=ln a0)/\
(True)/\
(I64 l0_)/\
((0:Int)<=l0_/\l0_<=ln a0)/\
(True)/\
(((preB (fr a0 l0_) ([41]:ZB))=true->
(I64 l9_)/\
((0:Int)<=l9_/\l9_<=ln a0)/\
(True)/\
(((preB (fr a0 l9_) ([124]:ZB))=true->
(I64 (l9_+(ln ([124]:ZB))))/\
(((l2_.2)≠0->
(qc a0 5)/\
 True))/\
((l2_.2)=0->
(((l9_+(ln ([124]:ZB)))≠(ln a0)->
(qc a0 5)/\
 True))/\
((l9_+(ln ([124]:ZB)))=(ln a0)->
(True)/\
((r1_≠0->
 zi a0 0 0 0 0 false 0 false false 0 0 0 0 false 0 0 0 0 r1_))/\
(r1_=0->
 zi a0 5 0 0 0 false 0 false false (l2_.1.1) (l2_.1.2.1) (l2_.1.2.2.1) (l2_.1.2.2.2) true 0 0 0 0 0)))))/\
((preB (fr a0 l9_) ([124]:ZB))=false->
(((l2_.2)≠0->
(qc a0 5)/\
 True))/\
((l2_.2)=0->
((l9_≠(ln a0)->
(qc a0 5)/\
 True))/\
(l9_=(ln a0)->
(True)/\
((r0_≠0->
 zi a0 0 0 0 0 false 0 false false 0 0 0 0 false 0 0 0 0 r0_))/\
(r0_=0->
 zi a0 5 0 0 0 false 0 false false (l2_.1.1) (l2_.1.2.1) (l2_.1.2.2.1) (l2_.1.2.2.2) false 0 0 0 0 0))))))/\
((preB (fr a0 l0_) ([41]:ZB))=false->
((0:Int)<=l0_/\l0_<=ln a0)/\
(True)/\
(((preB (fr a0 l0_) ([124]:ZB))=true->
(I64 (l0_+(ln ([124]:ZB))))/\
(qc a0 5)/\
 True))/\
((preB (fr a0 l0_) ([124]:ZB))=false->
(qc a0 5)/\
 True))))/\
((preB (fr a0 0) ([40]:ZB))=false->
(qc a0 5)/\
 True))/\
(qc a0 5->
(((0:Int)<=0/\0<=ln a0)/\
(True)/\
(((preB (fr a0 0) ([]:ZB))=true->
(I64 l1_)/\
((zb a0 l1_ l1_)/\
(∀ x7:Int,
(zb a0 x7 l1_->
((x7<(ln a0)->
(Wn x7 (ln a0))/\
((48<=(bx a0 x7)->
(Wn x7 (ln a0))/\
(((bx a0 x7)<=57->
(I64 (x7+1))/\
(a0=a0)/\
(([]:ZB)=([]:ZB))/\
(zb a0 (x7+1) l1_)/\
 z9 a0 (x7+1) l1_<z9 a0 x7 l1_))/\
(57<(bx a0 x7)->
(a0=a0)/\
(([]:ZB)=([]:ZB))/\
(qj a0 x7 l1_)/\
 True)))/\
((bx a0 x7)<48->
(a0=a0)/\
(([]:ZB)=([]:ZB))/\
(qj a0 x7 l1_)/\
 True)))/\
((ln a0)<=x7->
(a0=a0)/\
(([]:ZB)=([]:ZB))/\
(qj a0 x7 l1_)/\
 True))))/\
(∀ x7:Int,
 let l10_:=qx (sub a0 l1_ x7);
(qj a0 x7 l1_->
((0:Int)<=l1_/\(l1_:Int)<=x7/\x7<=ln a0)/\
((ln (sub a0 l1_ x7)<=1000000))/\
((a0=a0)/\
((x7:Int)=x7)/\
(([]:ZB)=([]:ZB))/\
(jd a0 (!(l10_.2)) false (l10_.2))/\
 True)/\
(∀ x9:Bool,
(jd a0 x9 false (l10_.2)->
(((0:Int)<=x7/\x7<=ln a0)/\
(True)/\
(((preB (fr a0 x7) ([47]:ZB))=true->
(I64 (x7+(ln ([47]:ZB))))/\
(a0=a0)/\
(((l10_.1):Int)=(l10_.1))/\
(([]:ZB)=([]:ZB))/\
(qay a0 (x7+(ln ([47]:ZB))) x9 x7 x9)/\
 True))/\
((preB (fr a0 x7) ([47]:ZB))=false->
(a0=a0)/\
(((l10_.1):Int)=(l10_.1))/\
(([]:ZB)=([]:ZB))/\
(qay a0 x7 true x7 x9)/\
 True))/\
(∀ x11:Int,
(∀ x12:Bool,
(qay a0 x11 x12 x7 x9->
((zb a0 x11 x11)/\
(∀ x14:Int,
(zb a0 x14 x11->
((x14<(ln a0)->
(Wn x14 (ln a0))/\
((48<=(bx a0 x14)->
(Wn x14 (ln a0))/\
(((bx a0 x14)<=57->
(I64 (x14+1))/\
(qml a0 x12 x7 (
(zb a0 (x14+1) x11)/\
 z9 a0 (x14+1) x11<z9 a0 x14 x11))))/\
(57<(bx a0 x14)->
(qml a0 x12 x7 (
(qj a0 x14 x11)/\
 True)))))/\
((bx a0 x14)<48->
(qml a0 x12 x7 (
(qj a0 x14 x11)/\
 True)))))/\
((ln a0)<=x14->
(qml a0 x12 x7 (
(qj a0 x14 x11)/\
 True))))))/\
(∀ x14:Int,
(qj a0 x14 x11->
((0:Int)<=x11/\(x11:Int)<=x14/\x14<=ln a0)/\
((ln (sub a0 x11 x14)<=1000000))/\
(((x12=true->
(a0=a0)/\
((x14:Int)=x14)/\
(((l10_.1):Int)=(l10_.1))/\
(([]:ZB)=([]:ZB))/\
(jd a0 true x12 ((qx (sub a0 x11 x14)).2))/\
 True))/\
(x12=false->
(a0=a0)/\
((x14:Int)=x14)/\
(((l10_.1):Int)=(l10_.1))/\
(([]:ZB)=([]:ZB))/\
(jd a0 (!((qx (sub a0 x11 x14)).2)) x12 ((qx (sub a0 x11 x14)).2))/\
 True))/\
(∀ x16:Bool,
(jd a0 x16 x12 ((qx (sub a0 x11 x14)).2)->
((x16=true->
(qc a0 6)/\
 True))/\
(x16=false->
((x14≠(ln a0)->
(qc a0 6)/\
 True))/\
(x14=(ln a0)->
(True)/\
(((ku (Sign.mk 6 0 0 0 false 0 false false 0 0 0 0 false (l10_.1) ((qx (sub a0 x11 x14)).1) 0 0))≠0->
 zi a0 0 0 0 0 false 0 false false 0 0 0 0 false 0 0 0 0 (ku (Sign.mk 6 0 0 0 false 0 false false 0 0 0 0 false (l10_.1) ((qx (sub a0 x11 x14)).1) 0 0))))/\
((ku (Sign.mk 6 0 0 0 false 0 false false 0 0 0 0 false (l10_.1) ((qx (sub a0 x11 x14)).1) 0 0))=0->
 zi a0 6 0 0 0 false 0 false false 0 0 0 0 false (l10_.1) ((qx (sub a0 x11 x14)).1) 0 0 0))))))))))))))))/\
((preB (fr a0 0) ([]:ZB))=false->
(qc a0 6)/\
 True))/\
(qc a0 6->
(((0:Int)<=0/\0<=ln a0)/\
(True)/\
(((preB (fr a0 0) ([64]:ZB))=true->
(I64 l3_)/\
(((0:Int)<=l3_/\l3_<=ln a0)/\
(True)/\
(((preB (fr a0 l3_) ([67]:ZB))=true->
(I64 (l3_+(ln ([67]:ZB))))/\
(a0=a0)/\
(([64]:ZB)=([64]:ZB))/\
(ji a0 (l3_+(ln ([67]:ZB))) false 0 l3_)/\
 True))/\
((preB (fr a0 l3_) ([67]:ZB))=false->
((0:Int)<=l3_/\l3_<=ln a0)/\
(True)/\
(((preB (fr a0 l3_) ([70]:ZB))=true->
(I64 (l3_+(ln ([70]:ZB))))/\
(a0=a0)/\
(([64]:ZB)=([64]:ZB))/\
(ji a0 (l3_+(ln ([70]:ZB))) false 3 l3_)/\
 True))/\
((preB (fr a0 l3_) ([70]:ZB))=false->
((0:Int)<=l3_/\l3_<=ln a0)/\
(True)/\
(((preB (fr a0 l3_) ([71]:ZB))=true->
(I64 (l3_+(ln ([71]:ZB))))/\
(a0=a0)/\
(([64]:ZB)=([64]:ZB))/\
(ji a0 (l3_+(ln ([71]:ZB))) false 4 l3_)/\
 True))/\
((preB (fr a0 l3_) ([71]:ZB))=false->
(a0=a0)/\
(([64]:ZB)=([64]:ZB))/\
(ji a0 l3_ true 0 l3_)/\
 True))))/\
(∀ x8:Int,
(∀ x9:Bool,
(∀ x10:Int,
(ji a0 x8 x9 x10 l3_->
((zb a0 x8 x8)/\
(∀ x12:Int,
(zb a0 x12 x8->
((x12<(ln a0)->
(Wn x12 (ln a0))/\
((48<=(bx a0 x12)->
(Wn x12 (ln a0))/\
(((bx a0 x12)<=57->
(I64 (x12+1))/\
(a0=a0)/\
(x9=x9)/\
((x10:Int)=x10)/\
(([64]:ZB)=([64]:ZB))/\
(zb a0 (x12+1) x8)/\
 z9 a0 (x12+1) x8<z9 a0 x12 x8))/\
(57<(bx a0 x12)->
(a0=a0)/\
(x9=x9)/\
((x10:Int)=x10)/\
(([64]:ZB)=([64]:ZB))/\
(qj a0 x12 x8)/\
 True)))/\
((bx a0 x12)<48->
(a0=a0)/\
(x9=x9)/\
((x10:Int)=x10)/\
(([64]:ZB)=([64]:ZB))/\
(qj a0 x12 x8)/\
 True)))/\
((ln a0)<=x12->
(a0=a0)/\
(x9=x9)/\
((x10:Int)=x10)/\
(([64]:ZB)=([64]:ZB))/\
(qj a0 x12 x8)/\
 True))))/\
(∀ x12:Int,
(qj a0 x12 x8->
((0:Int)<=x8/\(x8:Int)<=x12/\x12<=ln a0)/\
((ln (sub a0 x8 x12)<=1000000))/\
(((x9=true->
(a0=a0)/\
((x12:Int)=x12)/\
((x10:Int)=x10)/\
(([64]:ZB)=([64]:ZB))/\
(jd a0 true x9 ((qx (sub a0 x8 x12)).2))/\
 True))/\
(x9=false->
(a0=a0)/\
((x12:Int)=x12)/\
((x10:Int)=x10)/\
(([64]:ZB)=([64]:ZB))/\
(jd a0 (!((qx (sub a0 x8 x12)).2)) x9 ((qx (sub a0 x8 x12)).2))/\
 True))/\
(∀ x14:Bool,
(jd a0 x14 x9 ((qx (sub a0 x8 x12)).2)->
((x14=true->
(qc a0 7)/\
 True))/\
(x14=false->
((x12≠(ln a0)->
(qc a0 7)/\
 True))/\
(x12=(ln a0)->
(True)/\
(((ku (Sign.mk 7 0 0 0 false 0 false false 0 0 0 0 false 0 0 x10 ((qx (sub a0 x8 x12)).1)))≠0->
 zi a0 0 0 0 0 false 0 false false 0 0 0 0 false 0 0 0 0 (ku (Sign.mk 7 0 0 0 false 0 false false 0 0 0 0 false 0 0 x10 ((qx (sub a0 x8 x12)).1)))))/\
((ku (Sign.mk 7 0 0 0 false 0 false false 0 0 0 0 false 0 0 x10 ((qx (sub a0 x8 x12)).1)))=0->
 zi a0 7 0 0 0 false 0 false false 0 0 0 0 false 0 0 x10 ((qx (sub a0 x8 x12)).1) 0)))))))))))))/\
((preB (fr a0 0) ([64]:ZB))=false->
(qc a0 7)/\
 True))/\
(qc a0 7->
(((0:Int)<=0/\0<=ln a0)/\
(True)/\
(((preB (fr a0 0) ([38]:ZB))=true->
(I64 l4_)/\
((zb a0 l4_ l4_)/\
(∀ x9:Int,
(zb a0 x9 l4_->
((x9<(ln a0)->
(Wn x9 (ln a0))/\
((48<=(bx a0 x9)->
(Wn x9 (ln a0))/\
(((bx a0 x9)<=57->
(I64 (x9+1))/\
(a0=a0)/\
(([38]:ZB)=([38]:ZB))/\
(zb a0 (x9+1) l4_)/\
 z9 a0 (x9+1) l4_<z9 a0 x9 l4_))/\
(57<(bx a0 x9)->
(a0=a0)/\
(([38]:ZB)=([38]:ZB))/\
(qj a0 x9 l4_)/\
 True)))/\
((bx a0 x9)<48->
(a0=a0)/\
(([38]:ZB)=([38]:ZB))/\
(qj a0 x9 l4_)/\
 True)))/\
((ln a0)<=x9->
(a0=a0)/\
(([38]:ZB)=([38]:ZB))/\
(qj a0 x9 l4_)/\
 True))))/\
(∀ x9:Int,
(qj a0 x9 l4_->
((0:Int)<=l4_/\(l4_:Int)<=x9/\x9<=ln a0)/\
((ln (sub a0 l4_ x9)<=1000000))/\
((a0=a0)/\
((x9:Int)=x9)/\
(([38]:ZB)=([38]:ZB))/\
(jd a0 (!((qx (sub a0 l4_ x9)).2)) false ((qx (sub a0 l4_ x9)).2))/\
 True)/\
(∀ x11:Bool,
(jd a0 x11 false ((qx (sub a0 l4_ x9)).2)->
((x11=true->
(qc a0 8)/\
 True))/\
(x11=false->
((x9≠(ln a0)->
(qc a0 8)/\
 True))/\
(x9=(ln a0)->
(True)/\
(((ku (Sign.mk 8 0 0 0 false 0 false false 0 0 0 0 false ((qx (sub a0 l4_ x9)).1) 0 0 0))≠0->
 zi a0 0 0 0 0 false 0 false false 0 0 0 0 false 0 0 0 0 (ku (Sign.mk 8 0 0 0 false 0 false false 0 0 0 0 false ((qx (sub a0 l4_ x9)).1) 0 0 0))))/\
((ku (Sign.mk 8 0 0 0 false 0 false false 0 0 0 0 false ((qx (sub a0 l4_ x9)).1) 0 0 0))=0->
 zi a0 8 0 0 0 false 0 false false 0 0 0 0 false ((qx (sub a0 l4_ x9)).1) 0 0 0 0)))))))))/\
((preB (fr a0 0) ([38]:ZB))=false->
(qc a0 8)/\
 True))/\
(qc a0 8->
(((0:Int)<=0/\0<=ln a0)/\
(True)/\
(((preB (fr a0 0) ([91]:ZB))=true->
(I64 (0+(ln ([91]:ZB))))/\
(((0+(ln ([91]:ZB)))≠(ln a0)->
(qc a0 9)/\
 True))/\
((0+(ln ([91]:ZB)))=(ln a0)->
(True)/\
(((ku (Sign.mk 9 0 0 0 false 0 false false 0 0 0 0 false 0 0 0 0))≠0->
 zi a0 0 0 0 0 false 0 false false 0 0 0 0 false 0 0 0 0 (ku (Sign.mk 9 0 0 0 false 0 false false 0 0 0 0 false 0 0 0 0))))/\
((ku (Sign.mk 9 0 0 0 false 0 false false 0 0 0 0 false 0 0 0 0))=0->
 zi a0 9 0 0 0 false 0 false false 0 0 0 0 false 0 0 0 0 0))))/\
((preB (fr a0 0) ([91]:ZB))=false->
(qc a0 9)/\
 True))/\
(qc a0 9->
(((0:Int)<=0/\0<=ln a0)/\
(True)/\
(((preB (fr a0 0) ([93]:ZB))=true->
(I64 l5_)/\
((zb a0 l5_ l5_)/\
(∀ x11:Int,
(zb a0 x11 l5_->
((x11<(ln a0)->
(Wn x11 (ln a0))/\
((48<=(bx a0 x11)->
(Wn x11 (ln a0))/\
(((bx a0 x11)<=57->
(I64 (x11+1))/\
(a0=a0)/\
(([93]:ZB)=([93]:ZB))/\
(zb a0 (x11+1) l5_)/\
 z9 a0 (x11+1) l5_<z9 a0 x11 l5_))/\
(57<(bx a0 x11)->
(a0=a0)/\
(([93]:ZB)=([93]:ZB))/\
(qj a0 x11 l5_)/\
 True)))/\
((bx a0 x11)<48->
(a0=a0)/\
(([93]:ZB)=([93]:ZB))/\
(qj a0 x11 l5_)/\
 True)))/\
((ln a0)<=x11->
(a0=a0)/\
(([93]:ZB)=([93]:ZB))/\
(qj a0 x11 l5_)/\
 True))))/\
(∀ x11:Int,
(qj a0 x11 l5_->
((0:Int)<=l5_/\(l5_:Int)<=x11/\x11<=ln a0)/\
((ln (sub a0 l5_ x11)<=1000000))/\
((a0=a0)/\
((x11:Int)=x11)/\
(([93]:ZB)=([93]:ZB))/\
(jd a0 (!((qx (sub a0 l5_ x11)).2)) false ((qx (sub a0 l5_ x11)).2))/\
 True)/\
(∀ x13:Bool,
(jd a0 x13 false ((qx (sub a0 l5_ x11)).2)->
((x13=true->
(qc a0 10)/\
 True))/\
(x13=false->
((x11≠(ln a0)->
(qc a0 10)/\
 True))/\
(x11=(ln a0)->
(True)/\
(((ku (Sign.mk 10 0 0 0 false 0 false false 0 0 0 0 false ((qx (sub a0 l5_ x11)).1) 0 0 0))≠0->
 zi a0 0 0 0 0 false 0 false false 0 0 0 0 false 0 0 0 0 (ku (Sign.mk 10 0 0 0 false 0 false false 0 0 0 0 false ((qx (sub a0 l5_ x11)).1) 0 0 0))))/\
((ku (Sign.mk 10 0 0 0 false 0 false false 0 0 0 0 false ((qx (sub a0 l5_ x11)).1) 0 0 0))=0->
 zi a0 10 0 0 0 false 0 false false 0 0 0 0 false ((qx (sub a0 l5_ x11)).1) 0 0 0 0)))))))))/\
((preB (fr a0 0) ([93]:ZB))=false->
(qc a0 10)/\
 True))/\
(qc a0 10->
(((0:Int)<=0/\0<=ln a0)/\
(True)/\
(((preB (fr a0 0) ([116,117,114,110]:ZB))=true->
(I64 (0+(ln ([116,117,114,110]:ZB))))/\
(((0+(ln ([116,117,114,110]:ZB)))≠(ln a0)->
(qc a0 11)/\
 True))/\
((0+(ln ([116,117,114,110]:ZB)))=(ln a0)->
(True)/\
(((ku (Sign.mk 11 0 0 0 false 0 false false 0 0 0 0 false 0 0 0 0))≠0->
 zi a0 0 0 0 0 false 0 false false 0 0 0 0 false 0 0 0 0 (ku (Sign.mk 11 0 0 0 false 0 false false 0 0 0 0 false 0 0 0 0))))/\
((ku (Sign.mk 11 0 0 0 false 0 false false 0 0 0 0 false 0 0 0 0))=0->
 zi a0 11 0 0 0 false 0 false false 0 0 0 0 false 0 0 0 0 0))))/\
((preB (fr a0 0) ([116,117,114,110]:ZB))=false->
(qc a0 11)/\
 True))/\
(qc a0 11->
(((0:Int)<=0/\0<=ln a0)/\
(True)/\
(((preB (fr a0 0) ([115,105,103]:ZB))=true->
(I64 (0+(ln ([115,105,103]:ZB))))/\
(((0+(ln ([115,105,103]:ZB)))≠(ln a0)->
(qc a0 12)/\
 True))/\
((0+(ln ([115,105,103]:ZB)))=(ln a0)->
(True)/\
(((ku (Sign.mk 12 0 0 0 false 0 false false 0 0 0 0 false 0 0 0 0))≠0->
 zi a0 0 0 0 0 false 0 false false 0 0 0 0 false 0 0 0 0 (ku (Sign.mk 12 0 0 0 false 0 false false 0 0 0 0 false 0 0 0 0))))/\
((ku (Sign.mk 12 0 0 0 false 0 false false 0 0 0 0 false 0 0 0 0))=0->
 zi a0 12 0 0 0 false 0 false false 0 0 0 0 false 0 0 0 0 0))))/\
((preB (fr a0 0) ([115,105,103]:ZB))=false->
(qc a0 12)/\
 True))/\
(qc a0 12->
 zi a0 0 0 0 0 false 0 false false 0 0 0 0 false 0 0 0 0 3)))))))))))))) (ku (Sign.mk 5 0 0 0 false 0 false false (l2_.1.1) (l2_.1.2.1) (l2_.1.2.2.1) (l2_.1.2.2.2) false 0 0 0 0))) (ku (Sign.mk 5 0 0 0 false 0 false false (l2_.1.1) (l2_.1.2.1) (l2_.1.2.2.1) (l2_.1.2.2.2) true 0 0 0 0))
theorem zhb (a0:ZB):qbs (qq XK (qav zd3) (fun j ns=>match j,ns with | 0,[.s y0,.i y1,.i y2]=>jq a0 y0 y1 y2 | 1,[.i y0,.i y1]=>zb a0 y0 y1 | 2,[.i y0,.i y1]=>qj a0 y0 y1 | 3,[.b y0,.b y1,.b y2]=>jd a0 y0 y1 y2 | 4,[.b y0,.b y1,.b y2]=>qb3 a0 y0 y1 y2 | 5,[.i y0,.i y1]=>kg a0 y0 y1 | 6,[.i y0,.b y1,.i y2]=>qbk a0 y0 y1 y2 | 7,[.i y0,.i y1,.i y2]=>zv a0 y0 y1 y2 | 8,[.i y0,.b y1,.i y2,.i y3,.b y4,.i y5,.b y6]=>qb4 a0 y0 y1 y2 y3 y4 y5 y6 | 9,[.i y0,.i y1,.i y2]=>ju a0 y0 y1 y2 | 10,[.i y0,.b y1,.i y2]=>qax a0 y0 y1 y2 | 11,[.i y0,.b y1,.i y2,.b y3]=>qay a0 y0 y1 y2 y3 | 12,[.i y0,.b y1,.i y2,.i y3]=>ji a0 y0 y1 y2 y3 | 13,[.i y0]=>qc a0 y0 | _,_=>False) (fun j ns=>match j,ns with | 1,[.i y0,.i y1]=>z9 a0 y0 y1 | 5,[.i y0,.i y1]=>qb6 a0 y0 y1 | _,_=>0)) {cfg sp with ann:=qbp [(113,7,.cut 0 [.one 3 (.str),.via 0 [.keep,.int .i64,.keep]] [.via 0 [.keep,.int .i64,.keep]]),(119,28,.inv 1 [.via 0 [.keep,.int .i64,.keep]] [.one 3 (.int .i64)]),(119,7,.cut 2 [.via 0 [.keep,.int .i64,.keep]] [.one 3 (.int .i64)]),(83,7,.cut 3 [.via 0 [.keep,.keep,.bool]] [.via 0 [.keep,.keep,.bool],.one 4 (.bool)]),(113,31,.cut 4 [.via 0 [.keep,.keep,.bool]] [.via 0 [.keep,.keep,.bool],.one 5 (.bool)]),(65,26,.inv 5 [.one 4 (.int .i64)] [.via 0 [.keep,.int .i64,.keep]]),(64,1,.cut 6 [.via 0 [.keep,.int .i64,.bool],.via 1 [.keep,.int .i64,.keep,.keep,.keep,.keep,.keep,.keep,.keep,.keep,.keep,.keep,.keep,.keep,.keep,.keep,.keep]] []),(66,3,.cut 7 [.via 0 [.keep,.int .i64,.keep],.via 1 [.keep,.keep,.keep,.int .i64,.keep,.keep,.keep,.keep,.keep,.keep,.keep,.keep,.keep,.keep,.keep,.keep,.keep]] [.via 0 [.keep,.int .i64,.keep]]),(72,1,.cut 8 [.via 0 [.keep,.int .i64,.bool],.via 1 [.keep,.keep,.int .i64,.int .i64,.bool,.keep,.keep,.keep,.keep,.keep,.keep,.keep,.keep,.keep,.keep,.keep,.keep]] [.via 0 [.keep,.int .i64,.bool]]),(72,26,.unroll 4),(72,3,.cut 9 [.via 0 [.keep,.int .i64,.keep],.via 1 [.keep,.keep,.keep,.keep,.keep,.int .i64,.keep,.keep,.keep,.keep,.keep,.keep,.keep,.keep,.keep,.keep,.keep]] [.via 0 [.keep,.int .i64,.keep]]),(72,7,.cut 10 [.via 0 [.keep,.int .i64,.keep],.via 1 [.keep,.keep,.keep,.keep,.keep,.keep,.bool,.keep,.keep,.keep,.keep,.keep,.keep,.keep,.keep,.keep,.keep]] [.via 0 [.keep,.int .i64,.keep]]),(82,3,.cut 11 [.via 0 [.keep,.int .i64,.bool]] [.via 0 [.keep,.int .i64,.bool]]),(85,1,.cut 12 [.via 0 [.keep,.int .i64,.bool],.via 1 [.keep,.keep,.keep,.keep,.keep,.keep,.keep,.keep,.keep,.keep,.keep,.keep,.keep,.keep,.keep,.int .i64,.keep]] [.via 0 [.keep,.int .i64,.keep]]),(12,211,.cut 13 [] [.one 10 (.int .i64)]),(12,26,.unroll 14)]} 10 12 [.str (a0)] (q0b a0)=qwd a0:=by kernel_rfl
end Go.Proofs.YtbopmiclcimjgaaGreatDoor
namespace Go.Proofs.YtbopmiclcimjgaaGreatDoor
open Go Go.E2 Go.E3
set_option maxRecDepth 100000
variable {sp:Nat->Option (List V->Heap->Option (CR×Heap))}

def zd8:List (Nat×Ct KT):=[(32,zh8),(117,qmw),(94,znf),(136,zbj),(74,znd),(77,zh9),(78,zne),(118,q5g)]
abbrev q0d (a0:Int) (a1:Int) (a2:Int) (a3:Int) (a4:Bool) (a5:Int) (a6:Bool) (a7:Bool) (a8:Int) (a9:Int) (a10:Int) (a11:Int) (a12:Bool) (a13:Int) (a14:Int) (a15:Int) (a16:Int):PV KT:=.tuple [.str (((qle (Sign.mk a0 a1 a2 a3 a4 a5 a6 a7 a8 a9 a10 a11 a12 a13 a14 a15 a16)).1)),.int .i64 none (((qle (Sign.mk a0 a1 a2 a3 a4 a5 a6 a7 a8 a9 a10 a11 a12 a13 a14 a15 a16)).2))]
abbrev qkz (v0:Int) (v1:Int) (v2:Int) (v3:Int) (v4:Bool) (v5:Int) (v6:Bool) (v7:Bool) (v8:Int) (v9:Int) (v10:Int) (v11:Int) (v12:Bool) (v13:Int) (v14:Int) (v15:Int) (v16:Int) (p:Prop):Prop:=
((v0:Int)=v0)/\
((v1:Int)=v1)/\
((v2:Int)=v2)/\
((v3:Int)=v3)/\
(v4=v4)/\
((v5:Int)=v5)/\
(v6=v6)/\
(v7=v7)/\
((v8:Int)=v8)/\
((v9:Int)=v9)/\
((v10:Int)=v10)/\
((v11:Int)=v11)/\
(v12=v12)/\
((v13:Int)=v13)/\
((v14:Int)=v14)/\
((v15:Int)=v15)/\
((v16:Int)=v16)/\
((v0:Int)=v0)/\
((v1:Int)=v1)/\
((v2:Int)=v2)/\
((v3:Int)=v3)/\
(v4=v4)/\
((v5:Int)=v5)/\
(v6=v6)/\
(v7=v7)/\
((v8:Int)=v8)/\
((v9:Int)=v9)/\
((v10:Int)=v10)/\
((v11:Int)=v11)/\
(v12=v12)/\
((v13:Int)=v13)/\
((v14:Int)=v14)/\
((v15:Int)=v15)/\
((v16:Int)=v16)/\
(([]:ZB)=([]:ZB))/\
((v0:Int)=v0)/\
((v1:Int)=v1)/\
((v2:Int)=v2)/\
((v3:Int)=v3)/\
(v4=v4)/\
((v5:Int)=v5)/\
(v6=v6)/\
(v7=v7)/\
((v8:Int)=v8)/\
((v9:Int)=v9)/\
((v10:Int)=v10)/\
((v11:Int)=v11)/\
(v12=v12)/\
((v13:Int)=v13)/\
((v14:Int)=v14)/\
((v15:Int)=v15)/\
((v16:Int)=v16)/\
 p
abbrev qk0 (v0:Int) (v1:Int) (v2:Int) (v3:Int) (v4:Bool) (v5:Int) (v6:Bool) (v7:Bool) (v8:Int) (v9:Int) (v10:Int) (v11:Int) (v12:Bool) (v13:Int) (v14:Int) (v15:Int) (v16:Int) (p:Prop):Prop:=
((v0:Int)=v0)/\
((v1:Int)=v1)/\
((v2:Int)=v2)/\
((v3:Int)=v3)/\
(v4=v4)/\
((v5:Int)=v5)/\
(v6=v6)/\
(v7=v7)/\
((v8:Int)=v8)/\
((v9:Int)=v9)/\
((v10:Int)=v10)/\
((v11:Int)=v11)/\
(v12=v12)/\
((v13:Int)=v13)/\
((v14:Int)=v14)/\
((v15:Int)=v15)/\
((v16:Int)=v16)/\
((v0:Int)=v0)/\
((v1:Int)=v1)/\
((v2:Int)=v2)/\
((v3:Int)=v3)/\
(v4=v4)/\
((v5:Int)=v5)/\
(v6=v6)/\
(v7=v7)/\
((v8:Int)=v8)/\
((v9:Int)=v9)/\
((v10:Int)=v10)/\
((v11:Int)=v11)/\
(v12=v12)/\
((v13:Int)=v13)/\
((v14:Int)=v14)/\
((v15:Int)=v15)/\
((v16:Int)=v16)/\
(([116]:ZB)=([116]:ZB))/\
((v0:Int)=v0)/\
((v1:Int)=v1)/\
((v2:Int)=v2)/\
((v3:Int)=v3)/\
(v4=v4)/\
((v5:Int)=v5)/\
(v6=v6)/\
(v7=v7)/\
((v8:Int)=v8)/\
((v9:Int)=v9)/\
((v10:Int)=v10)/\
((v11:Int)=v11)/\
(v12=v12)/\
((v13:Int)=v13)/\
((v14:Int)=v14)/\
((v15:Int)=v15)/\
((v16:Int)=v16)/\
 p
abbrev qhj (v0:Int) (v1:Int) (v2:Int) (v3:Int) (v4:Bool) (v5:Int) (v6:Bool) (v7:Bool) (v8:Int) (v9:Int) (v10:Int) (v11:Int) (v12:Bool) (v13:Int) (v14:Int) (v15:Int) (v16:Int) (p:Prop):Prop:=
((v0:Int)=v0)/\
((v1:Int)=v1)/\
((v2:Int)=v2)/\
((v3:Int)=v3)/\
(v4=v4)/\
((v5:Int)=v5)/\
(v6=v6)/\
(v7=v7)/\
((v8:Int)=v8)/\
((v9:Int)=v9)/\
((v10:Int)=v10)/\
((v11:Int)=v11)/\
(v12=v12)/\
((v13:Int)=v13)/\
((v14:Int)=v14)/\
((v15:Int)=v15)/\
((v16:Int)=v16)/\
(([116]:ZB)=([116]:ZB))/\
((v0:Int)=v0)/\
((v1:Int)=v1)/\
((v2:Int)=v2)/\
((v3:Int)=v3)/\
(v4=v4)/\
((v5:Int)=v5)/\
(v6=v6)/\
(v7=v7)/\
((v8:Int)=v8)/\
((v9:Int)=v9)/\
((v10:Int)=v10)/\
((v11:Int)=v11)/\
(v12=v12)/\
((v13:Int)=v13)/\
((v14:Int)=v14)/\
((v15:Int)=v15)/\
((v16:Int)=v16)/\
 p
abbrev qwf (a0:Int) (a1:Int) (a2:Int) (a3:Int) (a4:Bool) (a5:Int) (a6:Bool) (a7:Bool) (a8:Int) (a9:Int) (a10:Int) (a11:Int) (a12:Bool) (a13:Int) (a14:Int) (a15:Int) (a16:Int):Prop:=
 let l6_:=Sign.mk a0 a1 a2 a3 a4 a5 a6 a7 a8 a9 a10 a11 a12 a13 a14 a15 a16;
 let l5_:=UInt8.ofNat (Int.toNat ((bx ([67,46,46,70,71]:ZB) a15)));
 let l4_:=(([]:ZB)++([116]:ZB))++(zf a2);
 let l3_:=(([]:ZB)++([40]:ZB))++(((qki a8 a9 a10 a11).1)++([41]:ZB));
 let l2_:=([]:ZB)++([]:ZB);
 let l1_:=UInt8.ofNat (Int.toNat ((bx ([88,76,66,83,77,81,70,90]:ZB) (a1-1))));
 let l0_:=qle l6_;
(True)/\
(((ku l6_)≠0->
(([]:ZB)=(l0_.1))/\
(((ku l6_):Int)=(l0_.2))/\
 True))/\
((ku l6_)=0->
(Wn a0 13)/\
(((a0:Int)=0->
(qh (List.length ([]:ZB)+List.length ([]:ZB)))/\
 False /- call -/))/\
(((a0:Int)=1->
(qh (List.length ([]:ZB)+List.length ([]:ZB)))/\
(I64 (a1-1))/\
(Wn (a1-1) (ln ([88,76,66,83,77,81,70,90]:ZB)))/\
(U8 ((bx ([88,76,66,83,77,81,70,90]:ZB) (a1-1))))/\
(qh (List.length l2_+List.length [l1_]))/\
((-4<=a2/\a2<=100))/\
(qh (List.length (l2_++[l1_])+List.length (zf a2)))/\
(((a3=(-1)->
(qh (List.length ((l2_++[l1_])++(zf a2))+List.length ([98]:ZB)))/\
(qkz a0 a1 a2 a3 a4 a5 a6 a7 a8 a9 a10 a11 a12 a13 a14 a15 a16 (
(qcw a0 a1 a2 a3 a4 a5 a6 a7 a8 a9 a10 a11 a12 a13 a14 a15 a16 (((l2_++[l1_])++(zf a2))++([98]:ZB)) ((l2_++[l1_])++(zf a2)) a3)/\
 True))))/\
(a3≠(-1)->
(qkz a0 a1 a2 a3 a4 a5 a6 a7 a8 a9 a10 a11 a12 a13 a14 a15 a16 (
(qcw a0 a1 a2 a3 a4 a5 a6 a7 a8 a9 a10 a11 a12 a13 a14 a15 a16 ((l2_++[l1_])++(zf a2)) ((l2_++[l1_])++(zf a2)) a3)/\
 True))))/\
(∀ x2:ZB,
(qcw a0 a1 a2 a3 a4 a5 a6 a7 a8 a9 a10 a11 a12 a13 a14 a15 a16 x2 ((l2_++[l1_])++(zf a2)) a3->
(((a3=1->
(qh (List.length x2+List.length ([35]:ZB)))/\
(qkz a0 a1 a2 a3 a4 a5 a6 a7 a8 a9 a10 a11 a12 a13 a14 a15 a16 (
(qcx a0 a1 a2 a3 a4 a5 a6 a7 a8 a9 a10 a11 a12 a13 a14 a15 a16 (x2++([35]:ZB)) x2 a3)/\
 True))))/\
(a3≠1->
(qkz a0 a1 a2 a3 a4 a5 a6 a7 a8 a9 a10 a11 a12 a13 a14 a15 a16 (
(qcx a0 a1 a2 a3 a4 a5 a6 a7 a8 a9 a10 a11 a12 a13 a14 a15 a16 x2 x2 a3)/\
 True))))/\
(∀ x4:ZB,
(qcx a0 a1 a2 a3 a4 a5 a6 a7 a8 a9 a10 a11 a12 a13 a14 a15 a16 x4 x2 a3->
(((a3=2->
(qh (List.length x4+List.length ([110]:ZB)))/\
(qkz a0 a1 a2 a3 a4 a5 a6 a7 a8 a9 a10 a11 a12 a13 a14 a15 a16 (
(qcy a0 a1 a2 a3 a4 a5 a6 a7 a8 a9 a10 a11 a12 a13 a14 a15 a16 (x4++([110]:ZB)) x4 a3)/\
 True))))/\
(a3≠2->
(qkz a0 a1 a2 a3 a4 a5 a6 a7 a8 a9 a10 a11 a12 a13 a14 a15 a16 (
(qcy a0 a1 a2 a3 a4 a5 a6 a7 a8 a9 a10 a11 a12 a13 a14 a15 a16 x4 x4 a3)/\
 True))))/\
(∀ x6:ZB,
(qcy a0 a1 a2 a3 a4 a5 a6 a7 a8 a9 a10 a11 a12 a13 a14 a15 a16 x6 x4 a3->
((a4=true->
(qh (List.length x6+List.length ([42]:ZB)))/\
((ln (x6++([42]:ZB)))<=140737488355328)/\
((x6++([42]:ZB))=(l0_.1))/\
((0:Int)=(l0_.2))/\
 True))/\
(a4=false->
((ln x6)<=140737488355328)/\
(x6=(l0_.1))/\
((0:Int)=(l0_.2))/\
 True)))))))))/\
(((a0:Int)=2->
(qh (List.length ([]:ZB)+List.length ([114]:ZB)))/\
(I64 (a1-1))/\
(Wn (a1-1) (ln ([88,76,66,83,77,81,70,90]:ZB)))/\
(U8 ((bx ([88,76,66,83,77,81,70,90]:ZB) (a1-1))))/\
(qh (List.length (([]:ZB)++([114]:ZB))+List.length [l1_]))/\
((ln ((([]:ZB)++([114]:ZB))++[l1_]))<=140737488355328)/\
(((([]:ZB)++([114]:ZB))++[l1_])=(l0_.1))/\
((0:Int)=(l0_.2))/\
 True))/\
(((a0:Int)=3->
(qh (List.length ([]:ZB)+List.length ([46]:ZB)))/\
((ln (([]:ZB)++([46]:ZB)))<=140737488355328)/\
((([]:ZB)++([46]:ZB))=(l0_.1))/\
((0:Int)=(l0_.2))/\
 True))/\
(((a0:Int)=4->
(qh (List.length ([]:ZB)+List.length ([116]:ZB)))/\
((-4<=a2/\a2<=100))/\
(qh (List.length (([]:ZB)++([116]:ZB))+List.length (zf a2)))/\
(((a3=(-1)->
(qh (List.length l4_+List.length ([98]:ZB)))/\
(qk0 a0 a1 a2 a3 a4 a5 a6 a7 a8 a9 a10 a11 a12 a13 a14 a15 a16 (
(qcw a0 a1 a2 a3 a4 a5 a6 a7 a8 a9 a10 a11 a12 a13 a14 a15 a16 (l4_++([98]:ZB)) l4_ a3)/\
 True))))/\
(a3≠(-1)->
(qk0 a0 a1 a2 a3 a4 a5 a6 a7 a8 a9 a10 a11 a12 a13 a14 a15 a16 (
(qcw a0 a1 a2 a3 a4 a5 a6 a7 a8 a9 a10 a11 a12 a13 a14 a15 a16 l4_ l4_ a3)/\
 True))))/\
(∀ x2:ZB,
(qcw a0 a1 a2 a3 a4 a5 a6 a7 a8 a9 a10 a11 a12 a13 a14 a15 a16 x2 l4_ a3->
(((a3=1->
(qh (List.length x2+List.length ([35]:ZB)))/\
(qk0 a0 a1 a2 a3 a4 a5 a6 a7 a8 a9 a10 a11 a12 a13 a14 a15 a16 (
(qcx a0 a1 a2 a3 a4 a5 a6 a7 a8 a9 a10 a11 a12 a13 a14 a15 a16 (x2++([35]:ZB)) x2 a3)/\
 True))))/\
(a3≠1->
(qk0 a0 a1 a2 a3 a4 a5 a6 a7 a8 a9 a10 a11 a12 a13 a14 a15 a16 (
(qcx a0 a1 a2 a3 a4 a5 a6 a7 a8 a9 a10 a11 a12 a13 a14 a15 a16 x2 x2 a3)/\
 True))))/\
(∀ x4:ZB,
(qcx a0 a1 a2 a3 a4 a5 a6 a7 a8 a9 a10 a11 a12 a13 a14 a15 a16 x4 x2 a3->
(((a3=2->
(qh (List.length x4+List.length ([110]:ZB)))/\
(qk0 a0 a1 a2 a3 a4 a5 a6 a7 a8 a9 a10 a11 a12 a13 a14 a15 a16 (
(qcy a0 a1 a2 a3 a4 a5 a6 a7 a8 a9 a10 a11 a12 a13 a14 a15 a16 (x4++([110]:ZB)) x4 a3)/\
 True))))/\
(a3≠2->
(qk0 a0 a1 a2 a3 a4 a5 a6 a7 a8 a9 a10 a11 a12 a13 a14 a15 a16 (
(qcy a0 a1 a2 a3 a4 a5 a6 a7 a8 a9 a10 a11 a12 a13 a14 a15 a16 x4 x4 a3)/\
 True))))/\
(∀ x6:ZB,
(qcy a0 a1 a2 a3 a4 a5 a6 a7 a8 a9 a10 a11 a12 a13 a14 a15 a16 x6 x4 a3->
((a4=true->
(qh (List.length x6+List.length ([42]:ZB)))/\
((I64 (a5+1))/\
((0:Int)<=a5/\(a5:Int)<=(a5+1)/\(a5+1)<=ln ([32,94,118,62]:ZB))/\
((0<a5->
(qh (List.length (x6++([42]:ZB))+List.length (sub ([32,94,118,62]:ZB) a5 (a5+1))))/\
(qhj a0 a1 a2 a3 a4 a5 a6 a7 a8 a9 a10 a11 a12 a13 a14 a15 a16 (
(qcz a0 a1 a2 a3 a4 a5 a6 a7 a8 a9 a10 a11 a12 a13 a14 a15 a16 ((x6++([42]:ZB))++(sub ([32,94,118,62]:ZB) a5 (a5+1))) (x6++([42]:ZB)) a5)/\
 True))))/\
(a5<=0->
(qhj a0 a1 a2 a3 a4 a5 a6 a7 a8 a9 a10 a11 a12 a13 a14 a15 a16 (
(qcz a0 a1 a2 a3 a4 a5 a6 a7 a8 a9 a10 a11 a12 a13 a14 a15 a16 (x6++([42]:ZB)) (x6++([42]:ZB)) a5)/\
 True))))/\
(∀ x9:ZB,
(qcz a0 a1 a2 a3 a4 a5 a6 a7 a8 a9 a10 a11 a12 a13 a14 a15 a16 x9 (x6++([42]:ZB)) a5->
(((a6=true->
(qh (List.length x9+List.length ([126]:ZB)))/\
(qhj a0 a1 a2 a3 a4 a5 a6 a7 a8 a9 a10 a11 a12 a13 a14 a15 a16 (
(qc0 a0 a1 a2 a3 a4 a5 a6 a7 a8 a9 a10 a11 a12 a13 a14 a15 a16 (x9++([126]:ZB)) x9 a6)/\
 True))))/\
(a6=false->
(qhj a0 a1 a2 a3 a4 a5 a6 a7 a8 a9 a10 a11 a12 a13 a14 a15 a16 (
(qc0 a0 a1 a2 a3 a4 a5 a6 a7 a8 a9 a10 a11 a12 a13 a14 a15 a16 x9 x9 a6)/\
 True))))/\
(∀ x11:ZB,
(qc0 a0 a1 a2 a3 a4 a5 a6 a7 a8 a9 a10 a11 a12 a13 a14 a15 a16 x11 x9 a6->
((a7=true->
(qh (List.length x11+List.length ([33]:ZB)))/\
((ln (x11++([33]:ZB)))<=140737488355328)/\
((x11++([33]:ZB))=(l0_.1))/\
((0:Int)=(l0_.2))/\
 True))/\
(a7=false->
((ln x11)<=140737488355328)/\
(x11=(l0_.1))/\
((0:Int)=(l0_.2))/\
 True)))))))/\
(a4=false->
((I64 (a5+1))/\
((0:Int)<=a5/\(a5:Int)<=(a5+1)/\(a5+1)<=ln ([32,94,118,62]:ZB))/\
((0<a5->
(qh (List.length x6+List.length (sub ([32,94,118,62]:ZB) a5 (a5+1))))/\
(qhj a0 a1 a2 a3 a4 a5 a6 a7 a8 a9 a10 a11 a12 a13 a14 a15 a16 (
(qcz a0 a1 a2 a3 a4 a5 a6 a7 a8 a9 a10 a11 a12 a13 a14 a15 a16 (x6++(sub ([32,94,118,62]:ZB) a5 (a5+1))) x6 a5)/\
 True))))/\
(a5<=0->
(qhj a0 a1 a2 a3 a4 a5 a6 a7 a8 a9 a10 a11 a12 a13 a14 a15 a16 (
(qcz a0 a1 a2 a3 a4 a5 a6 a7 a8 a9 a10 a11 a12 a13 a14 a15 a16 x6 x6 a5)/\
 True))))/\
(∀ x9:ZB,
(qcz a0 a1 a2 a3 a4 a5 a6 a7 a8 a9 a10 a11 a12 a13 a14 a15 a16 x9 x6 a5->
(((a6=true->
(qh (List.length x9+List.length ([126]:ZB)))/\
(qhj a0 a1 a2 a3 a4 a5 a6 a7 a8 a9 a10 a11 a12 a13 a14 a15 a16 (
(qc0 a0 a1 a2 a3 a4 a5 a6 a7 a8 a9 a10 a11 a12 a13 a14 a15 a16 (x9++([126]:ZB)) x9 a6)/\
 True))))/\
(a6=false->
(qhj a0 a1 a2 a3 a4 a5 a6 a7 a8 a9 a10 a11 a12 a13 a14 a15 a16 (
(qc0 a0 a1 a2 a3 a4 a5 a6 a7 a8 a9 a10 a11 a12 a13 a14 a15 a16 x9 x9 a6)/\
 True))))/\
(∀ x11:ZB,
(qc0 a0 a1 a2 a3 a4 a5 a6 a7 a8 a9 a10 a11 a12 a13 a14 a15 a16 x11 x9 a6->
((a7=true->
(qh (List.length x11+List.length ([33]:ZB)))/\
((ln (x11++([33]:ZB)))<=140737488355328)/\
((x11++([33]:ZB))=(l0_.1))/\
((0:Int)=(l0_.2))/\
 True))/\
(a7=false->
((ln x11)<=140737488355328)/\
(x11=(l0_.1))/\
((0:Int)=(l0_.2))/\
 True))))))))))))))/\
(((a0:Int)=5->
(qh (List.length ([]:ZB)+List.length ([40]:ZB)))/\
(True)/\
(qh (List.length ((qki a8 a9 a10 a11).1)+List.length ([41]:ZB)))/\
(qh (List.length (([]:ZB)++([40]:ZB))+List.length (((qki a8 a9 a10 a11).1)++([41]:ZB))))/\
((a12=true->
(qh (List.length l3_+List.length ([124]:ZB)))/\
((ln (l3_++([124]:ZB)))<=140737488355328)/\
((l3_++([124]:ZB))=(l0_.1))/\
((0:Int)=(l0_.2))/\
 True))/\
(a12=false->
((ln l3_)<=140737488355328)/\
(l3_=(l0_.1))/\
((0:Int)=(l0_.2))/\
 True)))/\
(((a0:Int)=6->
(qh (List.length ([]:ZB)+List.length ([]:ZB)))/\
((-4<=a13/\a13<=100))/\
(qh (List.length l2_+List.length (zf a13)))/\
(U8 (47))/\
(qh (List.length (l2_++(zf a13))+List.length [(UInt8.ofNat (Int.toNat (47)))]))/\
((-4<=a14/\a14<=100))/\
(qh (List.length ((l2_++(zf a13))++[(UInt8.ofNat (Int.toNat (47)))])+List.length (zf a14)))/\
((ln (((l2_++(zf a13))++[(UInt8.ofNat (Int.toNat (47)))])++(zf a14)))<=140737488355328)/\
((((l2_++(zf a13))++[(UInt8.ofNat (Int.toNat (47)))])++(zf a14))=(l0_.1))/\
((0:Int)=(l0_.2))/\
 True))/\
(((a0:Int)=7->
(qh (List.length ([]:ZB)+List.length ([64]:ZB)))/\
(Wn a15 (ln ([67,46,46,70,71]:ZB)))/\
(U8 ((bx ([67,46,46,70,71]:ZB) a15)))/\
(qh (List.length (([]:ZB)++([64]:ZB))+List.length [l5_]))/\
((-4<=a16/\a16<=100))/\
(qh (List.length ((([]:ZB)++([64]:ZB))++[l5_])+List.length (zf a16)))/\
((ln (((([]:ZB)++([64]:ZB))++[l5_])++(zf a16)))<=140737488355328)/\
((((([]:ZB)++([64]:ZB))++[l5_])++(zf a16))=(l0_.1))/\
((0:Int)=(l0_.2))/\
 True))/\
(((a0:Int)=8->
(qh (List.length ([]:ZB)+List.length ([38]:ZB)))/\
((-4<=a13/\a13<=100))/\
(qh (List.length (([]:ZB)++([38]:ZB))+List.length (zf a13)))/\
((ln ((([]:ZB)++([38]:ZB))++(zf a13)))<=140737488355328)/\
(((([]:ZB)++([38]:ZB))++(zf a13))=(l0_.1))/\
((0:Int)=(l0_.2))/\
 True))/\
(((a0:Int)=9->
(qh (List.length ([]:ZB)+List.length ([91]:ZB)))/\
((ln (([]:ZB)++([91]:ZB)))<=140737488355328)/\
((([]:ZB)++([91]:ZB))=(l0_.1))/\
((0:Int)=(l0_.2))/\
 True))/\
(((a0:Int)=10->
(qh (List.length ([]:ZB)+List.length ([93]:ZB)))/\
((-4<=a13/\a13<=100))/\
(qh (List.length (([]:ZB)++([93]:ZB))+List.length (zf a13)))/\
((ln ((([]:ZB)++([93]:ZB))++(zf a13)))<=140737488355328)/\
(((([]:ZB)++([93]:ZB))++(zf a13))=(l0_.1))/\
((0:Int)=(l0_.2))/\
 True))/\
(((a0:Int)=11->
(qh (List.length ([]:ZB)+List.length ([116,117,114,110]:ZB)))/\
((ln (([]:ZB)++([116,117,114,110]:ZB)))<=140737488355328)/\
((([]:ZB)++([116,117,114,110]:ZB))=(l0_.1))/\
((0:Int)=(l0_.2))/\
 True))/\
(((a0:Int)=12->
(qh (List.length ([]:ZB)+List.length ([115,105,103]:ZB)))/\
((ln (([]:ZB)++([115,105,103]:ZB)))<=140737488355328)/\
((([]:ZB)++([115,105,103]:ZB))=(l0_.1))/\
((0:Int)=(l0_.2))/\
 True))/\
 True)
theorem zhh (a0:Int) (a1:Int) (a2:Int) (a3:Int) (a4:Bool) (a5:Int) (a6:Bool) (a7:Bool) (a8:Int) (a9:Int) (a10:Int) (a11:Int) (a12:Bool) (a13:Int) (a14:Int) (a15:Int) (a16:Int):qbs (qq XK (qav zd8) (fun j ns=>match j,ns with | 0,[.l 0 y0,.l 0 y1,.i y2]=>qcw a0 a1 a2 a3 a4 a5 a6 a7 a8 a9 a10 a11 a12 a13 a14 a15 a16 y0 y1 y2 | 1,[.l 0 y0,.l 0 y1,.i y2]=>qcx a0 a1 a2 a3 a4 a5 a6 a7 a8 a9 a10 a11 a12 a13 a14 a15 a16 y0 y1 y2 | 2,[.l 0 y0,.l 0 y1,.i y2]=>qcy a0 a1 a2 a3 a4 a5 a6 a7 a8 a9 a10 a11 a12 a13 a14 a15 a16 y0 y1 y2 | 3,[.l 0 y0,.l 0 y1,.i y2]=>qcz a0 a1 a2 a3 a4 a5 a6 a7 a8 a9 a10 a11 a12 a13 a14 a15 a16 y0 y1 y2 | 4,[.l 0 y0,.l 0 y1,.b y2]=>qc0 a0 a1 a2 a3 a4 a5 a6 a7 a8 a9 a10 a11 a12 a13 a14 a15 a16 y0 y1 y2 | _,_=>False) (fun _ _=>0)) {cfg sp with ann:=qbp [(63,7,.cut 0 [.via 0 [.keep,.list 0 true true]] [.via 0 [.keep,.list 0 false false],.via 3 [.keep,.keep,.keep,.int .i64,.keep,.keep,.keep,.keep,.keep,.keep,.keep,.keep,.keep,.keep,.keep,.keep,.keep]]),(63,15,.cut 1 [.via 0 [.keep,.list 0 true true]] [.via 0 [.keep,.list 0 false false],.via 3 [.keep,.keep,.keep,.int .i64,.keep,.keep,.keep,.keep,.keep,.keep,.keep,.keep,.keep,.keep,.keep,.keep,.keep]]),(63,31,.cut 2 [.via 0 [.keep,.list 0 true true]] [.via 0 [.keep,.list 0 false false],.via 3 [.keep,.keep,.keep,.int .i64,.keep,.keep,.keep,.keep,.keep,.keep,.keep,.keep,.keep,.keep,.keep,.keep,.keep]]),(71,7,.cut 3 [.via 0 [.keep,.list 0 true true]] [.via 0 [.keep,.list 0 false false],.via 3 [.keep,.keep,.keep,.keep,.keep,.int .i64,.keep,.keep,.keep,.keep,.keep,.keep,.keep,.keep,.keep,.keep,.keep]]),(71,15,.cut 4 [.via 0 [.keep,.list 0 true true]] [.via 0 [.keep,.list 0 false false],.via 3 [.keep,.keep,.keep,.keep,.keep,.keep,.bool,.keep,.keep,.keep,.keep,.keep,.keep,.keep,.keep,.keep,.keep]])]} 8 10 [.agg [.int .i64 none (a0),.int .i64 none (a1),.int .i64 none (a2),.int .i64 none (a3),.sb 0 false (a4) (a4=true) (a4=false),.int .i64 none (a5),.sb 0 false (a6) (a6=true) (a6=false),.sb 0 false (a7) (a7=true) (a7=false),.int .i64 none (a8),.int .i64 none (a9),.int .i64 none (a10),.int .i64 none (a11),.sb 0 false (a12) (a12=true) (a12=false),.int .i64 none (a13),.int .i64 none (a14),.int .i64 none (a15),.int .i64 none (a16)]] (q0d a0 a1 a2 a3 a4 a5 a6 a7 a8 a9 a10 a11 a12 a13 a14 a15 a16)=qwf a0 a1 a2 a3 a4 a5 a6 a7 a8 a9 a10 a11 a12 a13 a14 a15 a16:=by kernel_rfl
end Go.Proofs.YtbopmiclcimjgaaGreatDoor
namespace Go.Proofs.YtbopmiclcimjgaaGreatDoor
open Go Go.E2 Go.E3
set_option maxRecDepth 100000
variable {sp:Nat->Option (List V->Heap->Option (CR×Heap))}

def zg2:List (Nat×Ct KT):=[(59,znc)]
abbrev q4m (a0:Int) (a1:Int) (a2:Int) (a3:Int) (a4:Bool) (a5:Int) (a6:Bool) (a7:Bool) (a8:Int) (a9:Int) (a10:Int) (a11:Int) (a12:Bool) (a13:Int) (a14:Int) (a15:Int) (a16:Int):PV KT:=.int .i64 none ((ku (Sign.mk a0 a1 a2 a3 a4 a5 a6 a7 a8 a9 a10 a11 a12 a13 a14 a15 a16)))
abbrev q2e (a0:Int) (a1:Int) (a2:Int) (a3:Int) (a4:Bool) (a5:Int) (a6:Bool) (a7:Bool) (a8:Int) (a9:Int) (a10:Int) (a11:Int) (a12:Bool) (a13:Int) (a14:Int) (a15:Int) (a16:Int):Prop:=
(fun r0_:Int=>
((a0<1->
((8:Int)=r0_)/\
 True))/\
(1<=a0->
((12<a0->
((8:Int)=r0_)/\
 True))/\
(a0<=12->
(Wn a0 13)/\
(((a0:Int)=0->
(((a0≠a0∨(a1≠0∨(a2≠0∨(a3≠0∨(a4≠false∨(a5≠0∨(a6≠false∨(a7≠false∨(a8≠0∨(a9≠0∨(a10≠0∨(a11≠0∨(a12≠false∨(a13≠0∨(a14≠0∨(a15≠0∨a16≠0))))))))))))))))->
((3:Int)=r0_)/\
 True))/\
((a0=a0/\(a1=0/\(a2=0/\(a3=0/\(a4=false/\(a5=0/\(a6=false/\(a7=false/\(a8=0/\(a9=0/\(a10=0/\(a11=0/\(a12=false/\(a13=0/\(a14=0/\(a15=0/\a16=0))))))))))))))))->
((a0=8->
((0<=a13->
((2<a13->
((2:Int)=r0_)/\
 True))/\
(a13<=2->
((a0=10->
((2<=a13->
((4<a13->
((2:Int)=r0_)/\
 True))/\
(a13<=4->
((a6=true->
((a7=true->
((3:Int)=r0_)/\
 True))/\
(a7=false->
((0:Int)=r0_)/\
 True)))/\
(a6=false->
((0:Int)=r0_)/\
 True))))/\
(a13<2->
((2:Int)=r0_)/\
 True)))/\
(a0≠10->
((a6=true->
((a7=true->
((3:Int)=r0_)/\
 True))/\
(a7=false->
((0:Int)=r0_)/\
 True)))/\
(a6=false->
((0:Int)=r0_)/\
 True)))))/\
(a13<0->
((2:Int)=r0_)/\
 True)))/\
(a0≠8->
((a0=10->
((2<=a13->
((4<a13->
((2:Int)=r0_)/\
 True))/\
(a13<=4->
((a6=true->
((a7=true->
((3:Int)=r0_)/\
 True))/\
(a7=false->
((0:Int)=r0_)/\
 True)))/\
(a6=false->
((0:Int)=r0_)/\
 True))))/\
(a13<2->
((2:Int)=r0_)/\
 True)))/\
(a0≠10->
((a6=true->
((a7=true->
((3:Int)=r0_)/\
 True))/\
(a7=false->
((0:Int)=r0_)/\
 True)))/\
(a6=false->
((0:Int)=r0_)/\
 True))))))/\
(((a0:Int)=1->
(((a0≠a0∨(a1≠a1∨(a2≠a2∨(a3≠a3∨(a4≠a4∨(a5≠0∨(a6≠false∨(a7≠false∨(a8≠0∨(a9≠0∨(a10≠0∨(a11≠0∨(a12≠false∨(a13≠0∨(a14≠0∨(a15≠0∨a16≠0))))))))))))))))->
((3:Int)=r0_)/\
 True))/\
((a0=a0/\(a1=a1/\(a2=a2/\(a3=a3/\(a4=a4/\(a5=0/\(a6=false/\(a7=false/\(a8=0/\(a9=0/\(a10=0/\(a11=0/\(a12=false/\(a13=0/\(a14=0/\(a15=0/\a16=0))))))))))))))))->
((1<=a1->
((8<a1->
((2:Int)=r0_)/\
 True))/\
(a1<=8->
(((-4)<=a2->
((12<a2->
((2:Int)=r0_)/\
 True))/\
(a2<=12->
(((-1)<=a3->
((2<a3->
((2:Int)=r0_)/\
 True))/\
(a3<=2->
((a0=8->
((0<=a13->
((2<a13->
((2:Int)=r0_)/\
 True))/\
(a13<=2->
((a0=10->
((2<=a13->
((4<a13->
((2:Int)=r0_)/\
 True))/\
(a13<=4->
((a6=true->
((a7=true->
((3:Int)=r0_)/\
 True))/\
(a7=false->
((0:Int)=r0_)/\
 True)))/\
(a6=false->
((0:Int)=r0_)/\
 True))))/\
(a13<2->
((2:Int)=r0_)/\
 True)))/\
(a0≠10->
((a6=true->
((a7=true->
((3:Int)=r0_)/\
 True))/\
(a7=false->
((0:Int)=r0_)/\
 True)))/\
(a6=false->
((0:Int)=r0_)/\
 True)))))/\
(a13<0->
((2:Int)=r0_)/\
 True)))/\
(a0≠8->
((a0=10->
((2<=a13->
((4<a13->
((2:Int)=r0_)/\
 True))/\
(a13<=4->
((a6=true->
((a7=true->
((3:Int)=r0_)/\
 True))/\
(a7=false->
((0:Int)=r0_)/\
 True)))/\
(a6=false->
((0:Int)=r0_)/\
 True))))/\
(a13<2->
((2:Int)=r0_)/\
 True)))/\
(a0≠10->
((a6=true->
((a7=true->
((3:Int)=r0_)/\
 True))/\
(a7=false->
((0:Int)=r0_)/\
 True)))/\
(a6=false->
((0:Int)=r0_)/\
 True))))))/\
(a3<(-1)->
((2:Int)=r0_)/\
 True))))/\
(a2<(-4)->
((2:Int)=r0_)/\
 True))))/\
(a1<1->
((2:Int)=r0_)/\
 True))))/\
(((a0:Int)=2->
(((a0≠a0∨(a1≠a1∨(a2≠0∨(a3≠0∨(a4≠false∨(a5≠0∨(a6≠false∨(a7≠false∨(a8≠0∨(a9≠0∨(a10≠0∨(a11≠0∨(a12≠false∨(a13≠0∨(a14≠0∨(a15≠0∨a16≠0))))))))))))))))->
((3:Int)=r0_)/\
 True))/\
((a0=a0/\(a1=a1/\(a2=0/\(a3=0/\(a4=false/\(a5=0/\(a6=false/\(a7=false/\(a8=0/\(a9=0/\(a10=0/\(a11=0/\(a12=false/\(a13=0/\(a14=0/\(a15=0/\a16=0))))))))))))))))->
((1<=a1->
((8<a1->
((2:Int)=r0_)/\
 True))/\
(a1<=8->
((a0=8->
((0<=a13->
((2<a13->
((2:Int)=r0_)/\
 True))/\
(a13<=2->
((a0=10->
((2<=a13->
((4<a13->
((2:Int)=r0_)/\
 True))/\
(a13<=4->
((a6=true->
((a7=true->
((3:Int)=r0_)/\
 True))/\
(a7=false->
((0:Int)=r0_)/\
 True)))/\
(a6=false->
((0:Int)=r0_)/\
 True))))/\
(a13<2->
((2:Int)=r0_)/\
 True)))/\
(a0≠10->
((a6=true->
((a7=true->
((3:Int)=r0_)/\
 True))/\
(a7=false->
((0:Int)=r0_)/\
 True)))/\
(a6=false->
((0:Int)=r0_)/\
 True)))))/\
(a13<0->
((2:Int)=r0_)/\
 True)))/\
(a0≠8->
((a0=10->
((2<=a13->
((4<a13->
((2:Int)=r0_)/\
 True))/\
(a13<=4->
((a6=true->
((a7=true->
((3:Int)=r0_)/\
 True))/\
(a7=false->
((0:Int)=r0_)/\
 True)))/\
(a6=false->
((0:Int)=r0_)/\
 True))))/\
(a13<2->
((2:Int)=r0_)/\
 True)))/\
(a0≠10->
((a6=true->
((a7=true->
((3:Int)=r0_)/\
 True))/\
(a7=false->
((0:Int)=r0_)/\
 True)))/\
(a6=false->
((0:Int)=r0_)/\
 True))))))/\
(a1<1->
((2:Int)=r0_)/\
 True))))/\
(((a0:Int)=3->
(((a0≠a0∨(a1≠0∨(a2≠0∨(a3≠0∨(a4≠false∨(a5≠0∨(a6≠false∨(a7≠false∨(a8≠0∨(a9≠0∨(a10≠0∨(a11≠0∨(a12≠false∨(a13≠0∨(a14≠0∨(a15≠0∨a16≠0))))))))))))))))->
((3:Int)=r0_)/\
 True))/\
((a0=a0/\(a1=0/\(a2=0/\(a3=0/\(a4=false/\(a5=0/\(a6=false/\(a7=false/\(a8=0/\(a9=0/\(a10=0/\(a11=0/\(a12=false/\(a13=0/\(a14=0/\(a15=0/\a16=0))))))))))))))))->
((a0=8->
((0<=a13->
((2<a13->
((2:Int)=r0_)/\
 True))/\
(a13<=2->
((a0=10->
((2<=a13->
((4<a13->
((2:Int)=r0_)/\
 True))/\
(a13<=4->
((a6=true->
((a7=true->
((3:Int)=r0_)/\
 True))/\
(a7=false->
((0:Int)=r0_)/\
 True)))/\
(a6=false->
((0:Int)=r0_)/\
 True))))/\
(a13<2->
((2:Int)=r0_)/\
 True)))/\
(a0≠10->
((a6=true->
((a7=true->
((3:Int)=r0_)/\
 True))/\
(a7=false->
((0:Int)=r0_)/\
 True)))/\
(a6=false->
((0:Int)=r0_)/\
 True)))))/\
(a13<0->
((2:Int)=r0_)/\
 True)))/\
(a0≠8->
((a0=10->
((2<=a13->
((4<a13->
((2:Int)=r0_)/\
 True))/\
(a13<=4->
((a6=true->
((a7=true->
((3:Int)=r0_)/\
 True))/\
(a7=false->
((0:Int)=r0_)/\
 True)))/\
(a6=false->
((0:Int)=r0_)/\
 True))))/\
(a13<2->
((2:Int)=r0_)/\
 True)))/\
(a0≠10->
((a6=true->
((a7=true->
((3:Int)=r0_)/\
 True))/\
(a7=false->
((0:Int)=r0_)/\
 True)))/\
(a6=false->
((0:Int)=r0_)/\
 True))))))/\
(((a0:Int)=4->
(((a0≠a0∨(a1≠0∨(a2≠a2∨(a3≠a3∨(a4≠a4∨(a5≠a5∨(a6≠a6∨(a7≠a7∨(a8≠0∨(a9≠0∨(a10≠0∨(a11≠0∨(a12≠false∨(a13≠0∨(a14≠0∨(a15≠0∨a16≠0))))))))))))))))->
((3:Int)=r0_)/\
 True))/\
((a0=a0/\(a1=0/\(a2=a2/\(a3=a3/\(a4=a4/\(a5=a5/\(a6=a6/\(a7=a7/\(a8=0/\(a9=0/\(a10=0/\(a11=0/\(a12=false/\(a13=0/\(a14=0/\(a15=0/\a16=0))))))))))))))))->
(((-4)<=a2->
((12<a2->
((2:Int)=r0_)/\
 True))/\
(a2<=12->
(((-1)<=a3->
((2<a3->
((2:Int)=r0_)/\
 True))/\
(a3<=2->
((0<=a5->
((3<a5->
((2:Int)=r0_)/\
 True))/\
(a5<=3->
((a0=8->
((0<=a13->
((2<a13->
((2:Int)=r0_)/\
 True))/\
(a13<=2->
((a0=10->
((2<=a13->
((4<a13->
((2:Int)=r0_)/\
 True))/\
(a13<=4->
((a6=true->
((a7=true->
((3:Int)=r0_)/\
 True))/\
(a7=false->
((0:Int)=r0_)/\
 True)))/\
(a6=false->
((0:Int)=r0_)/\
 True))))/\
(a13<2->
((2:Int)=r0_)/\
 True)))/\
(a0≠10->
((a6=true->
((a7=true->
((3:Int)=r0_)/\
 True))/\
(a7=false->
((0:Int)=r0_)/\
 True)))/\
(a6=false->
((0:Int)=r0_)/\
 True)))))/\
(a13<0->
((2:Int)=r0_)/\
 True)))/\
(a0≠8->
((a0=10->
((2<=a13->
((4<a13->
((2:Int)=r0_)/\
 True))/\
(a13<=4->
((a6=true->
((a7=true->
((3:Int)=r0_)/\
 True))/\
(a7=false->
((0:Int)=r0_)/\
 True)))/\
(a6=false->
((0:Int)=r0_)/\
 True))))/\
(a13<2->
((2:Int)=r0_)/\
 True)))/\
(a0≠10->
((a6=true->
((a7=true->
((3:Int)=r0_)/\
 True))/\
(a7=false->
((0:Int)=r0_)/\
 True)))/\
(a6=false->
((0:Int)=r0_)/\
 True))))))/\
(a5<0->
((2:Int)=r0_)/\
 True))))/\
(a3<(-1)->
((2:Int)=r0_)/\
 True))))/\
(a2<(-4)->
((2:Int)=r0_)/\
 True))))/\
(((a0:Int)=5->
(((a0≠a0∨(a1≠0∨(a2≠0∨(a3≠0∨(a4≠false∨(a5≠0∨(a6≠false∨(a7≠false∨(a8≠a8∨(a9≠a9∨(a10≠a10∨(a11≠a11∨(a12≠a12∨(a13≠0∨(a14≠0∨(a15≠0∨a16≠0))))))))))))))))->
((3:Int)=r0_)/\
 True))/\
((a0=a0/\(a1=0/\(a2=0/\(a3=0/\(a4=false/\(a5=0/\(a6=false/\(a7=false/\(a8=a8/\(a9=a9/\(a10=a10/\(a11=a11/\(a12=a12/\(a13=0/\(a14=0/\(a15=0/\a16=0))))))))))))))))->
(True)/\
(((qb5 a8 a9 a10 a11)≠0->
((12:Int)=r0_)/\
 True))/\
((qb5 a8 a9 a10 a11)=0->
((a0=8->
((0<=a13->
((2<a13->
((2:Int)=r0_)/\
 True))/\
(a13<=2->
((a0=10->
((2<=a13->
((4<a13->
((2:Int)=r0_)/\
 True))/\
(a13<=4->
((a6=true->
((a7=true->
((3:Int)=r0_)/\
 True))/\
(a7=false->
((0:Int)=r0_)/\
 True)))/\
(a6=false->
((0:Int)=r0_)/\
 True))))/\
(a13<2->
((2:Int)=r0_)/\
 True)))/\
(a0≠10->
((a6=true->
((a7=true->
((3:Int)=r0_)/\
 True))/\
(a7=false->
((0:Int)=r0_)/\
 True)))/\
(a6=false->
((0:Int)=r0_)/\
 True)))))/\
(a13<0->
((2:Int)=r0_)/\
 True)))/\
(a0≠8->
((a0=10->
((2<=a13->
((4<a13->
((2:Int)=r0_)/\
 True))/\
(a13<=4->
((a6=true->
((a7=true->
((3:Int)=r0_)/\
 True))/\
(a7=false->
((0:Int)=r0_)/\
 True)))/\
(a6=false->
((0:Int)=r0_)/\
 True))))/\
(a13<2->
((2:Int)=r0_)/\
 True)))/\
(a0≠10->
((a6=true->
((a7=true->
((3:Int)=r0_)/\
 True))/\
(a7=false->
((0:Int)=r0_)/\
 True)))/\
(a6=false->
((0:Int)=r0_)/\
 True)))))))/\
(((a0:Int)=6->
(((a0≠a0∨(a1≠0∨(a2≠0∨(a3≠0∨(a4≠false∨(a5≠0∨(a6≠false∨(a7≠false∨(a8≠0∨(a9≠0∨(a10≠0∨(a11≠0∨(a12≠false∨(a13≠a13∨(a14≠a14∨(a15≠0∨a16≠0))))))))))))))))->
((3:Int)=r0_)/\
 True))/\
((a0=a0/\(a1=0/\(a2=0/\(a3=0/\(a4=false/\(a5=0/\(a6=false/\(a7=false/\(a8=0/\(a9=0/\(a10=0/\(a11=0/\(a12=false/\(a13=a13/\(a14=a14/\(a15=0/\a16=0))))))))))))))))->
((1<=a13->
((100<a13->
((2:Int)=r0_)/\
 True))/\
(a13<=100->
((1<=a14->
((100<a14->
((2:Int)=r0_)/\
 True))/\
(a14<=100->
((a0=8->
((0<=a13->
((2<a13->
((2:Int)=r0_)/\
 True))/\
(a13<=2->
((a0=10->
((2<=a13->
((4<a13->
((2:Int)=r0_)/\
 True))/\
(a13<=4->
((a6=true->
((a7=true->
((3:Int)=r0_)/\
 True))/\
(a7=false->
((0:Int)=r0_)/\
 True)))/\
(a6=false->
((0:Int)=r0_)/\
 True))))/\
(a13<2->
((2:Int)=r0_)/\
 True)))/\
(a0≠10->
((a6=true->
((a7=true->
((3:Int)=r0_)/\
 True))/\
(a7=false->
((0:Int)=r0_)/\
 True)))/\
(a6=false->
((0:Int)=r0_)/\
 True)))))/\
(a13<0->
((2:Int)=r0_)/\
 True)))/\
(a0≠8->
((a0=10->
((2<=a13->
((4<a13->
((2:Int)=r0_)/\
 True))/\
(a13<=4->
((a6=true->
((a7=true->
((3:Int)=r0_)/\
 True))/\
(a7=false->
((0:Int)=r0_)/\
 True)))/\
(a6=false->
((0:Int)=r0_)/\
 True))))/\
(a13<2->
((2:Int)=r0_)/\
 True)))/\
(a0≠10->
((a6=true->
((a7=true->
((3:Int)=r0_)/\
 True))/\
(a7=false->
((0:Int)=r0_)/\
 True)))/\
(a6=false->
((0:Int)=r0_)/\
 True))))))/\
(a14<1->
((2:Int)=r0_)/\
 True))))/\
(a13<1->
((2:Int)=r0_)/\
 True))))/\
(((a0:Int)=7->
(((a0≠a0∨(a1≠0∨(a2≠0∨(a3≠0∨(a4≠false∨(a5≠0∨(a6≠false∨(a7≠false∨(a8≠0∨(a9≠0∨(a10≠0∨(a11≠0∨(a12≠false∨(a13≠0∨(a14≠0∨(a15≠a15∨a16≠a16))))))))))))))))->
((3:Int)=r0_)/\
 True))/\
((a0=a0/\(a1=0/\(a2=0/\(a3=0/\(a4=false/\(a5=0/\(a6=false/\(a7=false/\(a8=0/\(a9=0/\(a10=0/\(a11=0/\(a12=false/\(a13=0/\(a14=0/\(a15=a15/\a16=a16))))))))))))))))->
((a15≠0->
((a15≠3->
((a15≠4->
((2:Int)=r0_)/\
 True))/\
(a15=4->
((1<=a16->
((5<a16->
((2:Int)=r0_)/\
 True))/\
(a16<=5->
((a0=8->
((0<=a13->
((2<a13->
((2:Int)=r0_)/\
 True))/\
(a13<=2->
((a0=10->
((2<=a13->
((4<a13->
((2:Int)=r0_)/\
 True))/\
(a13<=4->
((a6=true->
((a7=true->
((3:Int)=r0_)/\
 True))/\
(a7=false->
((0:Int)=r0_)/\
 True)))/\
(a6=false->
((0:Int)=r0_)/\
 True))))/\
(a13<2->
((2:Int)=r0_)/\
 True)))/\
(a0≠10->
((a6=true->
((a7=true->
((3:Int)=r0_)/\
 True))/\
(a7=false->
((0:Int)=r0_)/\
 True)))/\
(a6=false->
((0:Int)=r0_)/\
 True)))))/\
(a13<0->
((2:Int)=r0_)/\
 True)))/\
(a0≠8->
((a0=10->
((2<=a13->
((4<a13->
((2:Int)=r0_)/\
 True))/\
(a13<=4->
((a6=true->
((a7=true->
((3:Int)=r0_)/\
 True))/\
(a7=false->
((0:Int)=r0_)/\
 True)))/\
(a6=false->
((0:Int)=r0_)/\
 True))))/\
(a13<2->
((2:Int)=r0_)/\
 True)))/\
(a0≠10->
((a6=true->
((a7=true->
((3:Int)=r0_)/\
 True))/\
(a7=false->
((0:Int)=r0_)/\
 True)))/\
(a6=false->
((0:Int)=r0_)/\
 True))))))/\
(a16<1->
((2:Int)=r0_)/\
 True))))/\
(a15=3->
((1<=a16->
((5<a16->
((2:Int)=r0_)/\
 True))/\
(a16<=5->
((a0=8->
((0<=a13->
((2<a13->
((2:Int)=r0_)/\
 True))/\
(a13<=2->
((a0=10->
((2<=a13->
((4<a13->
((2:Int)=r0_)/\
 True))/\
(a13<=4->
((a6=true->
((a7=true->
((3:Int)=r0_)/\
 True))/\
(a7=false->
((0:Int)=r0_)/\
 True)))/\
(a6=false->
((0:Int)=r0_)/\
 True))))/\
(a13<2->
((2:Int)=r0_)/\
 True)))/\
(a0≠10->
((a6=true->
((a7=true->
((3:Int)=r0_)/\
 True))/\
(a7=false->
((0:Int)=r0_)/\
 True)))/\
(a6=false->
((0:Int)=r0_)/\
 True)))))/\
(a13<0->
((2:Int)=r0_)/\
 True)))/\
(a0≠8->
((a0=10->
((2<=a13->
((4<a13->
((2:Int)=r0_)/\
 True))/\
(a13<=4->
((a6=true->
((a7=true->
((3:Int)=r0_)/\
 True))/\
(a7=false->
((0:Int)=r0_)/\
 True)))/\
(a6=false->
((0:Int)=r0_)/\
 True))))/\
(a13<2->
((2:Int)=r0_)/\
 True)))/\
(a0≠10->
((a6=true->
((a7=true->
((3:Int)=r0_)/\
 True))/\
(a7=false->
((0:Int)=r0_)/\
 True)))/\
(a6=false->
((0:Int)=r0_)/\
 True))))))/\
(a16<1->
((2:Int)=r0_)/\
 True))))/\
(a15=0->
((1<=a16->
((5<a16->
((2:Int)=r0_)/\
 True))/\
(a16<=5->
((a0=8->
((0<=a13->
((2<a13->
((2:Int)=r0_)/\
 True))/\
(a13<=2->
((a0=10->
((2<=a13->
((4<a13->
((2:Int)=r0_)/\
 True))/\
(a13<=4->
((a6=true->
((a7=true->
((3:Int)=r0_)/\
 True))/\
(a7=false->
((0:Int)=r0_)/\
 True)))/\
(a6=false->
((0:Int)=r0_)/\
 True))))/\
(a13<2->
((2:Int)=r0_)/\
 True)))/\
(a0≠10->
((a6=true->
((a7=true->
((3:Int)=r0_)/\
 True))/\
(a7=false->
((0:Int)=r0_)/\
 True)))/\
(a6=false->
((0:Int)=r0_)/\
 True)))))/\
(a13<0->
((2:Int)=r0_)/\
 True)))/\
(a0≠8->
((a0=10->
((2<=a13->
((4<a13->
((2:Int)=r0_)/\
 True))/\
(a13<=4->
((a6=true->
((a7=true->
((3:Int)=r0_)/\
 True))/\
(a7=false->
((0:Int)=r0_)/\
 True)))/\
(a6=false->
((0:Int)=r0_)/\
 True))))/\
(a13<2->
((2:Int)=r0_)/\
 True)))/\
(a0≠10->
((a6=true->
((a7=true->
((3:Int)=r0_)/\
 True))/\
(a7=false->
((0:Int)=r0_)/\
 True)))/\
(a6=false->
((0:Int)=r0_)/\
 True))))))/\
(a16<1->
((2:Int)=r0_)/\
 True)))))/\
(((a0:Int)=8->
(((a0≠a0∨(a1≠0∨(a2≠0∨(a3≠0∨(a4≠false∨(a5≠0∨(a6≠false∨(a7≠false∨(a8≠0∨(a9≠0∨(a10≠0∨(a11≠0∨(a12≠false∨(a13≠a13∨(a14≠0∨(a15≠0∨a16≠0))))))))))))))))->
((3:Int)=r0_)/\
 True))/\
((a0=a0/\(a1=0/\(a2=0/\(a3=0/\(a4=false/\(a5=0/\(a6=false/\(a7=false/\(a8=0/\(a9=0/\(a10=0/\(a11=0/\(a12=false/\(a13=a13/\(a14=0/\(a15=0/\a16=0))))))))))))))))->
((a0=8->
((0<=a13->
((2<a13->
((2:Int)=r0_)/\
 True))/\
(a13<=2->
((a0=10->
((2<=a13->
((4<a13->
((2:Int)=r0_)/\
 True))/\
(a13<=4->
((a6=true->
((a7=true->
((3:Int)=r0_)/\
 True))/\
(a7=false->
((0:Int)=r0_)/\
 True)))/\
(a6=false->
((0:Int)=r0_)/\
 True))))/\
(a13<2->
((2:Int)=r0_)/\
 True)))/\
(a0≠10->
((a6=true->
((a7=true->
((3:Int)=r0_)/\
 True))/\
(a7=false->
((0:Int)=r0_)/\
 True)))/\
(a6=false->
((0:Int)=r0_)/\
 True)))))/\
(a13<0->
((2:Int)=r0_)/\
 True)))/\
(a0≠8->
((a0=10->
((2<=a13->
((4<a13->
((2:Int)=r0_)/\
 True))/\
(a13<=4->
((a6=true->
((a7=true->
((3:Int)=r0_)/\
 True))/\
(a7=false->
((0:Int)=r0_)/\
 True)))/\
(a6=false->
((0:Int)=r0_)/\
 True))))/\
(a13<2->
((2:Int)=r0_)/\
 True)))/\
(a0≠10->
((a6=true->
((a7=true->
((3:Int)=r0_)/\
 True))/\
(a7=false->
((0:Int)=r0_)/\
 True)))/\
(a6=false->
((0:Int)=r0_)/\
 True))))))/\
(((a0:Int)=9->
(((a0≠a0∨(a1≠0∨(a2≠0∨(a3≠0∨(a4≠false∨(a5≠0∨(a6≠false∨(a7≠false∨(a8≠0∨(a9≠0∨(a10≠0∨(a11≠0∨(a12≠false∨(a13≠0∨(a14≠0∨(a15≠0∨a16≠0))))))))))))))))->
((3:Int)=r0_)/\
 True))/\
((a0=a0/\(a1=0/\(a2=0/\(a3=0/\(a4=false/\(a5=0/\(a6=false/\(a7=false/\(a8=0/\(a9=0/\(a10=0/\(a11=0/\(a12=false/\(a13=0/\(a14=0/\(a15=0/\a16=0))))))))))))))))->
((a0=8->
((0<=a13->
((2<a13->
((2:Int)=r0_)/\
 True))/\
(a13<=2->
((a0=10->
((2<=a13->
((4<a13->
((2:Int)=r0_)/\
 True))/\
(a13<=4->
((a6=true->
((a7=true->
((3:Int)=r0_)/\
 True))/\
(a7=false->
((0:Int)=r0_)/\
 True)))/\
(a6=false->
((0:Int)=r0_)/\
 True))))/\
(a13<2->
((2:Int)=r0_)/\
 True)))/\
(a0≠10->
((a6=true->
((a7=true->
((3:Int)=r0_)/\
 True))/\
(a7=false->
((0:Int)=r0_)/\
 True)))/\
(a6=false->
((0:Int)=r0_)/\
 True)))))/\
(a13<0->
((2:Int)=r0_)/\
 True)))/\
(a0≠8->
((a0=10->
((2<=a13->
((4<a13->
((2:Int)=r0_)/\
 True))/\
(a13<=4->
((a6=true->
((a7=true->
((3:Int)=r0_)/\
 True))/\
(a7=false->
((0:Int)=r0_)/\
 True)))/\
(a6=false->
((0:Int)=r0_)/\
 True))))/\
(a13<2->
((2:Int)=r0_)/\
 True)))/\
(a0≠10->
((a6=true->
((a7=true->
((3:Int)=r0_)/\
 True))/\
(a7=false->
((0:Int)=r0_)/\
 True)))/\
(a6=false->
((0:Int)=r0_)/\
 True))))))/\
(((a0:Int)=10->
(((a0≠a0∨(a1≠0∨(a2≠0∨(a3≠0∨(a4≠false∨(a5≠0∨(a6≠false∨(a7≠false∨(a8≠0∨(a9≠0∨(a10≠0∨(a11≠0∨(a12≠false∨(a13≠a13∨(a14≠0∨(a15≠0∨a16≠0))))))))))))))))->
((3:Int)=r0_)/\
 True))/\
((a0=a0/\(a1=0/\(a2=0/\(a3=0/\(a4=false/\(a5=0/\(a6=false/\(a7=false/\(a8=0/\(a9=0/\(a10=0/\(a11=0/\(a12=false/\(a13=a13/\(a14=0/\(a15=0/\a16=0))))))))))))))))->
((a0=8->
((0<=a13->
((2<a13->
((2:Int)=r0_)/\
 True))/\
(a13<=2->
((a0=10->
((2<=a13->
((4<a13->
((2:Int)=r0_)/\
 True))/\
(a13<=4->
((a6=true->
((a7=true->
((3:Int)=r0_)/\
 True))/\
(a7=false->
((0:Int)=r0_)/\
 True)))/\
(a6=false->
((0:Int)=r0_)/\
 True))))/\
(a13<2->
((2:Int)=r0_)/\
 True)))/\
(a0≠10->
((a6=true->
((a7=true->
((3:Int)=r0_)/\
 True))/\
(a7=false->
((0:Int)=r0_)/\
 True)))/\
(a6=false->
((0:Int)=r0_)/\
 True)))))/\
(a13<0->
((2:Int)=r0_)/\
 True)))/\
(a0≠8->
((a0=10->
((2<=a13->
((4<a13->
((2:Int)=r0_)/\
 True))/\
(a13<=4->
((a6=true->
((a7=true->
((3:Int)=r0_)/\
 True))/\
(a7=false->
((0:Int)=r0_)/\
 True)))/\
(a6=false->
((0:Int)=r0_)/\
 True))))/\
(a13<2->
((2:Int)=r0_)/\
 True)))/\
(a0≠10->
((a6=true->
((a7=true->
((3:Int)=r0_)/\
 True))/\
(a7=false->
((0:Int)=r0_)/\
 True)))/\
(a6=false->
((0:Int)=r0_)/\
 True))))))/\
(((a0:Int)=11->
(((a0≠a0∨(a1≠0∨(a2≠0∨(a3≠0∨(a4≠false∨(a5≠0∨(a6≠false∨(a7≠false∨(a8≠0∨(a9≠0∨(a10≠0∨(a11≠0∨(a12≠false∨(a13≠0∨(a14≠0∨(a15≠0∨a16≠0))))))))))))))))->
((3:Int)=r0_)/\
 True))/\
((a0=a0/\(a1=0/\(a2=0/\(a3=0/\(a4=false/\(a5=0/\(a6=false/\(a7=false/\(a8=0/\(a9=0/\(a10=0/\(a11=0/\(a12=false/\(a13=0/\(a14=0/\(a15=0/\a16=0))))))))))))))))->
((a0=8->
((0<=a13->
((2<a13->
((2:Int)=r0_)/\
 True))/\
(a13<=2->
((a0=10->
((2<=a13->
((4<a13->
((2:Int)=r0_)/\
 True))/\
(a13<=4->
((a6=true->
((a7=true->
((3:Int)=r0_)/\
 True))/\
(a7=false->
((0:Int)=r0_)/\
 True)))/\
(a6=false->
((0:Int)=r0_)/\
 True))))/\
(a13<2->
((2:Int)=r0_)/\
 True)))/\
(a0≠10->
((a6=true->
((a7=true->
((3:Int)=r0_)/\
 True))/\
(a7=false->
((0:Int)=r0_)/\
 True)))/\
(a6=false->
((0:Int)=r0_)/\
 True)))))/\
(a13<0->
((2:Int)=r0_)/\
 True)))/\
(a0≠8->
((a0=10->
((2<=a13->
((4<a13->
((2:Int)=r0_)/\
 True))/\
(a13<=4->
((a6=true->
((a7=true->
((3:Int)=r0_)/\
 True))/\
(a7=false->
((0:Int)=r0_)/\
 True)))/\
(a6=false->
((0:Int)=r0_)/\
 True))))/\
(a13<2->
((2:Int)=r0_)/\
 True)))/\
(a0≠10->
((a6=true->
((a7=true->
((3:Int)=r0_)/\
 True))/\
(a7=false->
((0:Int)=r0_)/\
 True)))/\
(a6=false->
((0:Int)=r0_)/\
 True))))))/\
(((a0:Int)=12->
(((a0≠a0∨(a1≠0∨(a2≠0∨(a3≠0∨(a4≠false∨(a5≠0∨(a6≠false∨(a7≠false∨(a8≠0∨(a9≠0∨(a10≠0∨(a11≠0∨(a12≠false∨(a13≠0∨(a14≠0∨(a15≠0∨a16≠0))))))))))))))))->
((3:Int)=r0_)/\
 True))/\
((a0=a0/\(a1=0/\(a2=0/\(a3=0/\(a4=false/\(a5=0/\(a6=false/\(a7=false/\(a8=0/\(a9=0/\(a10=0/\(a11=0/\(a12=false/\(a13=0/\(a14=0/\(a15=0/\a16=0))))))))))))))))->
((a0=8->
((0<=a13->
((2<a13->
((2:Int)=r0_)/\
 True))/\
(a13<=2->
((a0=10->
((2<=a13->
((4<a13->
((2:Int)=r0_)/\
 True))/\
(a13<=4->
((a6=true->
((a7=true->
((3:Int)=r0_)/\
 True))/\
(a7=false->
((0:Int)=r0_)/\
 True)))/\
(a6=false->
((0:Int)=r0_)/\
 True))))/\
(a13<2->
((2:Int)=r0_)/\
 True)))/\
(a0≠10->
((a6=true->
((a7=true->
((3:Int)=r0_)/\
 True))/\
(a7=false->
((0:Int)=r0_)/\
 True)))/\
(a6=false->
((0:Int)=r0_)/\
 True)))))/\
(a13<0->
((2:Int)=r0_)/\
 True)))/\
(a0≠8->
((a0=10->
((2<=a13->
((4<a13->
((2:Int)=r0_)/\
 True))/\
(a13<=4->
((a6=true->
((a7=true->
((3:Int)=r0_)/\
 True))/\
(a7=false->
((0:Int)=r0_)/\
 True)))/\
(a6=false->
((0:Int)=r0_)/\
 True))))/\
(a13<2->
((2:Int)=r0_)/\
 True)))/\
(a0≠10->
((a6=true->
((a7=true->
((3:Int)=r0_)/\
 True))/\
(a7=false->
((0:Int)=r0_)/\
 True)))/\
(a6=false->
((0:Int)=r0_)/\
 True))))))/\
 True))) (ku (Sign.mk a0 a1 a2 a3 a4 a5 a6 a7 a8 a9 a10 a11 a12 a13 a14 a15 a16))
theorem zmm (a0:Int) (a1:Int) (a2:Int) (a3:Int) (a4:Bool) (a5:Int) (a6:Bool) (a7:Bool) (a8:Int) (a9:Int) (a10:Int) (a11:Int) (a12:Bool) (a13:Int) (a14:Int) (a15:Int) (a16:Int):qbs (qq XK (qav zg2) (fun _ _=>False) (fun _ _=>0)) {cfg sp with ann:=qbp []} 6 32 [.agg [.int .i64 none (a0),.int .i64 none (a1),.int .i64 none (a2),.int .i64 none (a3),.sb 0 false (a4) (a4=true) (a4=false),.int .i64 none (a5),.sb 0 false (a6) (a6=true) (a6=false),.sb 0 false (a7) (a7=true) (a7=false),.int .i64 none (a8),.int .i64 none (a9),.int .i64 none (a10),.int .i64 none (a11),.sb 0 false (a12) (a12=true) (a12=false),.int .i64 none (a13),.int .i64 none (a14),.int .i64 none (a15),.int .i64 none (a16)]] (q4m a0 a1 a2 a3 a4 a5 a6 a7 a8 a9 a10 a11 a12 a13 a14 a15 a16)=q2e a0 a1 a2 a3 a4 a5 a6 a7 a8 a9 a10 a11 a12 a13 a14 a15 a16:=by kernel_rfl
end Go.Proofs.YtbopmiclcimjgaaGreatDoor
namespace Go.Proofs.YtbopmiclcimjgaaGreatDoor
open Go Go.E2 Go.E3
set_option maxRecDepth 100000
variable {sp:Nat->Option (List V->Heap->Option (CR×Heap))}

def zei:List (Nat×Ct KT):=[]
abbrev q0m (a0:Int):PV KT:=.int .u8 none ((jy a0))
abbrev q49 (a0:Int):Prop:=
(I64 a0)/\
((127<=a0->
((120:Int)=(jy a0))/\
 True))/\
(a0<127->
(Wn a0 (ln ([120,120,120,120,120,120,120,120,120,120,120,120,120,120,120,120,120,120,120,120,120,120,120,120,120,120,120,120,120,120,120,120,32,112,113,112,112,112,112,112,112,112,112,112,112,112,112,112,112,112,112,112,112,112,112,112,112,112,112,99,112,112,112,112,112,112,112,112,112,112,112,112,112,112,112,112,112,112,112,112,112,112,112,112,112,112,112,112,112,112,112,112,112,112,112,112,112,112,112,112,112,112,112,112,112,112,112,112,112,112,112,112,112,112,112,112,112,112,112,112,112,112,112,112,112,112,112]:ZB)))/\
(((bx ([120,120,120,120,120,120,120,120,120,120,120,120,120,120,120,120,120,120,120,120,120,120,120,120,120,120,120,120,120,120,120,120,32,112,113,112,112,112,112,112,112,112,112,112,112,112,112,112,112,112,112,112,112,112,112,112,112,112,112,99,112,112,112,112,112,112,112,112,112,112,112,112,112,112,112,112,112,112,112,112,112,112,112,112,112,112,112,112,112,112,112,112,112,112,112,112,112,112,112,112,112,112,112,112,112,112,112,112,112,112,112,112,112,112,112,112,112,112,112,112,112,112,112,112,112,112,112]:ZB) a0):Int)=(jy a0))/\
 True)
theorem zhx (a0:Int):qbs (qq XK (qav zei) (fun _ _=>False) (fun _ _=>0)) {cfg sp with ann:=qbp []} 3 108 [.int .u8 none (a0)] (q0m a0)=q49 a0:=by kernel_rfl
def zad:List (Nat×Ct KT):=[(108,zbh)]
abbrev qym (a0:ZB):PV KT:=.sb 0 false ((qal a0)) ((qal a0)=true) ((qal a0)=false)
abbrev q1p (a0:ZB):Prop:=
(qh9 a0 0)/\
(∀ x0:Int,
(qh9 a0 x0->
((x0<(ln a0)->
(Wn x0 (ln a0))/\
((U8 (bx a0 x0)))/\
(((jy (bx a0 x0))=120->
(false=(qal a0))/\
 True))/\
((jy (bx a0 x0))≠120->
(((jy (bx a0 x0))=113->
(false=(qal a0))/\
 True))/\
((jy (bx a0 x0))≠113->
(I64 (x0+1))/\
(qh9 a0 (x0+1))/\
 qhg a0 (x0+1)<qhg a0 x0))))/\
((ln a0)<=x0->
(true=(qal a0))/\
 True)))
theorem zf1 (a0:ZB):qbs (qq XK (qav zad) (fun j ns=>match j,ns with | 0,[.i y0]=>qh9 a0 y0 | _,_=>False) (fun j ns=>match j,ns with | 0,[.i y0]=>qhg a0 y0 | _,_=>0)) {cfg sp with ann:=qbp [(109,26,.inv 0 [.one 7 (.int .i64)] [])]} 3 109 [.str (a0)] (qym a0)=q1p a0:=by kernel_rfl
def q26:List (Nat×Ct KT):=[(145,zh6),(137,zbk)]
abbrev qq4 (a0:ZB) (a1:ZB) (a2:Int) (a3:Int):PV KT:=.list 2 ((qy (bx a1 0) a0)) none
abbrev qm3 (a0:ZB) (a1:ZB) (a2:Int) (a3:Int):Prop:=
 let l4_:=0+(ln a1);
 let l1_:=if ((ln a0)+1)<a3 then ((ln a0)+1) else a3;
 let l0_:=if ((ln a0)+1)<((qk1 a0 (bx a1 0))+1) then ((ln a0)+1) else ((qk1 a0 (bx a1 0))+1);
((a3=0->
(([]:List ZB)=(qy (bx a1 0) a0))/\
 True))/\
(a3≠0->
((a1=([]:ZB)->
 False /- operation -/))/\
(a1≠([]:ZB)->
((a3<0->
(((ln a1)=0->
 False /- operation -/))/\
((ln a1)≠0->
(((ln a1)=1->
(Wn 0 (ln a1))/\
(True)/\
(I64 ((qk1 a0 (bx a1 0))+1))/\
(I64 ((ln a0)+1))/\
((l0_:Int)=l0_)/\
(Wn l0_ 1000000000)/\
(True)/\
(I64 (l0_-1))/\
(kh a0 a1 a2 a3 a0 0 (List.replicate (Int.toNat l0_) ([]:ZB)))/\
(∀ x5:ZB,
(∀ x6:Int,
(∀ x7:List ZB,
 let l2_:=List.set x7 (Int.toNat x6) x5;
(kh a0 a1 a2 a3 x5 x6 x7->
((x6<(l0_-1)->
(((ln a1)=0->
(I64 (0+a2))/\
((0:Int)<=(0+a2)/\(0+a2)<=ln x5)/\
(Wn x6 l0_)/\
(l0_<=(ln x7))/\
(True)/\
(I64 l4_)/\
((0:Int)<=l4_/\l4_<=ln x5)/\
(I64 (x6+1))/\
(kh a0 a1 a2 a3 (fr x5 l4_) (x6+1) (List.set x7 (Int.toNat x6) (upto x5 (0+a2))))/\
 kc a0 a1 a2 a3 (fr x5 l4_) (x6+1) (List.set x7 (Int.toNat x6) (upto x5 (0+a2)))<kc a0 a1 a2 a3 x5 x6 x7))/\
((ln a1)≠0->
((a1=x5->
(I64 (0+a2))/\
((0:Int)<=(0+a2)/\(0+a2)<=ln x5)/\
(Wn x6 l0_)/\
(l0_<=(ln x7))/\
(True)/\
(I64 l4_)/\
((0:Int)<=l4_/\l4_<=ln x5)/\
(I64 (x6+1))/\
(kh a0 a1 a2 a3 (fr x5 l4_) (x6+1) (List.set x7 (Int.toNat x6) (upto x5 (0+a2))))/\
 kc a0 a1 a2 a3 (fr x5 l4_) (x6+1) (List.set x7 (Int.toNat x6) (upto x5 (0+a2)))<kc a0 a1 a2 a3 x5 x6 x7))/\
(a1≠x5->
(((ln a1)=1->
(Wn 0 (ln a1))/\
(True)/\
(((jc x5 (bx a1 0))<0->
(Wn x6 l0_)/\
(l0_<=(ln x7))/\
(True)/\
(I64 (x6+1))/\
((l0_:Int)=(ln l2_))/\
((0:Int)<=(x6+1)/\(x6+1)<=ln l2_)/\
((upto l2_ (x6+1))=(qy (bx a1 0) a0))/\
 True))/\
(0<=(jc x5 (bx a1 0))->
(I64 ((jc x5 (bx a1 0))+a2))/\
((0:Int)<=((jc x5 (bx a1 0))+a2)/\((jc x5 (bx a1 0))+a2)<=ln x5)/\
(Wn x6 l0_)/\
(l0_<=(ln x7))/\
(True)/\
(I64 ((jc x5 (bx a1 0))+(ln a1)))/\
((0:Int)<=((jc x5 (bx a1 0))+(ln a1))/\((jc x5 (bx a1 0))+(ln a1))<=ln x5)/\
(I64 (x6+1))/\
(kh a0 a1 a2 a3 (fr x5 ((jc x5 (bx a1 0))+(ln a1))) (x6+1) (List.set x7 (Int.toNat x6) (upto x5 ((jc x5 (bx a1 0))+a2))))/\
 kc a0 a1 a2 a3 (fr x5 ((jc x5 (bx a1 0))+(ln a1))) (x6+1) (List.set x7 (Int.toNat x6) (upto x5 ((jc x5 (bx a1 0))+a2)))<kc a0 a1 a2 a3 x5 x6 x7)))/\
((ln a1)≠1->
(((ln x5)<=(ln a1)->
(Wn x6 l0_)/\
(l0_<=(ln x7))/\
(True)/\
(I64 (x6+1))/\
((l0_:Int)=(ln l2_))/\
((0:Int)<=(x6+1)/\(x6+1)<=ln l2_)/\
((upto l2_ (x6+1))=(qy (bx a1 0) a0))/\
 True))/\
((ln a1)<(ln x5)->
 False /- operand -/))))))/\
((l0_-1)<=x6->
(Wn x6 l0_)/\
(l0_<=(ln x7))/\
(True)/\
(I64 (x6+1))/\
((l0_:Int)=(ln l2_))/\
((0:Int)<=(x6+1)/\(x6+1)<=ln l2_)/\
((upto l2_ (x6+1))=(qy (bx a1 0) a0))/\
 True)))))))/\
((ln a1)≠1->
 False /- loop -/))))/\
(0<=a3->
(I64 ((ln a0)+1))/\
((l1_:Int)=l1_)/\
(Wn l1_ 1000000000)/\
(True)/\
(I64 (l1_-1))/\
(kh a0 a1 a2 a3 a0 0 (List.replicate (Int.toNat l1_) ([]:ZB)))/\
(∀ x3:ZB,
(∀ x4:Int,
(∀ x5:List ZB,
 let l3_:=List.set x5 (Int.toNat x4) x3;
(kh a0 a1 a2 a3 x3 x4 x5->
((x4<(l1_-1)->
(((ln a1)=0->
(I64 (0+a2))/\
((0:Int)<=(0+a2)/\(0+a2)<=ln x3)/\
(Wn x4 l1_)/\
(l1_<=(ln x5))/\
(True)/\
(I64 l4_)/\
((0:Int)<=l4_/\l4_<=ln x3)/\
(I64 (x4+1))/\
(kh a0 a1 a2 a3 (fr x3 l4_) (x4+1) (List.set x5 (Int.toNat x4) (upto x3 (0+a2))))/\
 kc a0 a1 a2 a3 (fr x3 l4_) (x4+1) (List.set x5 (Int.toNat x4) (upto x3 (0+a2)))<kc a0 a1 a2 a3 x3 x4 x5))/\
((ln a1)≠0->
((a1=x3->
(I64 (0+a2))/\
((0:Int)<=(0+a2)/\(0+a2)<=ln x3)/\
(Wn x4 l1_)/\
(l1_<=(ln x5))/\
(True)/\
(I64 l4_)/\
((0:Int)<=l4_/\l4_<=ln x3)/\
(I64 (x4+1))/\
(kh a0 a1 a2 a3 (fr x3 l4_) (x4+1) (List.set x5 (Int.toNat x4) (upto x3 (0+a2))))/\
 kc a0 a1 a2 a3 (fr x3 l4_) (x4+1) (List.set x5 (Int.toNat x4) (upto x3 (0+a2)))<kc a0 a1 a2 a3 x3 x4 x5))/\
(a1≠x3->
(((ln a1)=1->
(Wn 0 (ln a1))/\
(True)/\
(((jc x3 (bx a1 0))<0->
(Wn x4 l1_)/\
(l1_<=(ln x5))/\
(True)/\
(I64 (x4+1))/\
((l1_:Int)=(ln l3_))/\
((0:Int)<=(x4+1)/\(x4+1)<=ln l3_)/\
((upto l3_ (x4+1))=(qy (bx a1 0) a0))/\
 True))/\
(0<=(jc x3 (bx a1 0))->
(I64 ((jc x3 (bx a1 0))+a2))/\
((0:Int)<=((jc x3 (bx a1 0))+a2)/\((jc x3 (bx a1 0))+a2)<=ln x3)/\
(Wn x4 l1_)/\
(l1_<=(ln x5))/\
(True)/\
(I64 ((jc x3 (bx a1 0))+(ln a1)))/\
((0:Int)<=((jc x3 (bx a1 0))+(ln a1))/\((jc x3 (bx a1 0))+(ln a1))<=ln x3)/\
(I64 (x4+1))/\
(kh a0 a1 a2 a3 (fr x3 ((jc x3 (bx a1 0))+(ln a1))) (x4+1) (List.set x5 (Int.toNat x4) (upto x3 ((jc x3 (bx a1 0))+a2))))/\
 kc a0 a1 a2 a3 (fr x3 ((jc x3 (bx a1 0))+(ln a1))) (x4+1) (List.set x5 (Int.toNat x4) (upto x3 ((jc x3 (bx a1 0))+a2)))<kc a0 a1 a2 a3 x3 x4 x5)))/\
((ln a1)≠1->
(((ln x3)<=(ln a1)->
(Wn x4 l1_)/\
(l1_<=(ln x5))/\
(True)/\
(I64 (x4+1))/\
((l1_:Int)=(ln l3_))/\
((0:Int)<=(x4+1)/\(x4+1)<=ln l3_)/\
((upto l3_ (x4+1))=(qy (bx a1 0) a0))/\
 True))/\
((ln a1)<(ln x3)->
 False /- operand -/))))))/\
((l1_-1)<=x4->
(Wn x4 l1_)/\
(l1_<=(ln x5))/\
(True)/\
(I64 (x4+1))/\
((l1_:Int)=(ln l3_))/\
((0:Int)<=(x4+1)/\(x4+1)<=ln l3_)/\
((upto l3_ (x4+1))=(qy (bx a1 0) a0))/\
 True))))))))
theorem q6c (a0:ZB) (a1:ZB) (a2:Int) (a3:Int):qbs (qq XK (qav q26) (fun j ns=>match j,ns with | 0,[.s y0,.i y1,.l 2 y2]=>kh a0 a1 a2 a3 y0 y1 y2 | _,_=>False) (fun j ns=>match j,ns with | 0,[.s y0,.i y1,.l 2 y2]=>kc a0 a1 a2 a3 y0 y1 y2 | _,_=>0)) {cfg sp with ann:=qbp [(106,2044,.inv 0 [.one 0 (.str),.one 10 (.int .i64),.elems 31] [])]} 3 106 [.str (a0),.str (a1),.int .i64 none (a2),.int .i64 none (a3)] (qq4 a0 a1 a2 a3)=qm3 a0 a1 a2 a3:=by kernel_rfl
def zd4:List (Nat×Ct KT):=[(106,zh2)]
abbrev q0c (a0:ZB) (a1:ZB):PV KT:=.list 2 ((qy (bx a1 0) a0)) none
abbrev q4v (a0:ZB) (a1:ZB):Prop:=
((ln a1=1/\(0:Int)=0/\((-1):Int) = -1/\ln a0<=100000000))/\
((qy (bx a1 0) a0)=(qy (bx a1 0) a0))/\
 True
theorem zhe (a0:ZB) (a1:ZB):qbs (qq XK (qav zd4) (fun _ _=>False) (fun _ _=>0)) {cfg sp with ann:=qbp []} 3 55 [.str (a0),.str (a1)] (q0c a0 a1)=q4v a0 a1:=by kernel_rfl
def zd2:List (Nat×Ct KT):=[(55,zqx),(108,zbh),(77,zh9),(109,zh4)]
abbrev q0a (a0:ZB):PV KT:=.tuple [.list 6 (((qd a0).1)) (some (0,0)),.agg [.int .i64 none (((qd a0).2.1)),.int .i64 none (((qd a0).2.2))]]
abbrev qwc (v0:ZB) (v1:Int) (v2:Int) (v3:List Word) (p:Prop):Prop:=
(([]:ZB)=([]:ZB))/\
((ix (qy (bx ([10]:ZB) 0) v0) v1)=(ix (qy (bx ([10]:ZB) 0) v0) v1))/\
((v2:Int)=v2)/\
(v3=v3)/\
 p
abbrev zu (v0:Int) (v1:List Row) (v2:ZB) (v3:Int) (p:Prop):Prop:=
((v0:Int)=v0)/\
(v1=v1)/\
((ix (qy (bx ([10]:ZB) 0) v2) v3)=(ix (qy (bx ([10]:ZB) 0) v2) v3))/\
 p
abbrev qwb (a0:ZB):Prop:=
 let l7_:=qd a0;
((20000<(ln a0)->
(([]:List Row)=(l7_.1))/\
((4:Int)=(l7_.2.1))/\
((20000:Int)=(l7_.2.2))/\
 True))/\
((ln a0)<=20000->
((ln ([10]:ZB)=1/\ln a0<=100000000))/\
(qap a0 ([]:List Row) 0 0)/\
(∀ x1:List Row,
(∀ x2:Int,
 let l2_:=Word.mk (0+x2) ([]:ZB) false;
(∀ x3:Int,
 let l0_:=ix (qy (bx ([10]:ZB) 0) a0) x3;
 let l10_:=x2+((ln l0_)+1);
(qap a0 x1 x2 x3->
((x3<(ln (qy (bx ([10]:ZB) 0) a0))->
(Wn x3 (ln (qy (bx ([10]:ZB) 0) a0)))/\
(I64 ((ln l0_)+1))/\
(I64 l10_)/\
((1000<(ln l0_)->
(([]:List Row)=(l7_.1))/\
((4:Int)=(l7_.2.1))/\
((x2:Int)=(l7_.2.2))/\
 True))/\
((ln l0_)<=1000->
(qw a0 ([]:List Word) 0 x2 l0_)/\
(∀ x7:List Word,
 let l9_:=x7++[l2_];
 let l5_:=List.length x7+List.length [l2_];
(∀ x8:Int,
(qw a0 x7 x8 x2 l0_->
(qho a0 x8 l0_ x8)/\
(∀ x10:Int,
 let l15_:=x2+x10;
 let l8_:=jc (fr l0_ (x10+1)) 34;
 let l4_:=(x10+1)+l8_;
 let l11_:=sub l0_ (x10+1) l4_;
 let l1_:=(x10+l8_)+2;
 let l3_:=Word.mk (x10+x2) (sub l0_ (x10+1) (l1_-1)) true;
 let l12_:=x7++[l3_];
 let l6_:=List.length x7+List.length [l3_];
(qho a0 x10 l0_ x8->
((x10<(ln l0_)->
(Wn x10 (ln l0_))/\
(((bx l0_ x10)=32->
(I64 (x10+1))/\
(qwc a0 x3 x2 x7 (
(qho a0 (x10+1) l0_ x8)/\
 qid a0 (x10+1) l0_ x8<qid a0 x10 l0_ x8))))/\
((bx l0_ x10)≠32->
((x10=(ln l0_)->
((0<(ln x7)->
(True)/\
(qh (List.length x1+List.length [(Row.mk x2 x7)]))/\
(I64 (x3+1))/\
(qap a0 (x1++[(Row.mk x2 x7)]) l10_ (x3+1))/\
 z8 a0 (x1++[(Row.mk x2 x7)]) l10_ (x3+1)<z8 a0 x1 x2 x3))/\
((ln x7)<=0->
(I64 (x3+1))/\
(qap a0 x1 l10_ (x3+1))/\
 z8 a0 x1 l10_ (x3+1)<z8 a0 x1 x2 x3)))/\
(x10≠(ln l0_)->
(Wn x10 (ln l0_))/\
(((bx l0_ x10)=59->
((0<(ln x7)->
(True)/\
(qh (List.length x1+List.length [(Row.mk x2 x7)]))/\
(I64 (x3+1))/\
(qap a0 (x1++[(Row.mk x2 x7)]) l10_ (x3+1))/\
 z8 a0 (x1++[(Row.mk x2 x7)]) l10_ (x3+1)<z8 a0 x1 x2 x3))/\
((ln x7)<=0->
(I64 (x3+1))/\
(qap a0 x1 l10_ (x3+1))/\
 z8 a0 x1 l10_ (x3+1)<z8 a0 x1 x2 x3)))/\
((bx l0_ x10)≠59->
(Wn x10 (ln l0_))/\
((U8 (bx l0_ x10)))/\
(((jy (bx l0_ x10))=120->
((0<=x10->
(I64 l15_)/\
(([]:List Row)=(l7_.1))/\
((3:Int)=(l7_.2.1))/\
((l15_:Int)=(l7_.2.2))/\
 True))/\
(x10<0->
(I64 (0+x2))/\
(True)/\
(qh l5_)/\
(zu x2 x1 a0 x3 (
(qw a0 l9_ x10 x2 l0_)/\
 qb a0 l9_ x10 x2 l0_<qb a0 x7 x8 x2 l0_)))))/\
((jy (bx l0_ x10))≠120->
(((jy (bx l0_ x10))=113->
(I64 (x10+1))/\
((0:Int)<=(x10+1)/\(x10+1)<=ln l0_)/\
((U8 34))/\
((0<x10->
(I64 (x10-1))/\
(Wn (x10-1) (ln l0_))/\
(((bx l0_ (x10-1))≠32->
((0<=x10->
(I64 l15_)/\
(([]:List Row)=(l7_.1))/\
((3:Int)=(l7_.2.1))/\
((l15_:Int)=(l7_.2.2))/\
 True))/\
(x10<0->
(I64 (0+x2))/\
(True)/\
(qh l5_)/\
(zu x2 x1 a0 x3 (
(qw a0 l9_ x10 x2 l0_)/\
 qb a0 l9_ x10 x2 l0_<qb a0 x7 x8 x2 l0_)))))/\
((bx l0_ (x10-1))=32->
((l8_<0->
((0<=x10->
(I64 l15_)/\
(([]:List Row)=(l7_.1))/\
((3:Int)=(l7_.2.1))/\
((l15_:Int)=(l7_.2.2))/\
 True))/\
(x10<0->
(I64 (0+x2))/\
(True)/\
(qh l5_)/\
(zu x2 x1 a0 x3 (
(qw a0 l9_ x10 x2 l0_)/\
 qb a0 l9_ x10 x2 l0_<qb a0 x7 x8 x2 l0_)))))/\
(0<=l8_->
(I64 (x10+1))/\
(I64 (x10+1))/\
(I64 l4_)/\
((0:Int)<=(x10+1)/\((x10+1):Int)<=l4_/\l4_<=ln l0_)/\
((ln l11_<=1000000000))/\
(((qal l11_)=false->
((0<=x10->
(I64 l15_)/\
(([]:List Row)=(l7_.1))/\
((3:Int)=(l7_.2.1))/\
((l15_:Int)=(l7_.2.2))/\
 True))/\
(x10<0->
(I64 (0+x2))/\
(True)/\
(qh l5_)/\
(zu x2 x1 a0 x3 (
(qw a0 l9_ x10 x2 l0_)/\
 qb a0 l9_ x10 x2 l0_<qb a0 x7 x8 x2 l0_)))))/\
((qal l11_)=true->
(I64 (x10+l8_))/\
(I64 l1_)/\
((l1_<(ln l0_)->
(Wn l1_ (ln l0_))/\
(((bx l0_ l1_)≠32->
(Wn l1_ (ln l0_))/\
(((bx l0_ l1_)≠59->
((0<=x10->
(I64 l15_)/\
(([]:List Row)=(l7_.1))/\
((3:Int)=(l7_.2.1))/\
((l15_:Int)=(l7_.2.2))/\
 True))/\
(x10<0->
(I64 (0+x2))/\
(True)/\
(qh l5_)/\
(zu x2 x1 a0 x3 (
(qw a0 l9_ l1_ x2 l0_)/\
 qb a0 l9_ l1_ x2 l0_<qb a0 x7 x8 x2 l0_)))))/\
((bx l0_ l1_)=59->
(I64 (x10+1))/\
(I64 (l1_-1))/\
((0:Int)<=(x10+1)/\((x10+1):Int)<=(l1_-1)/\(l1_-1)<=ln l0_)/\
(I64 (x10+x2))/\
(True)/\
(qh l6_)/\
(zu x2 x1 a0 x3 (
(qw a0 l12_ l1_ x2 l0_)/\
 qb a0 l12_ l1_ x2 l0_<qb a0 x7 x8 x2 l0_)))))/\
((bx l0_ l1_)=32->
(I64 (x10+1))/\
(I64 (l1_-1))/\
((0:Int)<=(x10+1)/\((x10+1):Int)<=(l1_-1)/\(l1_-1)<=ln l0_)/\
(I64 (x10+x2))/\
(True)/\
(qh l6_)/\
(zu x2 x1 a0 x3 (
(qw a0 l12_ l1_ x2 l0_)/\
 qb a0 l12_ l1_ x2 l0_<qb a0 x7 x8 x2 l0_)))))/\
((ln l0_)<=l1_->
(I64 (x10+1))/\
(I64 (l1_-1))/\
((0:Int)<=(x10+1)/\((x10+1):Int)<=(l1_-1)/\(l1_-1)<=ln l0_)/\
(I64 (x10+x2))/\
(True)/\
(qh l6_)/\
(zu x2 x1 a0 x3 (
(qw a0 l12_ l1_ x2 l0_)/\
 qb a0 l12_ l1_ x2 l0_<qb a0 x7 x8 x2 l0_))))))))/\
(x10<=0->
((l8_<0->
((0<=x10->
(I64 l15_)/\
(([]:List Row)=(l7_.1))/\
((3:Int)=(l7_.2.1))/\
((l15_:Int)=(l7_.2.2))/\
 True))/\
(x10<0->
(I64 (0+x2))/\
(True)/\
(qh l5_)/\
(zu x2 x1 a0 x3 (
(qw a0 l9_ x10 x2 l0_)/\
 qb a0 l9_ x10 x2 l0_<qb a0 x7 x8 x2 l0_)))))/\
(0<=l8_->
(I64 (x10+1))/\
(I64 (x10+1))/\
(I64 l4_)/\
((0:Int)<=(x10+1)/\((x10+1):Int)<=l4_/\l4_<=ln l0_)/\
((ln l11_<=1000000000))/\
(((qal l11_)=false->
((0<=x10->
(I64 l15_)/\
(([]:List Row)=(l7_.1))/\
((3:Int)=(l7_.2.1))/\
((l15_:Int)=(l7_.2.2))/\
 True))/\
(x10<0->
(I64 (0+x2))/\
(True)/\
(qh l5_)/\
(zu x2 x1 a0 x3 (
(qw a0 l9_ x10 x2 l0_)/\
 qb a0 l9_ x10 x2 l0_<qb a0 x7 x8 x2 l0_)))))/\
((qal l11_)=true->
(I64 (x10+l8_))/\
(I64 l1_)/\
((l1_<(ln l0_)->
(Wn l1_ (ln l0_))/\
(((bx l0_ l1_)≠32->
(Wn l1_ (ln l0_))/\
(((bx l0_ l1_)≠59->
((0<=x10->
(I64 l15_)/\
(([]:List Row)=(l7_.1))/\
((3:Int)=(l7_.2.1))/\
((l15_:Int)=(l7_.2.2))/\
 True))/\
(x10<0->
(I64 (0+x2))/\
(True)/\
(qh l5_)/\
(zu x2 x1 a0 x3 (
(qw a0 l9_ l1_ x2 l0_)/\
 qb a0 l9_ l1_ x2 l0_<qb a0 x7 x8 x2 l0_)))))/\
((bx l0_ l1_)=59->
(I64 (x10+1))/\
(I64 (l1_-1))/\
((0:Int)<=(x10+1)/\((x10+1):Int)<=(l1_-1)/\(l1_-1)<=ln l0_)/\
(I64 (x10+x2))/\
(True)/\
(qh l6_)/\
(zu x2 x1 a0 x3 (
(qw a0 l12_ l1_ x2 l0_)/\
 qb a0 l12_ l1_ x2 l0_<qb a0 x7 x8 x2 l0_)))))/\
((bx l0_ l1_)=32->
(I64 (x10+1))/\
(I64 (l1_-1))/\
((0:Int)<=(x10+1)/\((x10+1):Int)<=(l1_-1)/\(l1_-1)<=ln l0_)/\
(I64 (x10+x2))/\
(True)/\
(qh l6_)/\
(zu x2 x1 a0 x3 (
(qw a0 l12_ l1_ x2 l0_)/\
 qb a0 l12_ l1_ x2 l0_<qb a0 x7 x8 x2 l0_)))))/\
((ln l0_)<=l1_->
(I64 (x10+1))/\
(I64 (l1_-1))/\
((0:Int)<=(x10+1)/\((x10+1):Int)<=(l1_-1)/\(l1_-1)<=ln l0_)/\
(I64 (x10+x2))/\
(True)/\
(qh l6_)/\
(zu x2 x1 a0 x3 (
(qw a0 l12_ l1_ x2 l0_)/\
 qb a0 l12_ l1_ x2 l0_<qb a0 x7 x8 x2 l0_))))))))/\
((jy (bx l0_ x10))≠113->
(qcv a0 x10 l0_ x10)/\
(∀ x18:Int,
 let l13_:=Word.mk (x10+x2) (sub l0_ x10 x18) false;
(qcv a0 x18 l0_ x10->
((x18<(ln l0_)->
(Wn x18 (ln l0_))/\
((U8 (bx l0_ x18)))/\
(((jy (bx l0_ x18))=112->
(I64 (x18+1))/\
(qwc a0 x3 x2 x7 (
(qcv a0 (x18+1) l0_ x10)/\
 qed a0 (x18+1) l0_ x10<qed a0 x18 l0_ x10))))/\
((jy (bx l0_ x18))≠112->
((0:Int)<=x10/\(x10:Int)<=x18/\x18<=ln l0_)/\
(I64 (x10+x2))/\
(True)/\
(qh (List.length x7+List.length [l13_]))/\
(zu x2 x1 a0 x3 (
(qw a0 (x7++[l13_]) x18 x2 l0_)/\
 qb a0 (x7++[l13_]) x18 x2 l0_<qb a0 x7 x8 x2 l0_)))))/\
((ln l0_)<=x18->
((0:Int)<=x10/\(x10:Int)<=x18/\x18<=ln l0_)/\
(I64 (x10+x2))/\
(True)/\
(qh (List.length x7+List.length [l13_]))/\
(zu x2 x1 a0 x3 (
(qw a0 (x7++[l13_]) x18 x2 l0_)/\
 qb a0 (x7++[l13_]) x18 x2 l0_<qb a0 x7 x8 x2 l0_))))))))))))/\
((ln l0_)<=x10->
((x10=(ln l0_)->
((0<(ln x7)->
(True)/\
(qh (List.length x1+List.length [(Row.mk x2 x7)]))/\
(I64 (x3+1))/\
(qap a0 (x1++[(Row.mk x2 x7)]) l10_ (x3+1))/\
 z8 a0 (x1++[(Row.mk x2 x7)]) l10_ (x3+1)<z8 a0 x1 x2 x3))/\
((ln x7)<=0->
(I64 (x3+1))/\
(qap a0 x1 l10_ (x3+1))/\
 z8 a0 x1 l10_ (x3+1)<z8 a0 x1 x2 x3)))/\
(x10≠(ln l0_)->
(Wn x10 (ln l0_))/\
(((bx l0_ x10)=59->
((0<(ln x7)->
(True)/\
(qh (List.length x1+List.length [(Row.mk x2 x7)]))/\
(I64 (x3+1))/\
(qap a0 (x1++[(Row.mk x2 x7)]) l10_ (x3+1))/\
 z8 a0 (x1++[(Row.mk x2 x7)]) l10_ (x3+1)<z8 a0 x1 x2 x3))/\
((ln x7)<=0->
(I64 (x3+1))/\
(qap a0 x1 l10_ (x3+1))/\
 z8 a0 x1 l10_ (x3+1)<z8 a0 x1 x2 x3)))/\
((bx l0_ x10)≠59->
(Wn x10 (ln l0_))/\
((U8 (bx l0_ x10)))/\
(((jy (bx l0_ x10))=120->
((0<=x10->
(I64 l15_)/\
(([]:List Row)=(l7_.1))/\
((3:Int)=(l7_.2.1))/\
((l15_:Int)=(l7_.2.2))/\
 True))/\
(x10<0->
(I64 (0+x2))/\
(True)/\
(qh l5_)/\
(zu x2 x1 a0 x3 (
(qw a0 l9_ x10 x2 l0_)/\
 qb a0 l9_ x10 x2 l0_<qb a0 x7 x8 x2 l0_)))))/\
((jy (bx l0_ x10))≠120->
(((jy (bx l0_ x10))=113->
(I64 (x10+1))/\
((0:Int)<=(x10+1)/\(x10+1)<=ln l0_)/\
((U8 34))/\
((0<x10->
(I64 (x10-1))/\
(Wn (x10-1) (ln l0_))/\
(((bx l0_ (x10-1))≠32->
((0<=x10->
(I64 l15_)/\
(([]:List Row)=(l7_.1))/\
((3:Int)=(l7_.2.1))/\
((l15_:Int)=(l7_.2.2))/\
 True))/\
(x10<0->
(I64 (0+x2))/\
(True)/\
(qh l5_)/\
(zu x2 x1 a0 x3 (
(qw a0 l9_ x10 x2 l0_)/\
 qb a0 l9_ x10 x2 l0_<qb a0 x7 x8 x2 l0_)))))/\
((bx l0_ (x10-1))=32->
((l8_<0->
((0<=x10->
(I64 l15_)/\
(([]:List Row)=(l7_.1))/\
((3:Int)=(l7_.2.1))/\
((l15_:Int)=(l7_.2.2))/\
 True))/\
(x10<0->
(I64 (0+x2))/\
(True)/\
(qh l5_)/\
(zu x2 x1 a0 x3 (
(qw a0 l9_ x10 x2 l0_)/\
 qb a0 l9_ x10 x2 l0_<qb a0 x7 x8 x2 l0_)))))/\
(0<=l8_->
(I64 (x10+1))/\
(I64 (x10+1))/\
(I64 l4_)/\
((0:Int)<=(x10+1)/\((x10+1):Int)<=l4_/\l4_<=ln l0_)/\
((ln l11_<=1000000000))/\
(((qal l11_)=false->
((0<=x10->
(I64 l15_)/\
(([]:List Row)=(l7_.1))/\
((3:Int)=(l7_.2.1))/\
((l15_:Int)=(l7_.2.2))/\
 True))/\
(x10<0->
(I64 (0+x2))/\
(True)/\
(qh l5_)/\
(zu x2 x1 a0 x3 (
(qw a0 l9_ x10 x2 l0_)/\
 qb a0 l9_ x10 x2 l0_<qb a0 x7 x8 x2 l0_)))))/\
((qal l11_)=true->
(I64 (x10+l8_))/\
(I64 l1_)/\
((l1_<(ln l0_)->
(Wn l1_ (ln l0_))/\
(((bx l0_ l1_)≠32->
(Wn l1_ (ln l0_))/\
(((bx l0_ l1_)≠59->
((0<=x10->
(I64 l15_)/\
(([]:List Row)=(l7_.1))/\
((3:Int)=(l7_.2.1))/\
((l15_:Int)=(l7_.2.2))/\
 True))/\
(x10<0->
(I64 (0+x2))/\
(True)/\
(qh l5_)/\
(zu x2 x1 a0 x3 (
(qw a0 l9_ l1_ x2 l0_)/\
 qb a0 l9_ l1_ x2 l0_<qb a0 x7 x8 x2 l0_)))))/\
((bx l0_ l1_)=59->
(I64 (x10+1))/\
(I64 (l1_-1))/\
((0:Int)<=(x10+1)/\((x10+1):Int)<=(l1_-1)/\(l1_-1)<=ln l0_)/\
(I64 (x10+x2))/\
(True)/\
(qh l6_)/\
(zu x2 x1 a0 x3 (
(qw a0 l12_ l1_ x2 l0_)/\
 qb a0 l12_ l1_ x2 l0_<qb a0 x7 x8 x2 l0_)))))/\
((bx l0_ l1_)=32->
(I64 (x10+1))/\
(I64 (l1_-1))/\
((0:Int)<=(x10+1)/\((x10+1):Int)<=(l1_-1)/\(l1_-1)<=ln l0_)/\
(I64 (x10+x2))/\
(True)/\
(qh l6_)/\
(zu x2 x1 a0 x3 (
(qw a0 l12_ l1_ x2 l0_)/\
 qb a0 l12_ l1_ x2 l0_<qb a0 x7 x8 x2 l0_)))))/\
((ln l0_)<=l1_->
(I64 (x10+1))/\
(I64 (l1_-1))/\
((0:Int)<=(x10+1)/\((x10+1):Int)<=(l1_-1)/\(l1_-1)<=ln l0_)/\
(I64 (x10+x2))/\
(True)/\
(qh l6_)/\
(zu x2 x1 a0 x3 (
(qw a0 l12_ l1_ x2 l0_)/\
 qb a0 l12_ l1_ x2 l0_<qb a0 x7 x8 x2 l0_))))))))/\
(x10<=0->
((l8_<0->
((0<=x10->
(I64 l15_)/\
(([]:List Row)=(l7_.1))/\
((3:Int)=(l7_.2.1))/\
((l15_:Int)=(l7_.2.2))/\
 True))/\
(x10<0->
(I64 (0+x2))/\
(True)/\
(qh l5_)/\
(zu x2 x1 a0 x3 (
(qw a0 l9_ x10 x2 l0_)/\
 qb a0 l9_ x10 x2 l0_<qb a0 x7 x8 x2 l0_)))))/\
(0<=l8_->
(I64 (x10+1))/\
(I64 (x10+1))/\
(I64 l4_)/\
((0:Int)<=(x10+1)/\((x10+1):Int)<=l4_/\l4_<=ln l0_)/\
((ln l11_<=1000000000))/\
(((qal l11_)=false->
((0<=x10->
(I64 l15_)/\
(([]:List Row)=(l7_.1))/\
((3:Int)=(l7_.2.1))/\
((l15_:Int)=(l7_.2.2))/\
 True))/\
(x10<0->
(I64 (0+x2))/\
(True)/\
(qh l5_)/\
(zu x2 x1 a0 x3 (
(qw a0 l9_ x10 x2 l0_)/\
 qb a0 l9_ x10 x2 l0_<qb a0 x7 x8 x2 l0_)))))/\
((qal l11_)=true->
(I64 (x10+l8_))/\
(I64 l1_)/\
((l1_<(ln l0_)->
(Wn l1_ (ln l0_))/\
(((bx l0_ l1_)≠32->
(Wn l1_ (ln l0_))/\
(((bx l0_ l1_)≠59->
((0<=x10->
(I64 l15_)/\
(([]:List Row)=(l7_.1))/\
((3:Int)=(l7_.2.1))/\
((l15_:Int)=(l7_.2.2))/\
 True))/\
(x10<0->
(I64 (0+x2))/\
(True)/\
(qh l5_)/\
(zu x2 x1 a0 x3 (
(qw a0 l9_ l1_ x2 l0_)/\
 qb a0 l9_ l1_ x2 l0_<qb a0 x7 x8 x2 l0_)))))/\
((bx l0_ l1_)=59->
(I64 (x10+1))/\
(I64 (l1_-1))/\
((0:Int)<=(x10+1)/\((x10+1):Int)<=(l1_-1)/\(l1_-1)<=ln l0_)/\
(I64 (x10+x2))/\
(True)/\
(qh l6_)/\
(zu x2 x1 a0 x3 (
(qw a0 l12_ l1_ x2 l0_)/\
 qb a0 l12_ l1_ x2 l0_<qb a0 x7 x8 x2 l0_)))))/\
((bx l0_ l1_)=32->
(I64 (x10+1))/\
(I64 (l1_-1))/\
((0:Int)<=(x10+1)/\((x10+1):Int)<=(l1_-1)/\(l1_-1)<=ln l0_)/\
(I64 (x10+x2))/\
(True)/\
(qh l6_)/\
(zu x2 x1 a0 x3 (
(qw a0 l12_ l1_ x2 l0_)/\
 qb a0 l12_ l1_ x2 l0_<qb a0 x7 x8 x2 l0_)))))/\
((ln l0_)<=l1_->
(I64 (x10+1))/\
(I64 (l1_-1))/\
((0:Int)<=(x10+1)/\((x10+1):Int)<=(l1_-1)/\(l1_-1)<=ln l0_)/\
(I64 (x10+x2))/\
(True)/\
(qh l6_)/\
(zu x2 x1 a0 x3 (
(qw a0 l12_ l1_ x2 l0_)/\
 qb a0 l12_ l1_ x2 l0_<qb a0 x7 x8 x2 l0_))))))))/\
((jy (bx l0_ x10))≠113->
(qcv a0 x10 l0_ x10)/\
(∀ x17:Int,
 let l14_:=Word.mk (x10+x2) (sub l0_ x10 x17) false;
(qcv a0 x17 l0_ x10->
((x17<(ln l0_)->
(Wn x17 (ln l0_))/\
((U8 (bx l0_ x17)))/\
(((jy (bx l0_ x17))=112->
(I64 (x17+1))/\
(qwc a0 x3 x2 x7 (
(qcv a0 (x17+1) l0_ x10)/\
 qed a0 (x17+1) l0_ x10<qed a0 x17 l0_ x10))))/\
((jy (bx l0_ x17))≠112->
((0:Int)<=x10/\(x10:Int)<=x17/\x17<=ln l0_)/\
(I64 (x10+x2))/\
(True)/\
(qh (List.length x7+List.length [l14_]))/\
(zu x2 x1 a0 x3 (
(qw a0 (x7++[l14_]) x17 x2 l0_)/\
 qb a0 (x7++[l14_]) x17 x2 l0_<qb a0 x7 x8 x2 l0_)))))/\
((ln l0_)<=x17->
((0:Int)<=x10/\(x10:Int)<=x17/\x17<=ln l0_)/\
(I64 (x10+x2))/\
(True)/\
(qh (List.length x7+List.length [l14_]))/\
(zu x2 x1 a0 x3 (
(qw a0 (x7++[l14_]) x17 x2 l0_)/\
 qb a0 (x7++[l14_]) x17 x2 l0_<qb a0 x7 x8 x2 l0_))))))))))))))))))/\
((ln (qy (bx ([10]:ZB) 0) a0))<=x3->
(x1=(l7_.1))/\
((0:Int)=(l7_.2.1))/\
((0:Int)=(l7_.2.2))/\
 True))))))
theorem zg7 (a0:ZB):qbs (qq XK (qav zd2) (fun j ns=>match j,ns with | 0,[.l 6 y0,.i y1,.i y2]=>qap a0 y0 y1 y2 | 1,[.l 5 y0,.i y1,.i y2,.s y3]=>qw a0 y0 y1 y2 y3 | 2,[.i y0,.s y1,.i y2]=>qho a0 y0 y1 y2 | 3,[.i y0,.s y1,.i y2]=>qcv a0 y0 y1 y2 | _,_=>False) (fun j ns=>match j,ns with | 0,[.l 6 y0,.i y1,.i y2]=>z8 a0 y0 y1 y2 | 1,[.l 5 y0,.i y1,.i y2,.s y3]=>qb a0 y0 y1 y2 y3 | 2,[.i y0,.s y1,.i y2]=>qid a0 y0 y1 y2 | 3,[.i y0,.s y1,.i y2]=>qed a0 y0 y1 y2 | _,_=>0)) {cfg sp with ann:=qbp [(23,890,.inv 0 [.one 4 (.list 6 true false),.one 5 (.int .i64),.one 19 (.int .i64)] []),(23,3647102,.inv 1 [.via 9 [.keep,.list 5 true false],.cap 10 0 [.int .i64],.one 4 (.keep)] [.one 8 (.int .i64),.one 7 (.str)]),(107,12,.inv 2 [.via 0 [.int .i64]] [.via 1 [.str],.via 0 [.int .i64]]),(107,252,.inv 3 [.via 0 [.int .i64]] [.via 1 [.str],.one 3 (.int .i64)])]} 3 23 [.str (a0)] (q0a a0)=qwb a0:=by kernel_rfl
end Go.Proofs.YtbopmiclcimjgaaGreatDoor
namespace Go.Proofs.YtbopmiclcimjgaaGreatDoor
open Go Go.E2 Go.E3
set_option maxRecDepth 100000
variable {sp:Nat->Option (List V->Heap->Option (CR×Heap))}

def zdy:List (Nat×Ct KT):=[]
abbrev qz8 (a0:ZB):PV KT:=.sb 0 false ((qaj a0)) ((qaj a0)=true) ((qaj a0)=false)
abbrev qv7 (a0:ZB):Prop:=
(((ln a0)=0->
(false=(qaj a0))/\
 True))/\
((ln a0)≠0->
((20<(ln a0)->
(false=(qaj a0))/\
 True))/\
((ln a0)<=20->
(Wn 0 (ln a0))/\
(((bx a0 0)<97->
(false=(qaj a0))/\
 True))/\
(97<=(bx a0 0)->
(Wn 0 (ln a0))/\
((122<(bx a0 0)->
(false=(qaj a0))/\
 True))/\
((bx a0 0)<=122->
(qa4 a0 0)/\
(∀ x4:Int,
(qa4 a0 x4->
((x4<(ln a0)->
(Wn x4 (ln a0))/\
(((bx a0 x4)<97->
(((bx a0 x4)<48->
(((bx a0 x4)≠45->
(false=(qaj a0))/\
 True))/\
((bx a0 x4)=45->
(I64 (x4+1))/\
(qa4 a0 (x4+1))/\
 ky a0 (x4+1)<ky a0 x4)))/\
(48<=(bx a0 x4)->
((57<(bx a0 x4)->
(((bx a0 x4)≠45->
(false=(qaj a0))/\
 True))/\
((bx a0 x4)=45->
(I64 (x4+1))/\
(qa4 a0 (x4+1))/\
 ky a0 (x4+1)<ky a0 x4)))/\
((bx a0 x4)<=57->
(I64 (x4+1))/\
(qa4 a0 (x4+1))/\
 ky a0 (x4+1)<ky a0 x4))))/\
(97<=(bx a0 x4)->
((122<(bx a0 x4)->
(((bx a0 x4)<48->
(((bx a0 x4)≠45->
(false=(qaj a0))/\
 True))/\
((bx a0 x4)=45->
(I64 (x4+1))/\
(qa4 a0 (x4+1))/\
 ky a0 (x4+1)<ky a0 x4)))/\
(48<=(bx a0 x4)->
((57<(bx a0 x4)->
(((bx a0 x4)≠45->
(false=(qaj a0))/\
 True))/\
((bx a0 x4)=45->
(I64 (x4+1))/\
(qa4 a0 (x4+1))/\
 ky a0 (x4+1)<ky a0 x4)))/\
((bx a0 x4)<=57->
(I64 (x4+1))/\
(qa4 a0 (x4+1))/\
 ky a0 (x4+1)<ky a0 x4))))/\
((bx a0 x4)<=122->
(I64 (x4+1))/\
(qa4 a0 (x4+1))/\
 ky a0 (x4+1)<ky a0 x4))))/\
((ln a0)<=x4->
(true=(qaj a0))/\
 True)))))))
theorem zg1 (a0:ZB):qbs (qq XK (qav zdy) (fun j ns=>match j,ns with | 0,[.i y0]=>qa4 a0 y0 | _,_=>False) (fun j ns=>match j,ns with | 0,[.i y0]=>ky a0 y0 | _,_=>0)) {cfg sp with ann:=qbp [(49,58,.inv 0 [.one 25 (.int .i64)] [])]} 3 49 [.str (a0)] (qz8 a0)=qv7 a0:=by kernel_rfl
def q4h:List (Nat×Ct KT):=[(49,zm9),(32,zh8)]
abbrev qts (a0:ZB) (a1:List Sign):PV KT:=.tuple [.int .i64 none (((zy a0 a1).1)),.int .i64 none (((zy a0 a1).2))]
abbrev qo7 (a0:ZB) (a1:List Sign):Prop:=
((ln a0<=9223372036854775806))/\
(((qaj a0)=false->
((7:Int)=((zy a0 a1).1))/\
((0:Int)=((zy a0 a1).2))/\
 True))/\
((qaj a0)=true->
((400<(ln a1)->
((11:Int)=((zy a0 a1).1))/\
((0:Int)=((zy a0 a1).2))/\
 True))/\
((ln a1)<=400->
(qb9 a0 a1 false 0)/\
(∀ x2:Bool,
(∀ x3:Int,
(qb9 a0 a1 x2 x3->
((x3<(ln a1)->
(Wn x3 (ln a1))/\
(True)/\
(((ku (ix a1 x3))≠0->
(((ku (ix a1 x3)):Int)=((zy a0 a1).1))/\
((x3:Int)=((zy a0 a1).2))/\
 True))/\
((ku (ix a1 x3))=0->
(((ix a1 x3).Kind≠4->
(I64 (x3+1))/\
(a0=a0)/\
(a1=a1)/\
(qb9 a0 a1 x2 (x3+1))/\
 qa5 a0 a1 x2 (x3+1)<qa5 a0 a1 x2 x3))/\
((ix a1 x3).Kind=4->
(((ix a1 x3).Last=true->
((x2=false->
((3:Int)=((zy a0 a1).1))/\
((x3:Int)=((zy a0 a1).2))/\
 True))/\
(x2=true->
(I64 (x3+1))/\
(a0=a0)/\
(a1=a1)/\
(qb9 a0 a1 false (x3+1))/\
 qa5 a0 a1 false (x3+1)<qa5 a0 a1 x2 x3)))/\
((ix a1 x3).Last=false->
(I64 (x3+1))/\
(((x3+1)=(ln a1)->
((3:Int)=((zy a0 a1).1))/\
((x3:Int)=((zy a0 a1).2))/\
 True))/\
((x3+1)≠(ln a1)->
(I64 (x3+1))/\
(Wn (x3+1) (ln a1))/\
(((ix a1 (x3+1)).Kind≠4->
((3:Int)=((zy a0 a1).1))/\
((x3:Int)=((zy a0 a1).2))/\
 True))/\
((ix a1 (x3+1)).Kind=4->
(I64 (x3+1))/\
(a0=a0)/\
(a1=a1)/\
(qb9 a0 a1 true (x3+1))/\
 qa5 a0 a1 true (x3+1)<qa5 a0 a1 x2 x3)))))))/\
((ln a1)<=x3->
((0:Int)=((zy a0 a1).1))/\
((0:Int)=((zy a0 a1).2))/\
 True))))))
theorem q8f (a0:ZB) (a1:List Sign):qbs (qq XK (qav q4h) (fun j ns=>match j,ns with | 0,[.b y0,.i y1]=>qb9 a0 a1 y0 y1 | _,_=>False) (fun j ns=>match j,ns with | 0,[.b y0,.i y1]=>qa5 a0 a1 y0 y1 | _,_=>0)) {cfg sp with ann:=qbp [(44,890,.inv 0 [.one 4 (.bool),.one 19 (.int .i64)] [])]} 3 44 [.agg [.str (a0),.list 4 (a1) none]] (qts a0 a1)=qo7 a0 a1:=by kernel_rfl
def qzi:List (Nat×Ct KT):=[]
abbrev qos (a0:List Sign) (a1:List Sign):PV KT:=.sb 0 false ((qk9 a0 a1)) ((qk9 a0 a1)=true) ((qk9 a0 a1)=false)
abbrev qqf (a0:List Sign) (a1:List Sign):Prop:=
(((ln a0)≠(ln a1)->
(false=(qk9 a0 a1))/\
 True))/\
((ln a0)=(ln a1)->
(qe1 a0 a1 0)/\
(∀ x1:Int,
 let l1_:=ix a1 x1;
 let l0_:=ix a0 x1;
(qe1 a0 a1 x1->
((x1<(ln a0)->
(Wn x1 (ln a0))/\
(Wn x1 (ln a1))/\
(((l0_.Kind≠l1_.Kind∨(l0_.Value≠l1_.Value∨(l0_.Place≠l1_.Place∨(l0_.Acc≠l1_.Acc∨(l0_.Color≠l1_.Color∨(l0_.Stem≠l1_.Stem∨(l0_.Oblique≠l1_.Oblique∨(l0_.Last≠l1_.Last∨(l0_.MensMax≠l1_.MensMax∨(l0_.MensMod≠l1_.MensMod∨(l0_.MensTem≠l1_.MensTem∨(l0_.MensPro≠l1_.MensPro∨(l0_.Stroke≠l1_.Stroke∨(l0_.N≠l1_.N∨(l0_.D≠l1_.D∨(l0_.ClefStep≠l1_.ClefStep∨l0_.ClefLine≠l1_.ClefLine))))))))))))))))->
(false=(qk9 a0 a1))/\
 True))/\
((l0_.Kind=l1_.Kind/\(l0_.Value=l1_.Value/\(l0_.Place=l1_.Place/\(l0_.Acc=l1_.Acc/\(l0_.Color=l1_.Color/\(l0_.Stem=l1_.Stem/\(l0_.Oblique=l1_.Oblique/\(l0_.Last=l1_.Last/\(l0_.MensMax=l1_.MensMax/\(l0_.MensMod=l1_.MensMod/\(l0_.MensTem=l1_.MensTem/\(l0_.MensPro=l1_.MensPro/\(l0_.Stroke=l1_.Stroke/\(l0_.N=l1_.N/\(l0_.D=l1_.D/\(l0_.ClefStep=l1_.ClefStep/\l0_.ClefLine=l1_.ClefLine))))))))))))))))->
(I64 (x1+1))/\
(qe1 a0 a1 (x1+1))/\
 qee a0 a1 (x1+1)<qee a0 a1 x1)))/\
((ln a0)<=x1->
(true=(qk9 a0 a1))/\
 True))))
theorem q2j (a0:List Sign) (a1:List Sign):qbs (qq XK (qav qzi) (fun j ns=>match j,ns with | 0,[.i y0]=>qe1 a0 a1 y0 | _,_=>False) (fun j ns=>match j,ns with | 0,[.i y0]=>qee a0 a1 y0 | _,_=>0)) {cfg sp with ann:=qbp [(47,58,.inv 0 [.one 5 (.int .i64)] [])]} 3 47 [.list 4 (a0) none,.list 4 (a1) none] (qos a0 a1)=qqf a0 a1:=by kernel_rfl
def q2g:List (Nat×Ct KT):=[(47,zqv)]
abbrev qqe (a0:ZB) (a1:List Sign) (a2:ZB) (a3:List Sign):PV KT:=.sb 0 false ((je a0 a1 a2 a3)) ((je a0 a1 a2 a3)=true) ((je a0 a1 a2 a3)=false)
abbrev qtx (a0:ZB) (a1:List Sign) (a2:ZB) (a3:List Sign):Prop:=
((a0=a2->
((ln a1<=10000000))/\
((qk9 a1 a3)=(je a0 a1 a2 a3))/\
 True))/\
(a0≠a2->
(false=(je a0 a1 a2 a3))/\
 True)
theorem q4t (a0:ZB) (a1:List Sign) (a2:ZB) (a3:List Sign):qbs (qq XK (qav q2g) (fun _ _=>False) (fun _ _=>0)) {cfg sp with ann:=qbp []} 3 17 [.agg [.str (a0),.list 4 (a1) none],.agg [.str (a2),.list 4 (a3) none]] (qqe a0 a1 a2 a3)=qtx a0 a1 a2 a3:=by kernel_rfl
end Go.Proofs.YtbopmiclcimjgaaGreatDoor
namespace Go.Proofs.YtbopmiclcimjgaaGreatDoor
open Go Go.E2 Go.E3
set_option maxRecDepth 100000
variable {sp:Nat->Option (List V->Heap->Option (CR×Heap))}

def q8o:List (Nat×Ct KT):=[(23,zm5),(49,zm9),(44,zqu),(12,zqp)]
abbrev qv8 (a0:ZB):PV KT:=.tuple [.agg [.str (((zr a0).1.1)),.list 4 (((zr a0).1.2)) none],.agg [.int .i64 none (((zr a0).2.1)),.int .i64 none (((zr a0).2.2))]]
abbrev qr9 (v0:ZB) (v1:Int) (p:Prop):Prop:=
((ix (ix ((qd v0).1) 0).Words 1).Text=(ix (ix ((qd v0).1) 0).Words 1).Text)/\
(((ix (fr ((qd v0).1) 1) v1).At:Int)=(ix (fr ((qd v0).1) 1) v1).At)/\
((ix (fr ((qd v0).1) 1) v1).Words=(ix (fr ((qd v0).1) 1) v1).Words)/\
((((qd v0).2.1):Int)=((qd v0).2.1))/\
((((qd v0).2.2):Int)=((qd v0).2.2))/\
(([]:ZB)=([]:ZB))/\
 p
abbrev qsa (v0:ZB) (p:Prop):Prop:=
((ix (ix ((qd v0).1) 0).Words 1).Text=(ix (ix ((qd v0).1) 0).Words 1).Text)/\
((((qd v0).2.1):Int)=((qd v0).2.1))/\
((((qd v0).2.2):Int)=((qd v0).2.2))/\
(([]:ZB)=([]:ZB))/\
 p
abbrev qr8 (a0:ZB):Prop:=
 let l1_:=ix ((qd a0).1) 0;
(True)/\
((((qd a0).2.1)≠0->
(([]:ZB)=((zr a0).1.1))/\
(([]:List Sign)=((zr a0).1.2))/\
((((qd a0).2.1):Int)=((zr a0).2.1))/\
((((qd a0).2.2):Int)=((zr a0).2.2))/\
 True))/\
(((qd a0).2.1)=0->
(((ln ((qd a0).1))=0->
(([]:ZB)=((zr a0).1.1))/\
(([]:List Sign)=((zr a0).1.2))/\
((9:Int)=((zr a0).2.1))/\
(((ln a0):Int)=((zr a0).2.2))/\
 True))/\
((ln ((qd a0).1))≠0->
(Wn 0 (ln ((qd a0).1)))/\
(Wn 0 (ln l1_.Words))/\
(((ix l1_.Words 0).Text≠([112,97,114,116]:ZB)->
(Wn 0 (ln l1_.Words))/\
(([]:ZB)=((zr a0).1.1))/\
(([]:List Sign)=((zr a0).1.2))/\
((3:Int)=((zr a0).2.1))/\
(((ix l1_.Words 0).At:Int)=((zr a0).2.2))/\
 True))/\
((ix l1_.Words 0).Text=([112,97,114,116]:ZB)->
(Wn 0 (ln l1_.Words))/\
(((ix l1_.Words 0).Quoted=true->
(Wn 0 (ln l1_.Words))/\
(([]:ZB)=((zr a0).1.1))/\
(([]:List Sign)=((zr a0).1.2))/\
((3:Int)=((zr a0).2.1))/\
(((ix l1_.Words 0).At:Int)=((zr a0).2.2))/\
 True))/\
((ix l1_.Words 0).Quoted=false->
(((ln l1_.Words)≠2->
(Wn 0 (ln l1_.Words))/\
(([]:ZB)=((zr a0).1.1))/\
(([]:List Sign)=((zr a0).1.2))/\
((3:Int)=((zr a0).2.1))/\
(((ix l1_.Words 0).At:Int)=((zr a0).2.2))/\
 True))/\
((ln l1_.Words)=2->
(Wn 1 (ln l1_.Words))/\
(((ix l1_.Words 1).Quoted=true->
(Wn 1 (ln l1_.Words))/\
(([]:ZB)=((zr a0).1.1))/\
(([]:List Sign)=((zr a0).1.2))/\
((7:Int)=((zr a0).2.1))/\
(((ix l1_.Words 1).At:Int)=((zr a0).2.2))/\
 True))/\
((ix l1_.Words 1).Quoted=false->
(Wn 1 (ln l1_.Words))/\
((ln (ix l1_.Words 1).Text<=9223372036854775806))/\
(((qaj (ix l1_.Words 1).Text)=false->
(Wn 1 (ln l1_.Words))/\
(([]:ZB)=((zr a0).1.1))/\
(([]:List Sign)=((zr a0).1.2))/\
((7:Int)=((zr a0).2.1))/\
(((ix l1_.Words 1).At:Int)=((zr a0).2.2))/\
 True))/\
((qaj (ix l1_.Words 1).Text)=true->
(Wn 1 (ln l1_.Words))/\
((0:Int)<=1/\1<=ln ((qd a0).1))/\
(jh a0 ([]:List Sign) ([]:List Word) 0)/\
(∀ x7:List Sign,
(∀ x8:List Word,
(∀ x9:Int,
 let l0_:=ix (fr ((qd a0).1) 1) x9;
(jh a0 x7 x8 x9->
((x9<(ln (fr ((qd a0).1) 1))->
(Wn x9 (ln (fr ((qd a0).1) 1)))/\
(Wn 0 (ln l0_.Words))/\
(((ix l0_.Words 0).Text=([101,110,100]:ZB)->
(Wn 0 (ln l0_.Words))/\
(((ix l0_.Words 0).Quoted=false->
((1<(ln l0_.Words)->
(Wn 1 (ln l0_.Words))/\
(([]:ZB)=((zr a0).1.1))/\
(([]:List Sign)=((zr a0).1.2))/\
((3:Int)=((zr a0).2.1))/\
(((ix l0_.Words 1).At:Int)=((zr a0).2.2))/\
 True))/\
((ln l0_.Words)<=1->
(I64 (x9+2))/\
(((x9+2)<(ln ((qd a0).1))->
(I64 (x9+2))/\
(Wn (x9+2) (ln ((qd a0).1)))/\
(Wn 0 (ln (ix ((qd a0).1) (x9+2)).Words))/\
(([]:ZB)=((zr a0).1.1))/\
(([]:List Sign)=((zr a0).1.2))/\
((3:Int)=((zr a0).2.1))/\
(((ix (ix ((qd a0).1) (x9+2)).Words 0).At:Int)=((zr a0).2.2))/\
 True))/\
((ln ((qd a0).1))<=(x9+2)->
((ln (ix l1_.Words 1).Text<=1000000000/\ln x7<=1000000000))/\
((((zy (ix l1_.Words 1).Text x7).1)≠0->
(Wn ((zy (ix l1_.Words 1).Text x7).2) (ln x8))/\
(([]:ZB)=((zr a0).1.1))/\
(([]:List Sign)=((zr a0).1.2))/\
((((zy (ix l1_.Words 1).Text x7).1):Int)=((zr a0).2.1))/\
(((ix x8 ((zy (ix l1_.Words 1).Text x7).2)).At:Int)=((zr a0).2.2))/\
 True))/\
(((zy (ix l1_.Words 1).Text x7).1)=0->
((ix l1_.Words 1).Text=((zr a0).1.1))/\
(x7=((zr a0).1.2))/\
((0:Int)=((zr a0).2.1))/\
((0:Int)=((zr a0).2.2))/\
 True)))))/\
((ix l0_.Words 0).Quoted=true->
(kx a0 x7 x8 0 x9)/\
(∀ x14:List Sign,
(∀ x15:List Word,
(∀ x16:Int,
 let l2_:=ix l0_.Words x16;
(kx a0 x14 x15 x16 x9->
((x16<(ln l0_.Words)->
(Wn x16 (ln l0_.Words))/\
((l2_.Quoted=true->
(([]:ZB)=((zr a0).1.1))/\
(([]:List Sign)=((zr a0).1.2))/\
((3:Int)=((zr a0).2.1))/\
((l2_.At:Int)=((zr a0).2.2))/\
 True))/\
(l2_.Quoted=false->
((ln l2_.Text<=1000))/\
((((zg l2_.Text).2)≠0->
(([]:ZB)=((zr a0).1.1))/\
(([]:List Sign)=((zr a0).1.2))/\
((((zg l2_.Text).2):Int)=((zr a0).2.1))/\
((l2_.At:Int)=((zr a0).2.2))/\
 True))/\
(((zg l2_.Text).2)=0->
(True)/\
(qh (List.length x14+List.length [((zg l2_.Text).1)]))/\
(True)/\
(qh (List.length x15+List.length [l2_]))/\
(I64 (x16+1))/\
(qr9 a0 x9 (
(kx a0 (x14++[((zg l2_.Text).1)]) (x15++[l2_]) (x16+1) x9)/\
 qbm a0 (x14++[((zg l2_.Text).1)]) (x15++[l2_]) (x16+1) x9<qbm a0 x14 x15 x16 x9))))))/\
((ln l0_.Words)<=x16->
(I64 (x9+1))/\
(qsa a0 (
(jh a0 x14 x15 (x9+1))/\
 qbl a0 x14 x15 (x9+1)<qbl a0 x7 x8 x9))))))))))/\
((ix l0_.Words 0).Text≠([101,110,100]:ZB)->
(kx a0 x7 x8 0 x9)/\
(∀ x13:List Sign,
(∀ x14:List Word,
(∀ x15:Int,
 let l3_:=ix l0_.Words x15;
(kx a0 x13 x14 x15 x9->
((x15<(ln l0_.Words)->
(Wn x15 (ln l0_.Words))/\
((l3_.Quoted=true->
(([]:ZB)=((zr a0).1.1))/\
(([]:List Sign)=((zr a0).1.2))/\
((3:Int)=((zr a0).2.1))/\
((l3_.At:Int)=((zr a0).2.2))/\
 True))/\
(l3_.Quoted=false->
((ln l3_.Text<=1000))/\
((((zg l3_.Text).2)≠0->
(([]:ZB)=((zr a0).1.1))/\
(([]:List Sign)=((zr a0).1.2))/\
((((zg l3_.Text).2):Int)=((zr a0).2.1))/\
((l3_.At:Int)=((zr a0).2.2))/\
 True))/\
(((zg l3_.Text).2)=0->
(True)/\
(qh (List.length x13+List.length [((zg l3_.Text).1)]))/\
(True)/\
(qh (List.length x14+List.length [l3_]))/\
(I64 (x15+1))/\
(qr9 a0 x9 (
(kx a0 (x13++[((zg l3_.Text).1)]) (x14++[l3_]) (x15+1) x9)/\
 qbm a0 (x13++[((zg l3_.Text).1)]) (x14++[l3_]) (x15+1) x9<qbm a0 x13 x14 x15 x9))))))/\
((ln l0_.Words)<=x15->
(I64 (x9+1))/\
(qsa a0 (
(jh a0 x13 x14 (x9+1))/\
 qbl a0 x13 x14 (x9+1)<qbl a0 x7 x8 x9))))))))))/\
((ln (fr ((qd a0).1) 1))<=x9->
(([]:ZB)=((zr a0).1.1))/\
(([]:List Sign)=((zr a0).1.2))/\
((9:Int)=((zr a0).2.1))/\
(((ln a0):Int)=((zr a0).2.2))/\
 True))))))))))))
theorem zd1 (a0:ZB):qbs (qq XK (qav q8o) (fun j ns=>match j,ns with | 0,[.l 4 y0,.l 5 y1,.i y2]=>jh a0 y0 y1 y2 | 1,[.l 4 y0,.l 5 y1,.i y2,.i y3]=>kx a0 y0 y1 y2 y3 | _,_=>False) (fun j ns=>match j,ns with | 0,[.l 4 y0,.l 5 y1,.i y2]=>qbl a0 y0 y1 y2 | 1,[.l 4 y0,.l 5 y1,.i y2,.i y3]=>qbm a0 y0 y1 y2 y3 | _,_=>0)) {cfg sp with ann:=qbp [(18,4090,.inv 0 [.via 7 [.keep,.list 4 true true],.one 8 (.list 5 true false),.one 88 (.int .i64)] []),(18,2094286,.inv 1 [.via 7 [.keep,.list 4 true true],.one 8 (.list 5 true false),.one 154 (.int .i64)] [.one 90 (.int .i64)])]} 6 18 [.str (a0)] (qv8 a0)=qr8 a0:=by kernel_rfl
end Go.Proofs.YtbopmiclcimjgaaGreatDoor
namespace Go.Proofs.YtbopmiclcimjgaaGreatDoor
open Go Go.E2 Go.E3
set_option maxRecDepth 100000
variable {sp:Nat->Option (List V->Heap->Option (CR×Heap))}

def zmj:List (Nat×Ct KT):=[]
abbrev za3 (a0:Int) (a1:Int):PV KT:=.int .i64 none ((qa6 a0 a1))
abbrev zgy (a0:Int) (a1:Int):Prop:=
((a1<1->
((0:Int)=(qa6 a0 a1))/\
 True))/\
(1<=a1->
((a1:Int)≠0)/\
(((Int.tmod a0 a1)<0->
(I64 ((Int.tmod a0 a1)+a1))/\
((((Int.tmod a0 a1)+a1):Int)=(qa6 a0 a1))/\
 True))/\
(0<=(Int.tmod a0 a1)->
(((Int.tmod a0 a1):Int)=(qa6 a0 a1))/\
 True))
theorem zqi (a0:Int) (a1:Int):qbs (qq XK (qav zmj) (fun _ _=>False) (fun _ _=>0)) {cfg sp with ann:=qbp []} 3 24 [.int .i64 none (a0),.int .i64 none (a1)] (za3 a0 a1)=zgy a0 a1:=by kernel_rfl
def zmh:List (Nat×Ct KT):=[]
abbrev za2 (a0:List Int) (a1:Int):PV KT:=.int .i64 none ((atI a0 a1))
abbrev q8b (a0:List Int) (a1:Int):Prop:=
((a1<0->
((0:Int)=(atI a0 a1))/\
 True))/\
(0<=a1->
(((ln a0)<=a1->
((0:Int)=(atI a0 a1))/\
 True))/\
(a1<(ln a0)->
(Wn a1 (ln a0))/\
(((ix a0 a1):Int)=(atI a0 a1))/\
 True))
theorem zqe (a0:List Int) (a1:Int):qbs (qq XK (qav zmh) (fun _ _=>False) (fun _ _=>0)) {cfg sp with ann:=qbp []} 3 25 [.list 1 (a0) none,.int .i64 none (a1)] (za2 a0 a1)=q8b a0 a1:=by kernel_rfl
def zdx:List (Nat×Ct KT):=[(24,zek)]
abbrev qz7 (a0:Int):PV KT:=.agg [.int .i64 none ((quj a0)),.int .i64 none ((quk a0)),.int .i64 none ((qum a0)),.int .i64 none ((qul a0))]
abbrev q4k (a0:Int):Prop:=
((I64 a0/\(1:Int)<=16/\(16:Int)<=1048576))/\
((8:Int)≠0/\I64 (Int.tdiv (qa6 a0 16) 8))/\
(I64 (2+(Int.tdiv (qa6 a0 16) 8)))/\
((4:Int)≠0/\I64 (Int.tdiv (qa6 a0 16) 4))/\
((2:Int)≠0)/\
(I64 (2+(Int.tmod (Int.tdiv (qa6 a0 16) 4) 2)))/\
((2:Int)≠0/\I64 (Int.tdiv (qa6 a0 16) 2))/\
((2:Int)≠0)/\
(I64 (2+(Int.tmod (Int.tdiv (qa6 a0 16) 2) 2)))/\
((2:Int)≠0)/\
(I64 (2+(Int.tmod (qa6 a0 16) 2)))/\
(((2+(Int.tdiv (qa6 a0 16) 8)):Int)=(quj a0))/\
(((2+(Int.tmod (Int.tdiv (qa6 a0 16) 4) 2)):Int)=(quk a0))/\
(((2+(Int.tmod (Int.tdiv (qa6 a0 16) 2) 2)):Int)=(qum a0))/\
(((2+(Int.tmod (qa6 a0 16) 2)):Int)=(qul a0))/\
 True
theorem zgx (a0:Int):qbs (qq XK (qav zdx) (fun _ _=>False) (fun _ _=>0)) {cfg sp with ann:=qbp []} 3 22 [.int .i64 none (a0)] (qz7 a0)=q4k a0:=by kernel_rfl
def zds:List (Nat×Ct KT):=[]
abbrev qz5 (a0:Int) (a1:Int) (a2:Int) (a3:Int) (a4:Int):PV KT:=.sb 0 false ((qci a0 a1 a2 a3 a4)) ((qci a0 a1 a2 a3 a4)=true) ((qci a0 a1 a2 a3 a4)=false)
abbrev qky (v0:Int) (v1:Int) (v2:Int) (v3:Int) (p:Prop):Prop:=
((v0:Int)=v0)/\
((v1:Int)=v1)/\
((v2:Int)=v2)/\
((v3:Int)=v3)/\
 p
abbrev qv3 (a0:Int) (a1:Int) (a2:Int) (a3:Int) (a4:Int):Prop:=
(qcu a0 a1 a2 a3 a4 1)/\
(∀ x0:Int,
(qcu a0 a1 a2 a3 a4 x0->
((x0<a4->
((x0=1->
((a0=3->
(true=(qci a0 a1 a2 a3 a4))/\
 True))/\
(a0≠3->
(I64 (x0+1))/\
(qky a0 a1 a2 a3 (
(qcu a0 a1 a2 a3 a4 (x0+1))/\
 jj a0 a1 a2 a3 a4 (x0+1)<jj a0 a1 a2 a3 a4 x0)))))/\
(x0≠1->
((x0=2->
((a1=3->
(true=(qci a0 a1 a2 a3 a4))/\
 True))/\
(a1≠3->
(I64 (x0+1))/\
(qky a0 a1 a2 a3 (
(qcu a0 a1 a2 a3 a4 (x0+1))/\
 jj a0 a1 a2 a3 a4 (x0+1)<jj a0 a1 a2 a3 a4 x0)))))/\
(x0≠2->
((x0=3->
((a2=3->
(true=(qci a0 a1 a2 a3 a4))/\
 True))/\
(a2≠3->
(I64 (x0+1))/\
(qky a0 a1 a2 a3 (
(qcu a0 a1 a2 a3 a4 (x0+1))/\
 jj a0 a1 a2 a3 a4 (x0+1)<jj a0 a1 a2 a3 a4 x0)))))/\
(x0≠3->
((x0=4->
((a3=3->
(true=(qci a0 a1 a2 a3 a4))/\
 True))/\
(a3≠3->
(I64 (x0+1))/\
(qky a0 a1 a2 a3 (
(qcu a0 a1 a2 a3 a4 (x0+1))/\
 jj a0 a1 a2 a3 a4 (x0+1)<jj a0 a1 a2 a3 a4 x0)))))/\
(x0≠4->
(I64 (x0+1))/\
(qky a0 a1 a2 a3 (
(qcu a0 a1 a2 a3 a4 (x0+1))/\
 jj a0 a1 a2 a3 a4 (x0+1)<jj a0 a1 a2 a3 a4 x0))))))))/\
(a4<=x0->
(false=(qci a0 a1 a2 a3 a4))/\
 True)))
theorem zgq (a0:Int) (a1:Int) (a2:Int) (a3:Int) (a4:Int):qbs (qq XK (qav zds) (fun j ns=>match j,ns with | 0,[.i y0]=>qcu a0 a1 a2 a3 a4 y0 | _,_=>False) (fun j ns=>match j,ns with | 0,[.i y0]=>jj a0 a1 a2 a3 a4 y0 | _,_=>0)) {cfg sp with ann:=qbp [(105,26,.inv 0 [.one 5 (.int .i64)] [])]} 3 105 [.agg [.int .i64 none (a0),.int .i64 none (a1),.int .i64 none (a2),.int .i64 none (a3)],.int .i64 none (a4)] (qz5 a0 a1 a2 a3 a4)=qv3 a0 a1 a2 a3 a4:=by kernel_rfl
def zg8:List (Nat×Ct KT):=[(24,zek),(105,zh0)]
abbrev q4q (a0:Int) (a1:Int) (a2:Int) (a3:Int) (a4:List Int) (a5:Int):PV KT:=.list 4 ((qel a0 a1 a2 a3 a4 a5)) (some (0,0))
abbrev qdp (v0:Int) (v1:Int) (v2:Int) (v3:Int) (p:Prop):Prop:=
((v0:Int)=v0)/\
((v1:Int)=v1)/\
((v2:Int)=v2)/\
((v3:Int)=v3)/\
 p
abbrev q2f (a0:Int) (a1:Int) (a2:Int) (a3:Int) (a4:List Int) (a5:Int):Prop:=
 let l4_:=Sign.mk 3 0 0 0 false 0 false false 0 0 0 0 false 0 0 0 0;
(True)/\
(True)/\
(True)/\
(True)/\
(True)/\
(True)/\
(True)/\
(True)/\
(z5 a0 a1 a2 a3 a4 a5 ([]:List Sign) 0)/\
(∀ x0:List Sign,
(∀ x1:Int,
 let l6_:=Int.tmod (Int.tdiv (qa6 (ix a4 x1) 504) 8) 9;
 let l5_:=Int.tdiv (qa6 (ix a4 x1) 504) 72;
 let l0_:=ix ([3,4,4,5,5,3,2,6]:List Int) (Int.tmod (qa6 (ix a4 x1) 504) 8);
 let l3_:=x0++[(Sign.mk 1 l0_ (Int.tmod x1 9) 0 false 0 false false 0 0 0 0 false 0 0 0 0)];
 let l2_:=x0++[(Sign.mk 2 l0_ 0 0 false 0 false false 0 0 0 0 false 0 0 0 0)];
 let l1_:=x0++[(Sign.mk 1 l0_ (Int.tmod x1 9) 0 true 0 false false 0 0 0 0 false 0 0 0 0)];
(z5 a0 a1 a2 a3 a4 a5 x0 x1->
((x1<(ln a4)->
(((ln x0)<a5->
(Wn x1 (ln a4))/\
((I64 (ix a4 x1)/\(1:Int)<=504/\(504:Int)<=1048576))/\
((8:Int)≠0)/\
(Wn (Int.tmod (qa6 (ix a4 x1) 504) 8) (ln ([3,4,4,5,5,3,2,6]:List Int)))/\
((9:Int)≠0)/\
((8:Int)≠0/\I64 (Int.tdiv (qa6 (ix a4 x1) 504) 8))/\
((9:Int)≠0)/\
((l6_=0->
(True)/\
(qh (List.length x0+List.length [(Sign.mk 2 l0_ 0 0 false 0 false false 0 0 0 0 false 0 0 0 0)]))/\
((72:Int)≠0/\I64 l5_)/\
((l5_=0->
(((ln l2_)<a5->
(((0:Int)<=l0_/\(l0_:Int)<=100))/\
(((qci a0 a1 a2 a3 l0_)=true->
(True)/\
(qh (List.length l2_+List.length [l4_]))/\
(I64 (x1+1))/\
(qdp a0 a1 a2 a3 (
(z5 a0 a1 a2 a3 a4 a5 (l2_++[l4_]) (x1+1))/\
 za a0 a1 a2 a3 a4 a5 (l2_++[l4_]) (x1+1)<za a0 a1 a2 a3 a4 a5 x0 x1))))/\
((qci a0 a1 a2 a3 l0_)=false->
(I64 (x1+1))/\
(qdp a0 a1 a2 a3 (
(z5 a0 a1 a2 a3 a4 a5 l2_ (x1+1))/\
 za a0 a1 a2 a3 a4 a5 l2_ (x1+1)<za a0 a1 a2 a3 a4 a5 x0 x1)))))/\
(a5<=(ln l2_)->
(I64 (x1+1))/\
(qdp a0 a1 a2 a3 (
(z5 a0 a1 a2 a3 a4 a5 l2_ (x1+1))/\
 za a0 a1 a2 a3 a4 a5 l2_ (x1+1)<za a0 a1 a2 a3 a4 a5 x0 x1)))))/\
(l5_≠0->
(I64 (x1+1))/\
(qdp a0 a1 a2 a3 (
(z5 a0 a1 a2 a3 a4 a5 l2_ (x1+1))/\
 za a0 a1 a2 a3 a4 a5 l2_ (x1+1)<za a0 a1 a2 a3 a4 a5 x0 x1)))))/\
(l6_≠0->
((l6_=1->
(True)/\
(qh (List.length x0+List.length [(Sign.mk 1 l0_ (Int.tmod x1 9) 0 true 0 false false 0 0 0 0 false 0 0 0 0)]))/\
((72:Int)≠0/\I64 l5_)/\
((l5_=0->
(((ln l1_)<a5->
(True)/\
(qh (List.length l1_+List.length [l4_]))/\
(I64 (x1+1))/\
(qdp a0 a1 a2 a3 (
(z5 a0 a1 a2 a3 a4 a5 (l1_++[l4_]) (x1+1))/\
 za a0 a1 a2 a3 a4 a5 (l1_++[l4_]) (x1+1)<za a0 a1 a2 a3 a4 a5 x0 x1))))/\
(a5<=(ln l1_)->
(I64 (x1+1))/\
(qdp a0 a1 a2 a3 (
(z5 a0 a1 a2 a3 a4 a5 l1_ (x1+1))/\
 za a0 a1 a2 a3 a4 a5 l1_ (x1+1)<za a0 a1 a2 a3 a4 a5 x0 x1)))))/\
(l5_≠0->
(I64 (x1+1))/\
(qdp a0 a1 a2 a3 (
(z5 a0 a1 a2 a3 a4 a5 l1_ (x1+1))/\
 za a0 a1 a2 a3 a4 a5 l1_ (x1+1)<za a0 a1 a2 a3 a4 a5 x0 x1)))))/\
(l6_≠1->
((l6_=2->
(True)/\
(qh (List.length x0+List.length [(Sign.mk 1 l0_ (Int.tmod x1 9) 0 true 0 false false 0 0 0 0 false 0 0 0 0)]))/\
((72:Int)≠0/\I64 l5_)/\
((l5_=0->
(((ln l1_)<a5->
(True)/\
(qh (List.length l1_+List.length [l4_]))/\
(I64 (x1+1))/\
(qdp a0 a1 a2 a3 (
(z5 a0 a1 a2 a3 a4 a5 (l1_++[l4_]) (x1+1))/\
 za a0 a1 a2 a3 a4 a5 (l1_++[l4_]) (x1+1)<za a0 a1 a2 a3 a4 a5 x0 x1))))/\
(a5<=(ln l1_)->
(I64 (x1+1))/\
(qdp a0 a1 a2 a3 (
(z5 a0 a1 a2 a3 a4 a5 l1_ (x1+1))/\
 za a0 a1 a2 a3 a4 a5 l1_ (x1+1)<za a0 a1 a2 a3 a4 a5 x0 x1)))))/\
(l5_≠0->
(I64 (x1+1))/\
(qdp a0 a1 a2 a3 (
(z5 a0 a1 a2 a3 a4 a5 l1_ (x1+1))/\
 za a0 a1 a2 a3 a4 a5 l1_ (x1+1)<za a0 a1 a2 a3 a4 a5 x0 x1)))))/\
(l6_≠2->
(True)/\
(qh (List.length x0+List.length [(Sign.mk 1 l0_ (Int.tmod x1 9) 0 false 0 false false 0 0 0 0 false 0 0 0 0)]))/\
((72:Int)≠0/\I64 l5_)/\
((l5_=0->
(((ln l3_)<a5->
(True)/\
(qh (List.length l3_+List.length [l4_]))/\
(I64 (x1+1))/\
(qdp a0 a1 a2 a3 (
(z5 a0 a1 a2 a3 a4 a5 (l3_++[l4_]) (x1+1))/\
 za a0 a1 a2 a3 a4 a5 (l3_++[l4_]) (x1+1)<za a0 a1 a2 a3 a4 a5 x0 x1))))/\
(a5<=(ln l3_)->
(I64 (x1+1))/\
(qdp a0 a1 a2 a3 (
(z5 a0 a1 a2 a3 a4 a5 l3_ (x1+1))/\
 za a0 a1 a2 a3 a4 a5 l3_ (x1+1)<za a0 a1 a2 a3 a4 a5 x0 x1)))))/\
(l5_≠0->
(I64 (x1+1))/\
(qdp a0 a1 a2 a3 (
(z5 a0 a1 a2 a3 a4 a5 l3_ (x1+1))/\
 za a0 a1 a2 a3 a4 a5 l3_ (x1+1)<za a0 a1 a2 a3 a4 a5 x0 x1))))))))/\
(a5<=(ln x0)->
(x0=(qel a0 a1 a2 a3 a4 a5))/\
 True)))/\
((ln a4)<=x1->
(x0=(qel a0 a1 a2 a3 a4 a5))/\
 True))))
theorem zmq (a0:Int) (a1:Int) (a2:Int) (a3:Int) (a4:List Int) (a5:Int):qbs (qq XK (qav zg8) (fun j ns=>match j,ns with | 0,[.l 4 y0,.i y1]=>z5 a0 a1 a2 a3 a4 a5 y0 y1 | _,_=>False) (fun j ns=>match j,ns with | 0,[.l 4 y0,.i y1]=>za a0 a1 a2 a3 a4 a5 y0 y1 | _,_=>0)) {cfg sp with ann:=qbp [(54,122,.inv 0 [.one 8 (.list 4 true false),.one 9 (.int .i64)] [])]} 3 54 [.agg [.int .i64 none (a0),.int .i64 none (a1),.int .i64 none (a2),.int .i64 none (a3)],.list 1 (a4) none,.int .i64 none (a5)] (q4q a0 a1 a2 a3 a4 a5)=q2f a0 a1 a2 a3 a4 a5:=by kernel_rfl
def zdw:List (Nat×Ct KT):=[(54,zqw),(25,zm6),(24,zek)]
abbrev qz6 (a0:Int) (a1:Int) (a2:Int) (a3:Int) (a4:List Int) (a5:Int):PV KT:=.agg [.str ((qhq)),.list 4 ((qj8 a0 a1 a2 a3 a4 a5)) none]
abbrev qac (v0:Int) (v1:Int) (v2:Int) (v3:Int) (p:Prop):Prop:=
(([]:ZB)=([]:ZB))/\
((v0:Int)=v0)/\
((v1:Int)=v1)/\
((v2:Int)=v2)/\
((v3:Int)=v3)/\
 p
abbrev qv6 (a0:Int) (a1:Int) (a2:Int) (a3:Int) (a4:List Int) (a5:Int):Prop:=
 let l4_:=Sign.mk 6 0 0 0 false 0 false false 0 0 0 0 false 3 2 0 0;
 let l3_:=ln (qel a0 a1 a2 a3 a4 a5);
(True)/\
(True)/\
((ln a4<=9223372036854775807/\qk5 a4/\(a5:Int)<=30/\(0:Int)<=a5))/\
(ze a0 a1 a2 a3 a4 a5 [(Sign.mk 7 0 0 0 false 0 false false 0 0 0 0 false 0 0 0 3),(Sign.mk 5 0 0 0 false 0 false false a0 a1 a2 a3 false 0 0 0 0)] false 0)/\
(∀ x0:List Sign,
(∀ x1:Bool,
(∀ x2:Int,
 let l2_:=Sign.mk 10 0 0 0 false 0 false false 0 0 0 0 false (2+(Int.tmod x2 3)) 0 0 0;
 let l1_:=qa6 (Int.tdiv (atI a4 x2) 7) 23;
 let l0_:=ix (qel a0 a1 a2 a3 a4 a5) x2;
 let l6_:=x0++[l0_];
 let l5_:=List.length x0+List.length [l0_];
(ze a0 a1 a2 a3 a4 a5 x0 x1 x2->
((x2<l3_->
(Wn x2 l3_)/\
((ln a4<=9223372036854775807))/\
((7:Int)≠0/\I64 (Int.tdiv (atI a4 x2) 7))/\
((I64 (Int.tdiv (atI a4 x2) 7)/\(1:Int)<=23/\(23:Int)<=1048576))/\
((l0_.Kind≠3->
((l1_=0->
(True)/\
(qh (List.length x0+List.length [(Sign.mk 11 0 0 0 false 0 false false 0 0 0 0 false 0 0 0 0)]))/\
(Wn x2 l3_)/\
(True)/\
(qh (List.length (x0++[(Sign.mk 11 0 0 0 false 0 false false 0 0 0 0 false 0 0 0 0)])+List.length [l0_]))/\
(I64 (x2+1))/\
(qac a0 a1 a2 a3 (
(ze a0 a1 a2 a3 a4 a5 ((x0++[(Sign.mk 11 0 0 0 false 0 false false 0 0 0 0 false 0 0 0 0)])++[l0_]) x1 (x2+1))/\
 qk a0 a1 a2 a3 a4 a5 ((x0++[(Sign.mk 11 0 0 0 false 0 false false 0 0 0 0 false 0 0 0 0)])++[l0_]) x1 (x2+1)<qk a0 a1 a2 a3 a4 a5 x0 x1 x2))))/\
(l1_≠0->
((l1_=1->
(True)/\
(qh (List.length x0+List.length [(Sign.mk 12 0 0 0 false 0 false false 0 0 0 0 false 0 0 0 0)]))/\
(Wn x2 l3_)/\
(True)/\
(qh (List.length (x0++[(Sign.mk 12 0 0 0 false 0 false false 0 0 0 0 false 0 0 0 0)])+List.length [l0_]))/\
(I64 (x2+1))/\
(qac a0 a1 a2 a3 (
(ze a0 a1 a2 a3 a4 a5 ((x0++[(Sign.mk 12 0 0 0 false 0 false false 0 0 0 0 false 0 0 0 0)])++[l0_]) x1 (x2+1))/\
 qk a0 a1 a2 a3 a4 a5 ((x0++[(Sign.mk 12 0 0 0 false 0 false false 0 0 0 0 false 0 0 0 0)])++[l0_]) x1 (x2+1)<qk a0 a1 a2 a3 a4 a5 x0 x1 x2))))/\
(l1_≠1->
((l1_=2->
((x1=false->
(True)/\
(qh (List.length x0+List.length [(Sign.mk 9 0 0 0 false 0 false false 0 0 0 0 false 0 0 0 0)]))/\
(Wn x2 l3_)/\
(True)/\
(qh (List.length (x0++[(Sign.mk 9 0 0 0 false 0 false false 0 0 0 0 false 0 0 0 0)])+List.length [l0_]))/\
(I64 (x2+1))/\
(qac a0 a1 a2 a3 (
(ze a0 a1 a2 a3 a4 a5 ((x0++[(Sign.mk 9 0 0 0 false 0 false false 0 0 0 0 false 0 0 0 0)])++[l0_]) true (x2+1))/\
 qk a0 a1 a2 a3 a4 a5 ((x0++[(Sign.mk 9 0 0 0 false 0 false false 0 0 0 0 false 0 0 0 0)])++[l0_]) true (x2+1)<qk a0 a1 a2 a3 a4 a5 x0 x1 x2))))/\
(x1=true->
((l1_<6->
((3:Int)≠0)/\
(I64 (2+(Int.tmod x2 3)))/\
(True)/\
(qh (List.length x0+List.length [l2_]))/\
(Wn x2 l3_)/\
(True)/\
(qh (List.length (x0++[l2_])+List.length [l0_]))/\
(I64 (x2+1))/\
(qac a0 a1 a2 a3 (
(ze a0 a1 a2 a3 a4 a5 ((x0++[l2_])++[l0_]) false (x2+1))/\
 qk a0 a1 a2 a3 a4 a5 ((x0++[l2_])++[l0_]) false (x2+1)<qk a0 a1 a2 a3 a4 a5 x0 x1 x2))))/\
(6<=l1_->
((l1_=6->
((l1_=7->
(Wn x2 l3_)/\
(True)/\
(qh l5_)/\
(I64 (x2+1))/\
(qac a0 a1 a2 a3 (
(ze a0 a1 a2 a3 a4 a5 l6_ x1 (x2+1))/\
 qk a0 a1 a2 a3 a4 a5 l6_ x1 (x2+1)<qk a0 a1 a2 a3 a4 a5 x0 x1 x2))))/\
(l1_≠7->
(Wn x2 l3_)/\
(True)/\
(qh l5_)/\
(I64 (x2+1))/\
(qac a0 a1 a2 a3 (
(ze a0 a1 a2 a3 a4 a5 l6_ x1 (x2+1))/\
 qk a0 a1 a2 a3 a4 a5 l6_ x1 (x2+1)<qk a0 a1 a2 a3 a4 a5 x0 x1 x2)))))/\
(l1_≠6->
((l1_=7->
(Wn x2 l3_)/\
(True)/\
(qh l5_)/\
(I64 (x2+1))/\
(qac a0 a1 a2 a3 (
(ze a0 a1 a2 a3 a4 a5 l6_ x1 (x2+1))/\
 qk a0 a1 a2 a3 a4 a5 l6_ x1 (x2+1)<qk a0 a1 a2 a3 a4 a5 x0 x1 x2))))/\
(l1_≠7->
(Wn x2 l3_)/\
(True)/\
(qh l5_)/\
(I64 (x2+1))/\
(qac a0 a1 a2 a3 (
(ze a0 a1 a2 a3 a4 a5 l6_ x1 (x2+1))/\
 qk a0 a1 a2 a3 a4 a5 l6_ x1 (x2+1)<qk a0 a1 a2 a3 a4 a5 x0 x1 x2))))))))/\
(l1_≠2->
((l1_<6->
((x1=true->
((3:Int)≠0)/\
(I64 (2+(Int.tmod x2 3)))/\
(True)/\
(qh (List.length x0+List.length [l2_]))/\
(Wn x2 l3_)/\
(True)/\
(qh (List.length (x0++[l2_])+List.length [l0_]))/\
(I64 (x2+1))/\
(qac a0 a1 a2 a3 (
(ze a0 a1 a2 a3 a4 a5 ((x0++[l2_])++[l0_]) false (x2+1))/\
 qk a0 a1 a2 a3 a4 a5 ((x0++[l2_])++[l0_]) false (x2+1)<qk a0 a1 a2 a3 a4 a5 x0 x1 x2))))/\
(x1=false->
((l1_=6->
((2:Int)≠0)/\
(True)/\
(qh (List.length x0+List.length [(Sign.mk 5 0 0 0 false 0 false false a0 a1 a2 a3 (decide ((Int.tmod x2 2)=0)) 0 0 0 0)]))/\
(Wn x2 l3_)/\
(True)/\
(qh (List.length (x0++[(Sign.mk 5 0 0 0 false 0 false false a0 a1 a2 a3 (decide ((Int.tmod x2 2)=0)) 0 0 0 0)])+List.length [l0_]))/\
(I64 (x2+1))/\
(qac a0 a1 a2 a3 (
(ze a0 a1 a2 a3 a4 a5 ((x0++[(Sign.mk 5 0 0 0 false 0 false false a0 a1 a2 a3 (decide ((Int.tmod x2 2)=0)) 0 0 0 0)])++[l0_]) x1 (x2+1))/\
 qk a0 a1 a2 a3 a4 a5 ((x0++[(Sign.mk 5 0 0 0 false 0 false false a0 a1 a2 a3 (decide ((Int.tmod x2 2)=0)) 0 0 0 0)])++[l0_]) x1 (x2+1)<qk a0 a1 a2 a3 a4 a5 x0 x1 x2))))/\
(l1_≠6->
((l1_=7->
(True)/\
(qh (List.length x0+List.length [l4_]))/\
(Wn x2 l3_)/\
(True)/\
(qh (List.length (x0++[l4_])+List.length [l0_]))/\
(I64 (x2+1))/\
(qac a0 a1 a2 a3 (
(ze a0 a1 a2 a3 a4 a5 ((x0++[l4_])++[l0_]) x1 (x2+1))/\
 qk a0 a1 a2 a3 a4 a5 ((x0++[l4_])++[l0_]) x1 (x2+1)<qk a0 a1 a2 a3 a4 a5 x0 x1 x2))))/\
(l1_≠7->
(Wn x2 l3_)/\
(True)/\
(qh l5_)/\
(I64 (x2+1))/\
(qac a0 a1 a2 a3 (
(ze a0 a1 a2 a3 a4 a5 l6_ x1 (x2+1))/\
 qk a0 a1 a2 a3 a4 a5 l6_ x1 (x2+1)<qk a0 a1 a2 a3 a4 a5 x0 x1 x2)))))))/\
(6<=l1_->
((l1_=6->
((x1=false->
((2:Int)≠0)/\
(True)/\
(qh (List.length x0+List.length [(Sign.mk 5 0 0 0 false 0 false false a0 a1 a2 a3 (decide ((Int.tmod x2 2)=0)) 0 0 0 0)]))/\
(Wn x2 l3_)/\
(True)/\
(qh (List.length (x0++[(Sign.mk 5 0 0 0 false 0 false false a0 a1 a2 a3 (decide ((Int.tmod x2 2)=0)) 0 0 0 0)])+List.length [l0_]))/\
(I64 (x2+1))/\
(qac a0 a1 a2 a3 (
(ze a0 a1 a2 a3 a4 a5 ((x0++[(Sign.mk 5 0 0 0 false 0 false false a0 a1 a2 a3 (decide ((Int.tmod x2 2)=0)) 0 0 0 0)])++[l0_]) x1 (x2+1))/\
 qk a0 a1 a2 a3 a4 a5 ((x0++[(Sign.mk 5 0 0 0 false 0 false false a0 a1 a2 a3 (decide ((Int.tmod x2 2)=0)) 0 0 0 0)])++[l0_]) x1 (x2+1)<qk a0 a1 a2 a3 a4 a5 x0 x1 x2))))/\
(x1=true->
((l1_=7->
(Wn x2 l3_)/\
(True)/\
(qh l5_)/\
(I64 (x2+1))/\
(qac a0 a1 a2 a3 (
(ze a0 a1 a2 a3 a4 a5 l6_ x1 (x2+1))/\
 qk a0 a1 a2 a3 a4 a5 l6_ x1 (x2+1)<qk a0 a1 a2 a3 a4 a5 x0 x1 x2))))/\
(l1_≠7->
(Wn x2 l3_)/\
(True)/\
(qh l5_)/\
(I64 (x2+1))/\
(qac a0 a1 a2 a3 (
(ze a0 a1 a2 a3 a4 a5 l6_ x1 (x2+1))/\
 qk a0 a1 a2 a3 a4 a5 l6_ x1 (x2+1)<qk a0 a1 a2 a3 a4 a5 x0 x1 x2))))))/\
(l1_≠6->
((l1_=7->
((x1=false->
(True)/\
(qh (List.length x0+List.length [l4_]))/\
(Wn x2 l3_)/\
(True)/\
(qh (List.length (x0++[l4_])+List.length [l0_]))/\
(I64 (x2+1))/\
(qac a0 a1 a2 a3 (
(ze a0 a1 a2 a3 a4 a5 ((x0++[l4_])++[l0_]) x1 (x2+1))/\
 qk a0 a1 a2 a3 a4 a5 ((x0++[l4_])++[l0_]) x1 (x2+1)<qk a0 a1 a2 a3 a4 a5 x0 x1 x2))))/\
(x1=true->
(Wn x2 l3_)/\
(True)/\
(qh l5_)/\
(I64 (x2+1))/\
(qac a0 a1 a2 a3 (
(ze a0 a1 a2 a3 a4 a5 l6_ x1 (x2+1))/\
 qk a0 a1 a2 a3 a4 a5 l6_ x1 (x2+1)<qk a0 a1 a2 a3 a4 a5 x0 x1 x2)))))/\
(l1_≠7->
(Wn x2 l3_)/\
(True)/\
(qh l5_)/\
(I64 (x2+1))/\
(qac a0 a1 a2 a3 (
(ze a0 a1 a2 a3 a4 a5 l6_ x1 (x2+1))/\
 qk a0 a1 a2 a3 a4 a5 l6_ x1 (x2+1)<qk a0 a1 a2 a3 a4 a5 x0 x1 x2))))))))))/\
(l0_.Kind=3->
(Wn x2 l3_)/\
(True)/\
(qh l5_)/\
(I64 (x2+1))/\
(qac a0 a1 a2 a3 (
(ze a0 a1 a2 a3 a4 a5 l6_ x1 (x2+1))/\
 qk a0 a1 a2 a3 a4 a5 l6_ x1 (x2+1)<qk a0 a1 a2 a3 a4 a5 x0 x1 x2)))))/\
(l3_<=x2->
((x1=true->
(True)/\
(qh (List.length x0+List.length [(Sign.mk 10 0 0 0 false 0 false false 0 0 0 0 false 2 0 0 0)]))/\
(([112,97,114,116]:ZB)=(qhq))/\
((x0++[(Sign.mk 10 0 0 0 false 0 false false 0 0 0 0 false 2 0 0 0)])=(qj8 a0 a1 a2 a3 a4 a5))/\
 True))/\
(x1=false->
(([112,97,114,116]:ZB)=(qhq))/\
(x0=(qj8 a0 a1 a2 a3 a4 a5))/\
 True))))))
theorem zgu (a0:Int) (a1:Int) (a2:Int) (a3:Int) (a4:List Int) (a5:Int):qbs (qq XK (qav zdw) (fun j ns=>match j,ns with | 0,[.l 4 y0,.b y1,.i y2]=>ze a0 a1 a2 a3 a4 a5 y0 y1 y2 | _,_=>False) (fun j ns=>match j,ns with | 0,[.l 4 y0,.b y1,.i y2]=>qk a0 a1 a2 a3 a4 a5 y0 y1 y2 | _,_=>0)) {cfg sp with ann:=qbp [(21,250,.inv 0 [.one 7 (.list 4 true false),.one 9 (.bool),.one 10 (.int .i64)] [])]} 3 21 [.agg [.int .i64 none (a0),.int .i64 none (a1),.int .i64 none (a2),.int .i64 none (a3)],.list 1 (a4) none,.int .i64 none (a5)] (qz6 a0 a1 a2 a3 a4 a5)=qv6 a0 a1 a2 a3 a4 a5:=by kernel_rfl
end Go.Proofs.YtbopmiclcimjgaaGreatDoor
namespace Go.Proofs.YtbopmiclcimjgaaGreatDoor
open Go Go.E2 Go.E3
set_option maxRecDepth 100000
variable {sp:Nat->Option (List V->Heap->Option (CR×Heap))}

end Go.Proofs.YtbopmiclcimjgaaGreatDoor
namespace Go.Proofs.YtbopmiclcimjgaaGreatDoor
open Go Go.E2 Go.E3
set_option maxRecDepth 100000
variable {sp:Nat->Option (List V->Heap->Option (CR×Heap))}

def q3c:List (Nat×Ct KT):=[(20,zm2),(22,zqt),(21,zqs),(10,zqo),(23,zm5),(25,zm6),(24,zek),(18,zqr),(17,zqq)]
abbrev qrf (a0:List Int) (a1:List Int):PV KT:=.sb 0 false ((true)) ((true)=true) ((true)=false)
abbrev qna (a0:List Int) (a1:List Int):Prop:=
 let l0_:=qj8 (quj (ln a0)) (quk (ln a0)) (qum (ln a0)) (qul (ln a0)) a0 30;
(True)/\
((I64 (ln a0)))/\
((ln a0<=9223372036854775807/\qk5 a0/\(30:Int)<=30/\(0:Int)<=30))/\
(qh (List.length ([112,97,114,116,32]:ZB)+List.length (qhq)))/\
(qh (List.length (([112,97,114,116,32]:ZB)++(qhq))+List.length ([10]:ZB)))/\
(qf9 a0 a1 ((([112,97,114,116,32]:ZB)++(qhq))++([10]:ZB)) 0)/\
(∀ x0:ZB,
(∀ x1:Int,
 let l1_:=(qle (ix l0_ x1)).1;
(qf9 a0 a1 x0 x1->
((x1<(ln l0_)->
(Wn x1 (ln l0_))/\
(True)/\
(True)/\
((((qle (ix l0_ x1)).2)≠0->
(false=(true))/\
 True))/\
(((qle (ix l0_ x1)).2)=0->
((((qd l1_).2.1)≠0->
(false=(true))/\
 True))/\
(((qd l1_).2.1)=0->
(((ln ((qd l1_).1))≠1->
(false=(true))/\
 True))/\
((ln ((qd l1_).1))=1->
(Wn 0 (ln ((qd l1_).1)))/\
(((ln (ix ((qd l1_).1) 0).Words)≠1->
(false=(true))/\
 True))/\
((ln (ix ((qd l1_).1) 0).Words)=1->
(qh (List.length x0+List.length l1_))/\
(True)/\
(True)/\
(True)/\
(True)/\
(True)/\
((ln a1<=9223372036854775807))/\
((I64 (atI a1 x1)/\(1:Int)<=5/\(5:Int)<=1048576))/\
(Wn (qa6 (atI a1 x1) 5) (ln [([32]:ZB),([10]:ZB),([32,32,32]:ZB),([32,59,32,83,52,10]:ZB),([10,10,32,32]:ZB)]))/\
(qh (List.length (x0++l1_)+List.length (ix [([32]:ZB),([10]:ZB),([32,32,32]:ZB),([32,59,32,83,52,10]:ZB),([10,10,32,32]:ZB)] (qa6 (atI a1 x1) 5))))/\
(I64 (x1+1))/\
((qhq)=(qhq))/\
(l0_=l0_)/\
(qf9 a0 a1 ((x0++l1_)++(ix [([32]:ZB),([10]:ZB),([32,32,32]:ZB),([32,59,32,83,52,10]:ZB),([10,10,32,32]:ZB)] (qa6 (atI a1 x1) 5))) (x1+1))/\
 qe4 a0 a1 ((x0++l1_)++(ix [([32]:ZB),([10]:ZB),([32,32,32]:ZB),([32,59,32,83,52,10]:ZB),([10,10,32,32]:ZB)] (qa6 (atI a1 x1) 5))) (x1+1)<qe4 a0 a1 x0 x1))))))/\
((ln l0_)<=x1->
(qh (List.length x0+List.length ([10,101,110,100]:ZB)))/\
((ln (x0++([10,101,110,100]:ZB))<=1000000000))/\
(((true)=true->
((((zr (x0++([10,101,110,100]:ZB))).2.1)=0->
((ln l0_<=10000000))/\
((je (qhq) l0_ ((zr (x0++([10,101,110,100]:ZB))).1.1) ((zr (x0++([10,101,110,100]:ZB))).1.2))=(true))/\
 True))/\
(((zr (x0++([10,101,110,100]:ZB))).2.1)≠0->
(false=(true))/\
 True)))/\
((true)=false->
(false=(true))/\
 True)))))
theorem q6m (a0:List Int) (a1:List Int):qbs (qq XK (qav q3c) (fun j ns=>match j,ns with | 0,[.s y0,.i y1]=>qf9 a0 a1 y0 y1 | _,_=>False) (fun j ns=>match j,ns with | 0,[.s y0,.i y1]=>qe4 a0 a1 y0 y1 | _,_=>0)) {cfg sp with ann:=qbp [(7,250,.inv 0 [.one 7 (.str),.one 8 (.int .i64)] [])]} 3 7 [.list 1 (a0) none,.list 1 (a1) none] (qrf a0 a1)=qna a0 a1:=by kernel_rfl
end Go.Proofs.YtbopmiclcimjgaaGreatDoor
