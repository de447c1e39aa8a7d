import Derived.Test.YtbopmiclcimjgaaGreatDoorCts
namespace Go.Proofs.YtbopmiclcimjgaaGreatDoor
open Go Go.E2 Go.E3
set_option maxRecDepth 100000
variable {sp:Nat->Option (List V->Heap->Option (CR×Heap))}
def q7w:List (Nat×Ct KT):=[]
abbrev qvf (a0:Int) (a1:Int) (a2:Int) (a3:Int):PV KT:=.int .i64 none ((qa0 a0 a1 a2 a3))
abbrev qfm (v0:Int) (v1:Int) (v2:Int) (v3:Int) (p:Prop):Prop:=
((v0:Int)=v0)/\
((v1:Int)=v1)/\
((v2:Int)=v2)/\
((v3:Int)=v3)/\
 p
abbrev qrf (a0:Int) (a1:Int) (a2:Int) (a3:Int):Prop:=
(qad a0 a1 a2 a3 0)/\
(∀ x0:Int,
(qad a0 a1 a2 a3 x0->
((x0<4->
(Wn x0 4)/\
(((x0:Int)=0->
((a0≠2->
((a0≠3->
((12:Int)=(qa0 a0 a1 a2 a3))/\
 True))/\
(a0=3->
(I64 (x0+1))/\
(qfm a0 a1 a2 a3 (
(qad a0 a1 a2 a3 (x0+1))/\
 zt a0 a1 a2 a3 (x0+1)<zt a0 a1 a2 a3 x0)))))/\
(a0=2->
(I64 (x0+1))/\
(qfm a0 a1 a2 a3 (
(qad a0 a1 a2 a3 (x0+1))/\
 zt a0 a1 a2 a3 (x0+1)<zt a0 a1 a2 a3 x0)))))/\
(((x0:Int)=1->
((a1≠2->
((a1≠3->
((12:Int)=(qa0 a0 a1 a2 a3))/\
 True))/\
(a1=3->
(I64 (x0+1))/\
(qfm a0 a1 a2 a3 (
(qad a0 a1 a2 a3 (x0+1))/\
 zt a0 a1 a2 a3 (x0+1)<zt a0 a1 a2 a3 x0)))))/\
(a1=2->
(I64 (x0+1))/\
(qfm a0 a1 a2 a3 (
(qad a0 a1 a2 a3 (x0+1))/\
 zt a0 a1 a2 a3 (x0+1)<zt a0 a1 a2 a3 x0)))))/\
(((x0:Int)=2->
((a2≠2->
((a2≠3->
((12:Int)=(qa0 a0 a1 a2 a3))/\
 True))/\
(a2=3->
(I64 (x0+1))/\
(qfm a0 a1 a2 a3 (
(qad a0 a1 a2 a3 (x0+1))/\
 zt a0 a1 a2 a3 (x0+1)<zt a0 a1 a2 a3 x0)))))/\
(a2=2->
(I64 (x0+1))/\
(qfm a0 a1 a2 a3 (
(qad a0 a1 a2 a3 (x0+1))/\
 zt a0 a1 a2 a3 (x0+1)<zt a0 a1 a2 a3 x0)))))/\
(((x0:Int)=3->
((a3≠2->
((a3≠3->
((12:Int)=(qa0 a0 a1 a2 a3))/\
 True))/\
(a3=3->
(I64 (x0+1))/\
(qfm a0 a1 a2 a3 (
(qad a0 a1 a2 a3 (x0+1))/\
 zt a0 a1 a2 a3 (x0+1)<zt a0 a1 a2 a3 x0)))))/\
(a3=2->
(I64 (x0+1))/\
(qfm a0 a1 a2 a3 (
(qad a0 a1 a2 a3 (x0+1))/\
 zt a0 a1 a2 a3 (x0+1)<zt a0 a1 a2 a3 x0)))))/\
 True))/\
(4<=x0->
((0:Int)=(qa0 a0 a1 a2 a3))/\
 True)))
theorem zdg (a0:Int) (a1:Int) (a2:Int) (a3:Int):jw (qq XK (jk q7w) (fun j ns=>match j,ns with | 0,[.i y0]=>qad a0 a1 a2 a3 y0 | _,_=>False) (fun j ns=>match j,ns with | 0,[.i y0]=>zt a0 a1 a2 a3 y0 | _,_=>0)) {cfg sp with ann:=jv [(59,26,.inv 0 [.one 7 (.int .i64)] [])]} 3 59 [.agg [.int .i64 none (a0),.int .i64 none (a1),.int .i64 none (a2),.int .i64 none (a3)]] (qvf a0 a1 a2 a3)=qrf a0 a1 a2 a3:=by kernel_rfl
def qym:List (Nat×Ct KT):=[]
abbrev qny (a0:ZB) (a1:ZB):PV KT:=.sb 0 false ((preB a0 a1)) ((preB a0 a1)=true) ((preB a0 a1)=false)
abbrev qk1 (a0:ZB) (a1:ZB):Prop:=
(((ln a1)<=(ln a0)->
((0:Int)<=(ln a1)/\(ln a1)<=ln a0)/\
((decide ((upto a0 (ln a1))=a1))=(preB a0 a1))/\
 True))/\
((ln a0)<(ln a1)->
(false=(preB a0 a1))/\
 True)
theorem q1t (a0:ZB) (a1:ZB):jw (qq XK (jk qym) (fun _ _=>False) (fun _ _=>0)) {cfg sp with ann:=jv []} 3 94 [.str (a0),.str (a1)] (qny a0 a1)=qk1 a0 a1:=by kernel_rfl
def zar:List (Nat×Ct KT):=[]
abbrev qyd (a0:Int) (a1:Int) (a2:Int) (a3:Int):PV KT:=.str ((qaf a0 a1 a2 a3))
abbrev qsz (a0:Int) (a1:Int) (a2:Int) (a3:Int):Prop:=
 let l2_:=qf7 (qha ([]:List MapIS) (MapIS.mk 3 ([46]:ZB))) (MapIS.mk a3 ([]:ZB));
 let l1_:=qf7 (qha (qha ([]:List MapIS) (MapIS.mk 2 ([67]:ZB))) (MapIS.mk 3 ([79]:ZB))) (MapIS.mk a2 ([]:ZB));
 let l0_:=qha (qha ([]:List MapIS) (MapIS.mk 2 ([50]:ZB))) (MapIS.mk 3 ([51]:ZB));
 let l3_:=(qf7 l0_ (MapIS.mk a0 ([]:ZB))).v++(qf7 l0_ (MapIS.mk a1 ([]:ZB))).v;
(True)/\
(True)/\
((a0=3->
(True)/\
(True)/\
(zk (List.length (qf7 l0_ (MapIS.mk a0 ([]:ZB))).v+List.length (qf7 l0_ (MapIS.mk a1 ([]:ZB))).v))/\
(True)/\
(True)/\
(True)/\
(zk (List.length l3_+List.length l1_.v))/\
(True)/\
(True)/\
(zk (List.length (l3_++l1_.v)+List.length l2_.v))/\
(((l3_++l1_.v)++l2_.v)=(qaf a0 a1 a2 a3))/\
 True))/\
(a0≠3->
((a1=3->
(True)/\
(True)/\
(zk (List.length (qf7 l0_ (MapIS.mk a0 ([]:ZB))).v+List.length (qf7 l0_ (MapIS.mk a1 ([]:ZB))).v))/\
(True)/\
(True)/\
(True)/\
(zk (List.length l3_+List.length l1_.v))/\
(True)/\
(True)/\
(zk (List.length (l3_++l1_.v)+List.length l2_.v))/\
(((l3_++l1_.v)++l2_.v)=(qaf a0 a1 a2 a3))/\
 True))/\
(a1≠3->
(True)/\
(True)/\
(True)/\
(zk (List.length ([]:ZB)+List.length l1_.v))/\
(True)/\
(True)/\
(zk (List.length (([]:ZB)++l1_.v)+List.length l2_.v))/\
(((([]:ZB)++l1_.v)++l2_.v)=(qaf a0 a1 a2 a3))/\
 True))
theorem zf6 (a0:Int) (a1:Int) (a2:Int) (a3:Int):jw (qq XK (jk zar) (fun _ _=>False) (fun _ _=>0)) {cfg sp with ann:=jv []} 3 114 [.agg [.int .i64 none (a0),.int .i64 none (a1),.int .i64 none (a2),.int .i64 none (a3)]] (qyd a0 a1 a2 a3)=qsz a0 a1 a2 a3:=by kernel_rfl
def q8s:List (Nat×Ct KT):=[(59,zmk),(114,zba)]
abbrev qvu (a0:Int) (a1:Int) (a2:Int) (a3:Int):PV KT:=.tuple [.str (((qe0 a0 a1 a2 a3).1)),.int .i64 none (((qe0 a0 a1 a2 a3).2))]
abbrev qro (a0:Int) (a1:Int) (a2:Int) (a3:Int):Prop:=
(True)/\
(((qa0 a0 a1 a2 a3)≠0->
(([]:ZB)=((qe0 a0 a1 a2 a3).1))/\
(((qa0 a0 a1 a2 a3):Int)=((qe0 a0 a1 a2 a3).2))/\
 True))/\
((qa0 a0 a1 a2 a3)=0->
(True)/\
((qaf a0 a1 a2 a3)=((qe0 a0 a1 a2 a3).1))/\
((0:Int)=((qe0 a0 a1 a2 a3).2))/\
 True)
theorem zd0 (a0:Int) (a1:Int) (a2:Int) (a3:Int):jw (qq XK (jk q8s) (fun _ _=>False) (fun _ _=>0)) {cfg sp with ann:=jv []} 3 74 [.agg [.int .i64 none (a0),.int .i64 none (a1),.int .i64 none (a2),.int .i64 none (a3)]] (qvu a0 a1 a2 a3)=qro a0 a1 a2 a3:=by kernel_rfl
def qtc (a0:ZB) (r0:Int) (r1:Int) (r2:Int) (r3:Int) (r4:Int):Prop:=
((r0:Int)=((kc a0).1.1))/\
((r1:Int)=((kc a0).1.2.1))/\
((r2:Int)=((kc a0).1.2.2.1))/\
((r3:Int)=((kc a0).1.2.2.2))/\
((r4:Int)=((kc a0).2))/\
 True
def q33:List (Nat×Ct KT):=[(114,zba)]
abbrev qtd (a0:ZB):PV KT:=.tuple [.agg [.int .i64 none (((kc a0).1.1)),.int .i64 none (((kc a0).1.2.1)),.int .i64 none (((kc a0).1.2.2.1)),.int .i64 none (((kc a0).1.2.2.2))],.int .i64 none (((kc a0).2))]
abbrev qom (a0:ZB):Prop:=
 let l0_:=qab (qab (qab (qab (qab (qab (qab (qab (qab (qab (qab (qab (qab ([]:List MapSM) (MapSM.mk (qaf 2 2 2 2) 2 2 2 2)) (MapSM.mk (qaf 2 2 2 3) 2 2 2 3)) (MapSM.mk (qaf 2 2 3 2) 2 2 3 2)) (MapSM.mk (qaf 2 2 3 3) 2 2 3 3)) (MapSM.mk (qaf 2 3 2 2) 2 3 2 2)) (MapSM.mk (qaf 2 3 2 3) 2 3 2 3)) (MapSM.mk (qaf 2 3 3 2) 2 3 3 2)) (MapSM.mk (qaf 2 3 3 3) 2 3 3 3)) (MapSM.mk (qaf 3 2 2 2) 3 2 2 2)) (MapSM.mk (qaf 3 2 2 3) 3 2 2 3)) (MapSM.mk (qaf 3 2 3 2) 3 2 3 2)) (MapSM.mk (qaf 3 2 3 3) 3 2 3 3)) (MapSM.mk (qaf 3 3 2 2) 3 3 2 2);
 let l1_:=qab (qab (qab l0_ (MapSM.mk (qaf 3 3 2 3) 3 3 2 3)) (MapSM.mk (qaf 3 3 3 2) 3 3 3 2)) (MapSM.mk (qaf 3 3 3 3) 3 3 3 3);
(True)/\
(True)/\
(True)/\
(True)/\
(True)/\
(True)/\
(True)/\
(True)/\
(True)/\
(True)/\
(True)/\
(True)/\
(True)/\
(True)/\
(True)/\
(True)/\
(True)/\
(True)/\
(True)/\
(True)/\
(True)/\
(True)/\
(True)/\
(True)/\
(True)/\
(True)/\
(True)/\
(True)/\
(True)/\
(True)/\
(True)/\
(True)/\
(True)/\
(((qw5 l1_ (MapSM.mk a0 0 0 0 0))=false->
 qtc a0 0 0 0 0 3))/\
((qw5 l1_ (MapSM.mk a0 0 0 0 0))=true->
 qtc a0 ((qkf l1_ (MapSM.mk a0 0 0 0 0)).vMax) ((qkf l1_ (MapSM.mk a0 0 0 0 0)).vMod) ((qkf l1_ (MapSM.mk a0 0 0 0 0)).vTem) ((qkf l1_ (MapSM.mk a0 0 0 0 0)).vPro) 0)
theorem q8h (a0:ZB):jw (qq XK (jk q33) (fun _ _=>False) (fun _ _=>0)) {cfg sp with ann:=jv [(78,58,.unroll 17)]} 6 78 [.str (a0)] (qtd a0)=qom a0:=by kernel_rfl
def q3z:List (Nat×Ct KT):=[]
abbrev qta (a0:ZB):PV KT:=.tuple [.int .i64 none (((qi a0).1)),.sb 0 false (((qi a0).2)) (((qi a0).2)=true) (((qi a0).2)=false)]
abbrev qok (a0:ZB):Prop:=
((a0=([]:ZB)->
((0:Int)=((qi a0).1))/\
(false=((qi a0).2))/\
 True))/\
(a0≠([]:ZB)->
(Wn 0 (ln a0))/\
(((bx a0 0)=48->
((1<(ln a0)->
((0:Int)=((qi a0).1))/\
(false=((qi a0).2))/\
 True))/\
((ln a0)<=1->
(qbs a0 0 0)/\
(∀ x3:Int,
(∀ x4:Int,
(qbs a0 x3 x4->
((x4<(ln a0)->
(Wn x4 (ln a0))/\
(((bx a0 x4)<48->
((0:Int)=((qi a0).1))/\
(false=((qi a0).2))/\
 True))/\
(48<=(bx a0 x4)->
(Wn x4 (ln a0))/\
((57<(bx a0 x4)->
((0:Int)=((qi a0).1))/\
(false=((qi a0).2))/\
 True))/\
((bx a0 x4)<=57->
(I64 (10 * x3))/\
(Wn x4 (ln a0))/\
(U8 ((bx a0 x4)-48))/\
(I64 ((bx a0 x4)-48))/\
(I64 ((10 * x3)+((bx a0 x4)-48)))/\
((1099511627776<((10 * x3)+((bx a0 x4)-48))->
((0:Int)=((qi a0).1))/\
(false=((qi a0).2))/\
 True))/\
(((10 * x3)+((bx a0 x4)-48))<=1099511627776->
(I64 (x4+1))/\
(qbs a0 ((10 * x3)+((bx a0 x4)-48)) (x4+1))/\
 qcy a0 ((10 * x3)+((bx a0 x4)-48)) (x4+1)<qcy a0 x3 x4)))))/\
((ln a0)<=x4->
((x3:Int)=((qi a0).1))/\
(true=((qi a0).2))/\
 True)))))))/\
((bx a0 0)≠48->
(qbs a0 0 0)/\
(∀ x2:Int,
(∀ x3:Int,
(qbs a0 x2 x3->
((x3<(ln a0)->
(Wn x3 (ln a0))/\
(((bx a0 x3)<48->
((0:Int)=((qi a0).1))/\
(false=((qi a0).2))/\
 True))/\
(48<=(bx a0 x3)->
(Wn x3 (ln a0))/\
((57<(bx a0 x3)->
((0:Int)=((qi a0).1))/\
(false=((qi a0).2))/\
 True))/\
((bx a0 x3)<=57->
(I64 (10 * x2))/\
(Wn x3 (ln a0))/\
(U8 ((bx a0 x3)-48))/\
(I64 ((bx a0 x3)-48))/\
(I64 ((10 * x2)+((bx a0 x3)-48)))/\
((1099511627776<((10 * x2)+((bx a0 x3)-48))->
((0:Int)=((qi a0).1))/\
(false=((qi a0).2))/\
 True))/\
(((10 * x2)+((bx a0 x3)-48))<=1099511627776->
(I64 (x3+1))/\
(qbs a0 ((10 * x2)+((bx a0 x3)-48)) (x3+1))/\
 qcy a0 ((10 * x2)+((bx a0 x3)-48)) (x3+1)<qcy a0 x2 x3)))))/\
((ln a0)<=x3->
((x2:Int)=((qi a0).1))/\
(true=((qi a0).2))/\
 True))))))
theorem q8a (a0:ZB):jw (qq XK (jk q3z) (fun j ns=>match j,ns with | 0,[.i y0,.i y1]=>qbs a0 y0 y1 | _,_=>False) (fun j ns=>match j,ns with | 0,[.i y0,.i y1]=>qcy a0 y0 y1 | _,_=>0)) {cfg sp with ann:=jv [(118,122,.inv 0 [.one 4 (.int .i64),.one 20 (.int .i64)] [])]} 3 118 [.str (a0)] (qta a0)=qok a0:=by kernel_rfl
def q4a:List (Nat×Ct KT):=[(118,zbb)]
abbrev qtg (a0:ZB):PV KT:=.tuple [.int .i64 none (((k8 a0).1)),.sb 0 false (((k8 a0).2)) (((k8 a0).2)=true) (((k8 a0).2)=false)]
abbrev qoo (a0:ZB):Prop:=
 let l0_:=ln ([45]:ZB);
((l0_<=(ln a0)->
((0:Int)<=l0_/\l0_<=ln a0)/\
(((upto a0 l0_)≠([45]:ZB)->
((ln a0<=1000000))/\
((((qi a0).2)=false->
((0:Int)=((k8 a0).1))/\
(false=((k8 a0).2))/\
 True))/\
(((qi a0).2)=true->
((((qi a0).1):Int)=((k8 a0).1))/\
(true=((k8 a0).2))/\
 True)))/\
((upto a0 l0_)=([45]:ZB)->
((0:Int)<=l0_/\l0_<=ln a0)/\
((ln (fr a0 l0_)<=1000000))/\
((((qi (fr a0 l0_)).2)=false->
((0:Int)=((k8 a0).1))/\
(false=((k8 a0).2))/\
 True))/\
(((qi (fr a0 l0_)).2)=true->
((((qi (fr a0 l0_)).1)=0->
((0:Int)=((k8 a0).1))/\
(false=((k8 a0).2))/\
 True))/\
(((qi (fr a0 l0_)).1)≠0->
(I64 (-((qi (fr a0 l0_)).1)))/\
(((-((qi (fr a0 l0_)).1)):Int)=((k8 a0).1))/\
(true=((k8 a0).2))/\
 True)))))/\
((ln a0)<l0_->
((ln a0<=1000000))/\
((((qi a0).2)=false->
((0:Int)=((k8 a0).1))/\
(false=((k8 a0).2))/\
 True))/\
(((qi a0).2)=true->
((((qi a0).1):Int)=((k8 a0).1))/\
(true=((k8 a0).2))/\
 True))
theorem q8q (a0:ZB):jw (qq XK (jk q4a) (fun _ _=>False) (fun _ _=>0)) {cfg sp with ann:=jv []} 3 136 [.str (a0)] (qtg a0)=qoo a0:=by kernel_rfl
def q3y:List (Nat×Ct KT):=[]
abbrev qs9 (a0:ZB):PV KT:=.tuple [.int .i64 none (((qi a0).1)),.sb 0 false (((qi a0).2)) (((qi a0).2)=true) (((qi a0).2)=false)]
abbrev qoj (a0:ZB):Prop:=
((a0=([]:ZB)->
((0:Int)=((qi a0).1))/\
(false=((qi a0).2))/\
 True))/\
(a0≠([]:ZB)->
(Wn 0 (ln a0))/\
(((bx a0 0)=48->
((1<(ln a0)->
((0:Int)=((qi a0).1))/\
(false=((qi a0).2))/\
 True))/\
((ln a0)<=1->
(qbr a0 0 0)/\
(∀ x3:Int,
(∀ x4:Int,
(qbr a0 x3 x4->
((x4<(ln a0)->
(Wn x4 (ln a0))/\
((48<=(bx a0 x4)->
((57<(bx a0 x4)->
((0:Int)=((qi a0).1))/\
(false=((qi a0).2))/\
 True))/\
((bx a0 x4)<=57->
(I64 (10 * x3))/\
(Wn x4 (ln a0))/\
(U8 ((bx a0 x4)-48))/\
(I64 ((bx a0 x4)-48))/\
(I64 ((10 * x3)+((bx a0 x4)-48)))/\
((1099511627776<((10 * x3)+((bx a0 x4)-48))->
((0:Int)=((qi a0).1))/\
(false=((qi a0).2))/\
 True))/\
(((10 * x3)+((bx a0 x4)-48))<=1099511627776->
(I64 (x4+1))/\
(qbr a0 ((10 * x3)+((bx a0 x4)-48)) (x4+1))/\
 qcx a0 ((10 * x3)+((bx a0 x4)-48)) (x4+1)<qcx a0 x3 x4))))/\
((bx a0 x4)<48->
((0:Int)=((qi a0).1))/\
(false=((qi a0).2))/\
 True)))/\
((ln a0)<=x4->
((x3:Int)=((qi a0).1))/\
(true=((qi a0).2))/\
 True)))))))/\
((bx a0 0)≠48->
(qbr a0 0 0)/\
(∀ x2:Int,
(∀ x3:Int,
(qbr a0 x2 x3->
((x3<(ln a0)->
(Wn x3 (ln a0))/\
((48<=(bx a0 x3)->
((57<(bx a0 x3)->
((0:Int)=((qi a0).1))/\
(false=((qi a0).2))/\
 True))/\
((bx a0 x3)<=57->
(I64 (10 * x2))/\
(Wn x3 (ln a0))/\
(U8 ((bx a0 x3)-48))/\
(I64 ((bx a0 x3)-48))/\
(I64 ((10 * x2)+((bx a0 x3)-48)))/\
((1099511627776<((10 * x2)+((bx a0 x3)-48))->
((0:Int)=((qi a0).1))/\
(false=((qi a0).2))/\
 True))/\
(((10 * x2)+((bx a0 x3)-48))<=1099511627776->
(I64 (x3+1))/\
(qbr a0 ((10 * x2)+((bx a0 x3)-48)) (x3+1))/\
 qcx a0 ((10 * x2)+((bx a0 x3)-48)) (x3+1)<qcx a0 x2 x3))))/\
((bx a0 x3)<48->
((0:Int)=((qi a0).1))/\
(false=((qi a0).2))/\
 True)))/\
((ln a0)<=x3->
((x2:Int)=((qi a0).1))/\
(true=((qi a0).2))/\
 True))))))
theorem q77 (a0:ZB):jw (qq XK (jk q3y) (fun j ns=>match j,ns with | 0,[.i y0,.i y1]=>qbr a0 y0 y1 | _,_=>False) (fun j ns=>match j,ns with | 0,[.i y0,.i y1]=>qcx a0 y0 y1 | _,_=>0)) {cfg sp with ann:=jv [(101,122,.inv 0 [.one 4 (.int .i64),.one 5 (.int .i64)] [])]} 3 101 [.str (a0)] (qs9 a0)=qoj a0:=by kernel_rfl
def q39:List (Nat×Ct KT):=[(101,za7)]
abbrev qtf (a0:ZB):PV KT:=.tuple [.int .i64 none (((k8 a0).1)),.sb 0 false (((k8 a0).2)) (((k8 a0).2)=true) (((k8 a0).2)=false)]
abbrev qon (a0:ZB):Prop:=
((a0=([]:ZB)->
((ln a0<=1000000))/\
((((qi a0).1):Int)=((k8 a0).1))/\
(((qi a0).2)=((k8 a0).2))/\
 True))/\
(a0≠([]:ZB)->
(Wn 0 (ln a0))/\
(((bx a0 0)≠45->
((ln a0<=1000000))/\
((((qi a0).1):Int)=((k8 a0).1))/\
(((qi a0).2)=((k8 a0).2))/\
 True))/\
((bx a0 0)=45->
((0:Int)<=1/\1<=ln a0)/\
((ln (fr a0 1)<=1000000))/\
(I64 (-((qi (fr a0 1)).1)))/\
((((qi (fr a0 1)).2)=true->
(((-((qi (fr a0 1)).1)):Int)=((k8 a0).1))/\
((decide (0<((qi (fr a0 1)).1)))=((k8 a0).2))/\
 True))/\
(((qi (fr a0 1)).2)=false->
(((-((qi (fr a0 1)).1)):Int)=((k8 a0).1))/\
(false=((k8 a0).2))/\
 True)))
theorem q8n (a0:ZB):jw (qq XK (jk q39) (fun _ _=>False) (fun _ _=>0)) {cfg sp with ann:=jv []} 3 125 [.str (a0)] (qtf a0)=qon a0:=by kernel_rfl
def qri (a0:ZB) (a1:Int) (r0:ZB) (r1:ZB) (r2:Bool):Prop:=
(r0=((qa1 a0 a1).1))/\
(r1=((qa1 a0 a1).2.1))/\
(r2=((qa1 a0 a1).2.2))/\
 True
def zdj:List (Nat×Ct KT):=[]
abbrev qzi (a0:ZB) (a1:Int):PV KT:=.tuple [.str (((qa1 a0 a1).1)),.str (((qa1 a0 a1).2.1)),.sb 0 false (((qa1 a0 a1).2.2)) (((qa1 a0 a1).2.2)=true) (((qa1 a0 a1).2.2)=false)]
abbrev qvj (a0:ZB) (a1:Int):Prop:=
(qfp a0 a1 0 0 0)/\
(∀ x0:Int,
(∀ x1:Int,
(∀ x2:Int,
(qfp a0 a1 x0 x1 x2->
((x2<(ln a0)->
(Wn x2 (ln a0))/\
(((bx a0 x2)=a1->
(I64 (x1+1))/\
(I64 (x2+1))/\
(qfp a0 a1 x2 (x1+1) (x2+1))/\
 qef a0 a1 x2 (x1+1) (x2+1)<qef a0 a1 x0 x1 x2))/\
((bx a0 x2)≠a1->
(I64 (x2+1))/\
(qfp a0 a1 x0 x1 (x2+1))/\
 qef a0 a1 x0 x1 (x2+1)<qef a0 a1 x0 x1 x2)))/\
((ln a0)<=x2->
((x1≠1->
 qri a0 a1 ([]:ZB) ([]:ZB) false))/\
(x1=1->
((0:Int)<=x0/\x0<=ln a0)/\
(I64 (x0+1))/\
((0:Int)<=(x0+1)/\(x0+1)<=ln a0)/\
 qri a0 a1 (upto a0 x0) (fr a0 (x0+1)) true))))))
theorem zgm (a0:ZB) (a1:Int):jw (qq XK (jk zdj) (fun j ns=>match j,ns with | 0,[.i y0,.i y1,.i y2]=>qfp a0 a1 y0 y1 y2 | _,_=>False) (fun j ns=>match j,ns with | 0,[.i y0,.i y1,.i y2]=>qef a0 a1 y0 y1 y2 | _,_=>0)) {cfg sp with ann:=jv [(100,58,.inv 0 [.one 7 (.int .i64),.one 8 (.int .i64),.one 9 (.int .i64)] [])]} 3 100 [.str (a0),.int .u8 none (a1)] (qzi a0 a1)=qvj a0 a1:=by kernel_rfl
def q3t:List (Nat×Ct KT):=[]
abbrev qs5 (a0:Int) (a1:Int) (a2:Int) (a3:Int):PV KT:=.int .i64 none ((qa0 a0 a1 a2 a3))
abbrev qog (a0:Int) (a1:Int) (a2:Int) (a3:Int):Prop:=
(True)/\
(True)/\
(True)/\
(True)/\
(qdq a0 a1 a2 a3 0)/\
(∀ x0:Int,
(qdq a0 a1 a2 a3 x0->
((x0<(ln ([a0,a1,a2,a3]:List Int))->
(Wn x0 (ln ([a0,a1,a2,a3]:List Int)))/\
(((ix ([a0,a1,a2,a3]:List Int) x0)≠2->
(Wn x0 (ln ([a0,a1,a2,a3]:List Int)))/\
(((ix ([a0,a1,a2,a3]:List Int) x0)≠3->
((12:Int)=(qa0 a0 a1 a2 a3))/\
 True))/\
((ix ([a0,a1,a2,a3]:List Int) x0)=3->
(I64 (x0+1))/\
((a0:Int)=a0)/\
((a1:Int)=a1)/\
((a2:Int)=a2)/\
((a3:Int)=a3)/\
(qdq a0 a1 a2 a3 (x0+1))/\
 qcw a0 a1 a2 a3 (x0+1)<qcw a0 a1 a2 a3 x0)))/\
((ix ([a0,a1,a2,a3]:List Int) x0)=2->
(I64 (x0+1))/\
((a0:Int)=a0)/\
((a1:Int)=a1)/\
((a2:Int)=a2)/\
((a3:Int)=a3)/\
(qdq a0 a1 a2 a3 (x0+1))/\
 qcw a0 a1 a2 a3 (x0+1)<qcw a0 a1 a2 a3 x0)))/\
((ln ([a0,a1,a2,a3]:List Int))<=x0->
((0:Int)=(qa0 a0 a1 a2 a3))/\
 True)))
theorem q7v (a0:Int) (a1:Int) (a2:Int) (a3:Int):jw (qq XK (jk q3t) (fun j ns=>match j,ns with | 0,[.i y0]=>qdq a0 a1 a2 a3 y0 | _,_=>False) (fun j ns=>match j,ns with | 0,[.i y0]=>qcw a0 a1 a2 a3 y0 | _,_=>0)) {cfg sp with ann:=jv [(92,58,.inv 0 [.one 4 (.int .i64)] [])]} 3 92 [.agg [.int .i64 none (a0),.int .i64 none (a1),.int .i64 none (a2),.int .i64 none (a3)]] (qs5 a0 a1 a2 a3)=qog a0 a1 a2 a3:=by kernel_rfl
def q8r:List (Nat×Ct KT):=[(92,zmp)]
abbrev qvt (a0:Int) (a1:Int) (a2:Int) (a3:Int):PV KT:=.tuple [.str (((qe0 a0 a1 a2 a3).1)),.int .i64 none (((qe0 a0 a1 a2 a3).2))]
abbrev qrn (a0:Int) (a1:Int) (a2:Int) (a3:Int):Prop:=
 let l2_:=qe0 a0 a1 a2 a3;
 let l1_:=UInt8.ofNat (Int.toNat ((48+a1)));
 let l0_:=UInt8.ofNat (Int.toNat ((48+a0)));
(True)/\
(((qa0 a0 a1 a2 a3)≠0->
(([]:ZB)=(l2_.1))/\
(((qa0 a0 a1 a2 a3):Int)=(l2_.2))/\
 True))/\
((qa0 a0 a1 a2 a3)=0->
((a0=3->
(I64 (48+a0))/\
(U8 (48+a0))/\
(I64 (48+a1))/\
(U8 (48+a1))/\
(U8 ((48+a0)))/\
(U8 ((48+a1)))/\
((a2=3->
(zk (List.length [l0_,l1_]+List.length ([79]:ZB)))/\
((a3=3->
(zk (List.length ([l0_,l1_]++([79]:ZB))+List.length ([46]:ZB)))/\
((([l0_,l1_]++([79]:ZB))++([46]:ZB))=(l2_.1))/\
((0:Int)=(l2_.2))/\
 True))/\
(a3≠3->
(([l0_,l1_]++([79]:ZB))=(l2_.1))/\
((0:Int)=(l2_.2))/\
 True)))/\
(a2≠3->
(zk (List.length [l0_,l1_]+List.length ([67]:ZB)))/\
((a3=3->
(zk (List.length ([l0_,l1_]++([67]:ZB))+List.length ([46]:ZB)))/\
((([l0_,l1_]++([67]:ZB))++([46]:ZB))=(l2_.1))/\
((0:Int)=(l2_.2))/\
 True))/\
(a3≠3->
(([l0_,l1_]++([67]:ZB))=(l2_.1))/\
((0:Int)=(l2_.2))/\
 True))))/\
(a0≠3->
((a1=3->
(I64 (48+a0))/\
(U8 (48+a0))/\
(I64 (48+a1))/\
(U8 (48+a1))/\
(U8 ((48+a0)))/\
(U8 ((48+a1)))/\
((a2=3->
(zk (List.length [l0_,l1_]+List.length ([79]:ZB)))/\
((a3=3->
(zk (List.length ([l0_,l1_]++([79]:ZB))+List.length ([46]:ZB)))/\
((([l0_,l1_]++([79]:ZB))++([46]:ZB))=(l2_.1))/\
((0:Int)=(l2_.2))/\
 True))/\
(a3≠3->
(([l0_,l1_]++([79]:ZB))=(l2_.1))/\
((0:Int)=(l2_.2))/\
 True)))/\
(a2≠3->
(zk (List.length [l0_,l1_]+List.length ([67]:ZB)))/\
((a3=3->
(zk (List.length ([l0_,l1_]++([67]:ZB))+List.length ([46]:ZB)))/\
((([l0_,l1_]++([67]:ZB))++([46]:ZB))=(l2_.1))/\
((0:Int)=(l2_.2))/\
 True))/\
(a3≠3->
(([l0_,l1_]++([67]:ZB))=(l2_.1))/\
((0:Int)=(l2_.2))/\
 True))))/\
(a1≠3->
((a2=3->
(zk (List.length ([]:ZB)+List.length ([79]:ZB)))/\
((a3=3->
(zk (List.length (([]:ZB)++([79]:ZB))+List.length ([46]:ZB)))/\
(((([]:ZB)++([79]:ZB))++([46]:ZB))=(l2_.1))/\
((0:Int)=(l2_.2))/\
 True))/\
(a3≠3->
((([]:ZB)++([79]:ZB))=(l2_.1))/\
((0:Int)=(l2_.2))/\
 True)))/\
(a2≠3->
(zk (List.length ([]:ZB)+List.length ([67]:ZB)))/\
((a3=3->
(zk (List.length (([]:ZB)++([67]:ZB))+List.length ([46]:ZB)))/\
(((([]:ZB)++([67]:ZB))++([46]:ZB))=(l2_.1))/\
((0:Int)=(l2_.2))/\
 True))/\
(a3≠3->
((([]:ZB)++([67]:ZB))=(l2_.1))/\
((0:Int)=(l2_.2))/\
 True)))))
theorem zdx (a0:Int) (a1:Int) (a2:Int) (a3:Int):jw (qq XK (jk q8r) (fun _ _=>False) (fun _ _=>0)) {cfg sp with ann:=jv []} 3 39 [.agg [.int .i64 none (a0),.int .i64 none (a1),.int .i64 none (a2),.int .i64 none (a3)]] (qvt a0 a1 a2 a3)=qrn a0 a1 a2 a3:=by kernel_rfl
def qu1 (a0:Int) (r0:Int) (r1:Int) (r2:Int) (r3:Int) (r4:Int):Prop:=
((r0:Int)=((ofM a0).1))/\
((r1:Int)=((ofM a0).2.1))/\
((r2:Int)=((ofM a0).2.2.1))/\
((r3:Int)=((ofM a0).2.2.2))/\
((r4:Int)=((0:Int)))/\
 True
def zlr:List (Nat×Ct KT):=[]
abbrev zay (a0:Int):PV KT:=.tuple [.agg [.int .i64 none (((ofM a0).1)),.int .i64 none (((ofM a0).2.1)),.int .i64 none (((ofM a0).2.2.1)),.int .i64 none (((ofM a0).2.2.2))],.int .i64 none (((0:Int)))]
abbrev q8b (a0:Int):Prop:=
((a0<0->
 qu1 a0 0 0 0 0 2))/\
(0<=a0->
((15<a0->
 qu1 a0 0 0 0 0 2))/\
(a0<=15->
((8:Int)≠0/\I64 (Int.tdiv a0 8))/\
(I64 (2+(Int.tdiv a0 8)))/\
((4:Int)≠0/\I64 (Int.tdiv a0 4))/\
((2:Int)≠0)/\
(I64 (2+(Int.tmod (Int.tdiv a0 4) 2)))/\
((2:Int)≠0/\I64 (Int.tdiv a0 2))/\
((2:Int)≠0)/\
(I64 (2+(Int.tmod (Int.tdiv a0 2) 2)))/\
((2:Int)≠0)/\
(I64 (2+(Int.tmod a0 2)))/\
 qu1 a0 (2+(Int.tdiv a0 8)) (2+(Int.tmod (Int.tdiv a0 4) 2)) (2+(Int.tmod (Int.tdiv a0 2) 2)) (2+(Int.tmod a0 2)) 0))
theorem zpp (a0:Int):jw (qq XK (jk zlr) (fun _ _=>False) (fun _ _=>0)) {cfg sp with ann:=jv []} 3 140 [.int .i64 none (a0)] (zay a0)=q8b a0:=by kernel_rfl
def ql1 (a0:ZB) (r0:Int) (r1:Int) (r2:Int) (r3:Int) (r4:Int):Prop:=
((r0:Int)=((kc a0).1.1))/\
((r1:Int)=((kc a0).1.2.1))/\
((r2:Int)=((kc a0).1.2.2.1))/\
((r3:Int)=((kc a0).1.2.2.2))/\
((r4:Int)=((kc a0).2))/\
 True
def q32:List (Nat×Ct KT):=[(140,zh4),(39,zp1)]
abbrev qtb (a0:ZB):PV KT:=.tuple [.agg [.int .i64 none (((kc a0).1.1)),.int .i64 none (((kc a0).1.2.1)),.int .i64 none (((kc a0).1.2.2.1)),.int .i64 none (((kc a0).1.2.2.2))],.int .i64 none (((kc a0).2))]
abbrev qol (a0:ZB):Prop:=
(qew a0 0)/\
(∀ x0:Int,
(qew a0 x0->
((x0<16->
((0<=x0/\x0<=15))/\
(True)/\
((((qe0 ((ofM x0).1) ((ofM x0).2.1) ((ofM x0).2.2.1) ((ofM x0).2.2.2)).1)=a0->
 ql1 a0 ((ofM x0).1) ((ofM x0).2.1) ((ofM x0).2.2.1) ((ofM x0).2.2.2) 0))/\
(((qe0 ((ofM x0).1) ((ofM x0).2.1) ((ofM x0).2.2.1) ((ofM x0).2.2.2)).1)≠a0->
(I64 (x0+1))/\
(qew a0 (x0+1))/\
 qge a0 (x0+1)<qge a0 x0)))/\
(16<=x0->
 ql1 a0 0 0 0 0 3)))
theorem q8e (a0:ZB):jw (qq XK (jk q32) (fun j ns=>match j,ns with | 0,[.i y0]=>qew a0 y0 | _,_=>False) (fun j ns=>match j,ns with | 0,[.i y0]=>qge a0 y0 | _,_=>0)) {cfg sp with ann:=jv [(124,26,.inv 0 [.one 4 (.int .i64)] [])]} 6 124 [.str (a0)] (qtb a0)=qol a0:=by kernel_rfl
def qvg:List (Nat×Ct KT):=[(137,zbc)]
abbrev qlz (a0:ZB) (a1:Int):PV KT:=.int .i64 none ((jh a0 a1))
abbrev qnz (a0:ZB) (a1:Int):Prop:=
(True)/\
(((jh a0 a1):Int)=(jh a0 a1))/\
 True
theorem qyp (a0:ZB) (a1:Int):jw (qq XK (jk qvg) (fun _ _=>False) (fun _ _=>0)) {cfg sp with ann:=jv []} 3 77 [.str (a0),.int .u8 none (a1)] (qlz a0 a1)=qnz a0 a1:=by kernel_rfl
def zf2:List (Nat×Ct KT):=[]
abbrev q1g (a0:ZB) (a1:Int):PV KT:=.tuple [.str (((qu a0 a1).1)),.sb 0 false (((qu a0 a1).2)) (((qu a0 a1).2)=true) (((qu a0 a1).2)=false)]
abbrev qyc (a0:ZB) (a1:Int):Prop:=
((a0≠([]:ZB)->
(Wn 0 (ln a0))/\
(((bx a0 0)=a1->
((0:Int)<=1/\1<=ln a0)/\
((fr a0 1)=((qu a0 a1).1))/\
(true=((qu a0 a1).2))/\
 True))/\
((bx a0 0)≠a1->
(a0=((qu a0 a1).1))/\
(false=((qu a0 a1).2))/\
 True)))/\
(a0=([]:ZB)->
(a0=((qu a0 a1).1))/\
(false=((qu a0 a1).2))/\
 True)
theorem zla (a0:ZB) (a1:Int):jw (qq XK (jk zf2) (fun _ _=>False) (fun _ _=>0)) {cfg sp with ann:=jv []} 3 123 [.str (a0),.int .u8 none (a1)] (q1g a0 a1)=qyc a0 a1:=by kernel_rfl
def q8t:List (Nat×Ct KT):=[]
abbrev qvv (a0:ZB):PV KT:=.tuple [.int .i64 none (((jy a0).1)),.int .i64 none (((jy a0).2))]
abbrev qrp (a0:ZB):Prop:=
((0:Int)<=0/\(0:Int)<=1/\1<=ln ([88,76,66,83,77,81,70,90]:ZB))/\
((a0=(sub ([88,76,66,83,77,81,70,90]:ZB) 0 1)->
((1:Int)=((jy a0).1))/\
((0:Int)=((jy a0).2))/\
 True))/\
(a0≠(sub ([88,76,66,83,77,81,70,90]:ZB) 0 1)->
((0:Int)<=1/\(1:Int)<=2/\2<=ln ([88,76,66,83,77,81,70,90]:ZB))/\
((a0=(sub ([88,76,66,83,77,81,70,90]:ZB) 1 2)->
((2:Int)=((jy a0).1))/\
((0:Int)=((jy a0).2))/\
 True))/\
(a0≠(sub ([88,76,66,83,77,81,70,90]:ZB) 1 2)->
((0:Int)<=2/\(2:Int)<=3/\3<=ln ([88,76,66,83,77,81,70,90]:ZB))/\
((a0=(sub ([88,76,66,83,77,81,70,90]:ZB) 2 3)->
((3:Int)=((jy a0).1))/\
((0:Int)=((jy a0).2))/\
 True))/\
(a0≠(sub ([88,76,66,83,77,81,70,90]:ZB) 2 3)->
((0:Int)<=3/\(3:Int)<=4/\4<=ln ([88,76,66,83,77,81,70,90]:ZB))/\
((a0=(sub ([88,76,66,83,77,81,70,90]:ZB) 3 4)->
((4:Int)=((jy a0).1))/\
((0:Int)=((jy a0).2))/\
 True))/\
(a0≠(sub ([88,76,66,83,77,81,70,90]:ZB) 3 4)->
((0:Int)<=4/\(4:Int)<=5/\5<=ln ([88,76,66,83,77,81,70,90]:ZB))/\
((a0=(sub ([88,76,66,83,77,81,70,90]:ZB) 4 5)->
((5:Int)=((jy a0).1))/\
((0:Int)=((jy a0).2))/\
 True))/\
(a0≠(sub ([88,76,66,83,77,81,70,90]:ZB) 4 5)->
((0:Int)<=5/\(5:Int)<=6/\6<=ln ([88,76,66,83,77,81,70,90]:ZB))/\
((a0=(sub ([88,76,66,83,77,81,70,90]:ZB) 5 6)->
((6:Int)=((jy a0).1))/\
((0:Int)=((jy a0).2))/\
 True))/\
(a0≠(sub ([88,76,66,83,77,81,70,90]:ZB) 5 6)->
((0:Int)<=6/\(6:Int)<=7/\7<=ln ([88,76,66,83,77,81,70,90]:ZB))/\
((a0=(sub ([88,76,66,83,77,81,70,90]:ZB) 6 7)->
((7:Int)=((jy a0).1))/\
((0:Int)=((jy a0).2))/\
 True))/\
(a0≠(sub ([88,76,66,83,77,81,70,90]:ZB) 6 7)->
((0:Int)<=7/\(7:Int)<=8/\8<=ln ([88,76,66,83,77,81,70,90]:ZB))/\
((a0=(sub ([88,76,66,83,77,81,70,90]:ZB) 7 8)->
((8:Int)=((jy a0).1))/\
((0:Int)=((jy a0).2))/\
 True))/\
(a0≠(sub ([88,76,66,83,77,81,70,90]:ZB) 7 8)->
((0:Int)=((jy a0).1))/\
((3:Int)=((jy a0).2))/\
 True))))))))
theorem zd3 (a0:ZB):jw (qq XK (jk q8t) (fun _ _=>False) (fun _ _=>0)) {cfg sp with ann:=jv [(29,26,.unroll 9)]} 3 29 [.str (a0)] (qvv a0)=qrp a0:=by kernel_rfl
def qe2 (a0:Int) (a1:Int) (a2:Int) (a3:Int) (a4:Bool) (a5:Int) (a6:Bool) (a7:Bool) (a8:Int) (a9:Int) (a10:Int) (a11:Int) (a12:Bool) (a13:Int) (a14:Int) (a15:Int) (a16:Int) (r0:Int) (r1:Int) (r2:Int) (r3:Int) (r4:Bool) (r5:Int) (r6:Bool) (r7:Bool) (r8:Int) (r9:Int) (r10:Int) (r11:Int) (r12:Bool) (r13:Int) (r14:Int) (r15:Int) (r16:Int):Prop:=
((r0:Int)=((zr (Sign.mk a0 a1 a2 a3 a4 a5 a6 a7 a8 a9 a10 a11 a12 a13 a14 a15 a16)).Kind))/\
((r1:Int)=((zr (Sign.mk a0 a1 a2 a3 a4 a5 a6 a7 a8 a9 a10 a11 a12 a13 a14 a15 a16)).Value))/\
((r2:Int)=((zr (Sign.mk a0 a1 a2 a3 a4 a5 a6 a7 a8 a9 a10 a11 a12 a13 a14 a15 a16)).Place))/\
((r3:Int)=((zr (Sign.mk a0 a1 a2 a3 a4 a5 a6 a7 a8 a9 a10 a11 a12 a13 a14 a15 a16)).Acc))/\
(r4=((zr (Sign.mk a0 a1 a2 a3 a4 a5 a6 a7 a8 a9 a10 a11 a12 a13 a14 a15 a16)).Color))/\
((r5:Int)=((zr (Sign.mk a0 a1 a2 a3 a4 a5 a6 a7 a8 a9 a10 a11 a12 a13 a14 a15 a16)).Stem))/\
(r6=((zr (Sign.mk a0 a1 a2 a3 a4 a5 a6 a7 a8 a9 a10 a11 a12 a13 a14 a15 a16)).Oblique))/\
(r7=((zr (Sign.mk a0 a1 a2 a3 a4 a5 a6 a7 a8 a9 a10 a11 a12 a13 a14 a15 a16)).Last))/\
((r8:Int)=((zr (Sign.mk a0 a1 a2 a3 a4 a5 a6 a7 a8 a9 a10 a11 a12 a13 a14 a15 a16)).MensMax))/\
((r9:Int)=((zr (Sign.mk a0 a1 a2 a3 a4 a5 a6 a7 a8 a9 a10 a11 a12 a13 a14 a15 a16)).MensMod))/\
((r10:Int)=((zr (Sign.mk a0 a1 a2 a3 a4 a5 a6 a7 a8 a9 a10 a11 a12 a13 a14 a15 a16)).MensTem))/\
((r11:Int)=((zr (Sign.mk a0 a1 a2 a3 a4 a5 a6 a7 a8 a9 a10 a11 a12 a13 a14 a15 a16)).MensPro))/\
(r12=((zr (Sign.mk a0 a1 a2 a3 a4 a5 a6 a7 a8 a9 a10 a11 a12 a13 a14 a15 a16)).Stroke))/\
((r13:Int)=((zr (Sign.mk a0 a1 a2 a3 a4 a5 a6 a7 a8 a9 a10 a11 a12 a13 a14 a15 a16)).N))/\
((r14:Int)=((zr (Sign.mk a0 a1 a2 a3 a4 a5 a6 a7 a8 a9 a10 a11 a12 a13 a14 a15 a16)).D))/\
((r15:Int)=((zr (Sign.mk a0 a1 a2 a3 a4 a5 a6 a7 a8 a9 a10 a11 a12 a13 a14 a15 a16)).ClefStep))/\
((r16:Int)=((zr (Sign.mk a0 a1 a2 a3 a4 a5 a6 a7 a8 a9 a10 a11 a12 a13 a14 a15 a16)).ClefLine))/\
 True
def zld:List (Nat×Ct KT):=[]
abbrev q7p (a0:Int) (a1:Int) (a2:Int) (a3:Int) (a4:Bool) (a5:Int) (a6:Bool) (a7:Bool) (a8:Int) (a9:Int) (a10:Int) (a11:Int) (a12:Bool) (a13:Int) (a14:Int) (a15:Int) (a16:Int):PV KT:=.agg [.int .i64 none (((zr (Sign.mk a0 a1 a2 a3 a4 a5 a6 a7 a8 a9 a10 a11 a12 a13 a14 a15 a16)).Kind)),.int .i64 none (((zr (Sign.mk a0 a1 a2 a3 a4 a5 a6 a7 a8 a9 a10 a11 a12 a13 a14 a15 a16)).Value)),.int .i64 none (((zr (Sign.mk a0 a1 a2 a3 a4 a5 a6 a7 a8 a9 a10 a11 a12 a13 a14 a15 a16)).Place)),.int .i64 none (((zr (Sign.mk a0 a1 a2 a3 a4 a5 a6 a7 a8 a9 a10 a11 a12 a13 a14 a15 a16)).Acc)),.sb 0 false (((zr (Sign.mk a0 a1 a2 a3 a4 a5 a6 a7 a8 a9 a10 a11 a12 a13 a14 a15 a16)).Color)) (((zr (Sign.mk a0 a1 a2 a3 a4 a5 a6 a7 a8 a9 a10 a11 a12 a13 a14 a15 a16)).Color)=true) (((zr (Sign.mk a0 a1 a2 a3 a4 a5 a6 a7 a8 a9 a10 a11 a12 a13 a14 a15 a16)).Color)=false),.int .i64 none (((zr (Sign.mk a0 a1 a2 a3 a4 a5 a6 a7 a8 a9 a10 a11 a12 a13 a14 a15 a16)).Stem)),.sb 0 false (((zr (Sign.mk a0 a1 a2 a3 a4 a5 a6 a7 a8 a9 a10 a11 a12 a13 a14 a15 a16)).Oblique)) (((zr (Sign.mk a0 a1 a2 a3 a4 a5 a6 a7 a8 a9 a10 a11 a12 a13 a14 a15 a16)).Oblique)=true) (((zr (Sign.mk a0 a1 a2 a3 a4 a5 a6 a7 a8 a9 a10 a11 a12 a13 a14 a15 a16)).Oblique)=false),.sb 0 false (((zr (Sign.mk a0 a1 a2 a3 a4 a5 a6 a7 a8 a9 a10 a11 a12 a13 a14 a15 a16)).Last)) (((zr (Sign.mk a0 a1 a2 a3 a4 a5 a6 a7 a8 a9 a10 a11 a12 a13 a14 a15 a16)).Last)=true) (((zr (Sign.mk a0 a1 a2 a3 a4 a5 a6 a7 a8 a9 a10 a11 a12 a13 a14 a15 a16)).Last)=false),.int .i64 none (((zr (Sign.mk a0 a1 a2 a3 a4 a5 a6 a7 a8 a9 a10 a11 a12 a13 a14 a15 a16)).MensMax)),.int .i64 none (((zr (Sign.mk a0 a1 a2 a3 a4 a5 a6 a7 a8 a9 a10 a11 a12 a13 a14 a15 a16)).MensMod)),.int .i64 none (((zr (Sign.mk a0 a1 a2 a3 a4 a5 a6 a7 a8 a9 a10 a11 a12 a13 a14 a15 a16)).MensTem)),.int .i64 none (((zr (Sign.mk a0 a1 a2 a3 a4 a5 a6 a7 a8 a9 a10 a11 a12 a13 a14 a15 a16)).MensPro)),.sb 0 false (((zr (Sign.mk a0 a1 a2 a3 a4 a5 a6 a7 a8 a9 a10 a11 a12 a13 a14 a15 a16)).Stroke)) (((zr (Sign.mk a0 a1 a2 a3 a4 a5 a6 a7 a8 a9 a10 a11 a12 a13 a14 a15 a16)).Stroke)=true) (((zr (Sign.mk a0 a1 a2 a3 a4 a5 a6 a7 a8 a9 a10 a11 a12 a13 a14 a15 a16)).Stroke)=false),.int .i64 none (((zr (Sign.mk a0 a1 a2 a3 a4 a5 a6 a7 a8 a9 a10 a11 a12 a13 a14 a15 a16)).N)),.int .i64 none (((zr (Sign.mk a0 a1 a2 a3 a4 a5 a6 a7 a8 a9 a10 a11 a12 a13 a14 a15 a16)).D)),.int .i64 none (((zr (Sign.mk a0 a1 a2 a3 a4 a5 a6 a7 a8 a9 a10 a11 a12 a13 a14 a15 a16)).ClefStep)),.int .i64 none (((zr (Sign.mk a0 a1 a2 a3 a4 a5 a6 a7 a8 a9 a10 a11 a12 a13 a14 a15 a16)).ClefLine))]
abbrev q3k (a0:Int) (a1:Int) (a2:Int) (a3:Int) (a4:Bool) (a5:Int) (a6:Bool) (a7:Bool) (a8:Int) (a9:Int) (a10:Int) (a11:Int) (a12:Bool) (a13:Int) (a14:Int) (a15:Int) (a16:Int):Prop:=
((a0=1->
 qe2 a0 a1 a2 a3 a4 a5 a6 a7 a8 a9 a10 a11 a12 a13 a14 a15 a16 a0 a1 a2 a3 a4 0 false false 0 0 0 0 false 0 0 0 0))/\
(a0≠1->
((a0=2->
 qe2 a0 a1 a2 a3 a4 a5 a6 a7 a8 a9 a10 a11 a12 a13 a14 a15 a16 a0 a1 0 0 false 0 false false 0 0 0 0 false 0 0 0 0))/\
(a0≠2->
((a0=4->
 qe2 a0 a1 a2 a3 a4 a5 a6 a7 a8 a9 a10 a11 a12 a13 a14 a15 a16 a0 0 a2 a3 a4 a5 a6 a7 0 0 0 0 false 0 0 0 0))/\
(a0≠4->
((a0=5->
 qe2 a0 a1 a2 a3 a4 a5 a6 a7 a8 a9 a10 a11 a12 a13 a14 a15 a16 a0 0 0 0 false 0 false false a8 a9 a10 a11 a12 0 0 0 0))/\
(a0≠5->
((a0=6->
 qe2 a0 a1 a2 a3 a4 a5 a6 a7 a8 a9 a10 a11 a12 a13 a14 a15 a16 a0 0 0 0 false 0 false false 0 0 0 0 false a13 a14 0 0))/\
(a0≠6->
((a0=7->
 qe2 a0 a1 a2 a3 a4 a5 a6 a7 a8 a9 a10 a11 a12 a13 a14 a15 a16 a0 0 0 0 false 0 false false 0 0 0 0 false 0 0 a15 a16))/\
(a0≠7->
((a0=8->
 qe2 a0 a1 a2 a3 a4 a5 a6 a7 a8 a9 a10 a11 a12 a13 a14 a15 a16 a0 0 0 0 false 0 false false 0 0 0 0 false a13 0 0 0))/\
(a0≠8->
((a0=10->
 qe2 a0 a1 a2 a3 a4 a5 a6 a7 a8 a9 a10 a11 a12 a13 a14 a15 a16 a0 0 0 0 false 0 false false 0 0 0 0 false a13 0 0 0))/\
(a0≠10->
 qe2 a0 a1 a2 a3 a4 a5 a6 a7 a8 a9 a10 a11 a12 a13 a14 a15 a16 a0 0 0 0 false 0 false false 0 0 0 0 false 0 0 0 0))))))))
theorem zov (a0:Int) (a1:Int) (a2:Int) (a3:Int) (a4:Bool) (a5:Int) (a6:Bool) (a7:Bool) (a8:Int) (a9:Int) (a10:Int) (a11:Int) (a12:Bool) (a13:Int) (a14:Int) (a15:Int) (a16:Int):jw (qq XK (jk zld) (fun _ _=>False) (fun _ _=>0)) {cfg sp with ann:=jv []} 3 91 [.agg [.int .i64 none (a0),.int .i64 none (a1),.int .i64 none (a2),.int .i64 none (a3),.sb 0 false (a4) (a4=true) (a4=false),.int .i64 none (a5),.sb 0 false (a6) (a6=true) (a6=false),.sb 0 false (a7) (a7=true) (a7=false),.int .i64 none (a8),.int .i64 none (a9),.int .i64 none (a10),.int .i64 none (a11),.sb 0 false (a12) (a12=true) (a12=false),.int .i64 none (a13),.int .i64 none (a14),.int .i64 none (a15),.int .i64 none (a16)]] (q7p a0 a1 a2 a3 a4 a5 a6 a7 a8 a9 a10 a11 a12 a13 a14 a15 a16)=q3k a0 a1 a2 a3 a4 a5 a6 a7 a8 a9 a10 a11 a12 a13 a14 a15 a16:=by kernel_rfl
def zac:List (Nat×Ct KT):=[]
abbrev qxv (a0:Int) (a1:Int) (a2:Int) (a3:Int) (a4:Bool) (a5:Int) (a6:Bool) (a7:Bool) (a8:Int) (a9:Int) (a10:Int) (a11:Int) (a12:Bool) (a13:Int) (a14:Int) (a15:Int) (a16:Int):PV KT:=.sb 0 false ((decide (qep (Sign.mk a0 a1 a2 a3 a4 a5 a6 a7 a8 a9 a10 a11 a12 a13 a14 a15 a16)))) ((decide (qep (Sign.mk a0 a1 a2 a3 a4 a5 a6 a7 a8 a9 a10 a11 a12 a13 a14 a15 a16)))=true) ((decide (qep (Sign.mk a0 a1 a2 a3 a4 a5 a6 a7 a8 a9 a10 a11 a12 a13 a14 a15 a16)))=false)
abbrev qsq (a0:Int) (a1:Int) (a2:Int) (a3:Int) (a4:Bool) (a5:Int) (a6:Bool) (a7:Bool) (a8:Int) (a9:Int) (a10:Int) (a11:Int) (a12:Bool) (a13:Int) (a14:Int) (a15:Int) (a16:Int):Prop:=
 let l0_:=decide (qep (Sign.mk a0 a1 a2 a3 a4 a5 a6 a7 a8 a9 a10 a11 a12 a13 a14 a15 a16));
((a0=1->
((1<=a1->
((a1<=8->
(((-4)<=a2->
((a2<=12->
(((-1)<=a3->
((decide (a3<=2))=l0_)/\
 True))/\
(a3<(-1)->
(false=l0_)/\
 True)))/\
(12<a2->
(false=l0_)/\
 True)))/\
(a2<(-4)->
(false=l0_)/\
 True)))/\
(8<a1->
(false=l0_)/\
 True)))/\
(a1<1->
(false=l0_)/\
 True)))/\
(a0≠1->
((a0=2->
((1<=a1->
((decide (a1<=8))=l0_)/\
 True))/\
(a1<1->
(false=l0_)/\
 True)))/\
(a0≠2->
((a0=4->
(((-4)<=a2->
((a2<=12->
(((-1)<=a3->
((a3<=2->
((0<=a5->
((decide (a5<=3))=l0_)/\
 True))/\
(a5<0->
(false=l0_)/\
 True)))/\
(2<a3->
(false=l0_)/\
 True)))/\
(a3<(-1)->
(false=l0_)/\
 True)))/\
(12<a2->
(false=l0_)/\
 True)))/\
(a2<(-4)->
(false=l0_)/\
 True)))/\
(a0≠4->
((a0=6->
((1<=a13->
((a13<=100->
((1<=a14->
((decide (a14<=100))=l0_)/\
 True))/\
(a14<1->
(false=l0_)/\
 True)))/\
(100<a13->
(false=l0_)/\
 True)))/\
(a13<1->
(false=l0_)/\
 True)))/\
(a0≠6->
((a0=7->
((a15=0->
((1<=a16->
((decide (a16<=5))=l0_)/\
 True))/\
(a16<1->
(false=l0_)/\
 True)))/\
(a15≠0->
((a15=3->
((1<=a16->
((decide (a16<=5))=l0_)/\
 True))/\
(a16<1->
(false=l0_)/\
 True)))/\
(a15≠3->
((a15=4->
((1<=a16->
((decide (a16<=5))=l0_)/\
 True))/\
(a16<1->
(false=l0_)/\
 True)))/\
(a15≠4->
(false=l0_)/\
 True)))))/\
(a0≠7->
((a0=8->
((0<=a13->
((decide (a13<=2))=l0_)/\
 True))/\
(a13<0->
(false=l0_)/\
 True)))/\
(a0≠8->
((a0=10->
((2<=a13->
((decide (a13<=4))=l0_)/\
 True))/\
(a13<2->
(false=l0_)/\
 True)))/\
(a0≠10->
(true=l0_)/\
 True)))))))
theorem zft (a0:Int) (a1:Int) (a2:Int) (a3:Int) (a4:Bool) (a5:Int) (a6:Bool) (a7:Bool) (a8:Int) (a9:Int) (a10:Int) (a11:Int) (a12:Bool) (a13:Int) (a14:Int) (a15:Int) (a16:Int):jw (qq XK (jk zac) (fun _ _=>False) (fun _ _=>0)) {cfg sp with ann:=jv []} 3 93 [.agg [.int .i64 none (a0),.int .i64 none (a1),.int .i64 none (a2),.int .i64 none (a3),.sb 0 false (a4) (a4=true) (a4=false),.int .i64 none (a5),.sb 0 false (a6) (a6=true) (a6=false),.sb 0 false (a7) (a7=true) (a7=false),.int .i64 none (a8),.int .i64 none (a9),.int .i64 none (a10),.int .i64 none (a11),.sb 0 false (a12) (a12=true) (a12=false),.int .i64 none (a13),.int .i64 none (a14),.int .i64 none (a15),.int .i64 none (a16)]] (qxv a0 a1 a2 a3 a4 a5 a6 a7 a8 a9 a10 a11 a12 a13 a14 a15 a16)=qsq a0 a1 a2 a3 a4 a5 a6 a7 a8 a9 a10 a11 a12 a13 a14 a15 a16:=by kernel_rfl
def zgi:List (Nat×Ct KT):=[(91,zp9),(92,zmp),(93,zqa)]
abbrev q30 (a0:Int) (a1:Int) (a2:Int) (a3:Int) (a4:Bool) (a5:Int) (a6:Bool) (a7:Bool) (a8:Int) (a9:Int) (a10:Int) (a11:Int) (a12:Bool) (a13:Int) (a14:Int) (a15:Int) (a16:Int):PV KT:=.int .i64 none ((zn (Sign.mk a0 a1 a2 a3 a4 a5 a6 a7 a8 a9 a10 a11 a12 a13 a14 a15 a16)))
abbrev q1u (a0:Int) (a1:Int) (a2:Int) (a3:Int) (a4:Bool) (a5:Int) (a6:Bool) (a7:Bool) (a8:Int) (a9:Int) (a10:Int) (a11:Int) (a12:Bool) (a13:Int) (a14:Int) (a15:Int) (a16:Int):Prop:=
 let l0_:=Sign.mk a0 a1 a2 a3 a4 a5 a6 a7 a8 a9 a10 a11 a12 a13 a14 a15 a16;
 let l1_:=zr l0_;
((a0<1->
((8:Int)=(zn l0_))/\
 True))/\
(1<=a0->
((12<a0->
((8:Int)=(zn l0_))/\
 True))/\
(a0<=12->
(True)/\
((((l1_.Kind)≠a0∨((l1_.Value)≠a1∨((l1_.Place)≠a2∨((l1_.Acc)≠a3∨((l1_.Color)≠a4∨((l1_.Stem)≠a5∨((l1_.Oblique)≠a6∨((l1_.Last)≠a7∨((l1_.MensMax)≠a8∨((l1_.MensMod)≠a9∨((l1_.MensTem)≠a10∨((l1_.MensPro)≠a11∨((l1_.Stroke)≠a12∨((l1_.N)≠a13∨((l1_.D)≠a14∨((l1_.ClefStep)≠a15∨(l1_.ClefLine)≠a16))))))))))))))))->
((3:Int)=(zn l0_))/\
 True))/\
(((l1_.Kind)=a0/\((l1_.Value)=a1/\((l1_.Place)=a2/\((l1_.Acc)=a3/\((l1_.Color)=a4/\((l1_.Stem)=a5/\((l1_.Oblique)=a6/\((l1_.Last)=a7/\((l1_.MensMax)=a8/\((l1_.MensMod)=a9/\((l1_.MensTem)=a10/\((l1_.MensPro)=a11/\((l1_.Stroke)=a12/\((l1_.N)=a13/\((l1_.D)=a14/\((l1_.ClefStep)=a15/\(l1_.ClefLine)=a16))))))))))))))))->
((a0=5->
(True)/\
(((qa0 a8 a9 a10 a11)≠0->
((12:Int)=(zn l0_))/\
 True))/\
((qa0 a8 a9 a10 a11)=0->
(True)/\
(((decide (qep l0_))=false->
((2:Int)=(zn l0_))/\
 True))/\
((decide (qep l0_))=true->
((a6=true->
((a7=true->
((3:Int)=(zn l0_))/\
 True))/\
(a7=false->
((0:Int)=(zn l0_))/\
 True)))/\
(a6=false->
((0:Int)=(zn l0_))/\
 True)))))/\
(a0≠5->
(True)/\
(((decide (qep l0_))=false->
((2:Int)=(zn l0_))/\
 True))/\
((decide (qep l0_))=true->
((a6=true->
((a7=true->
((3:Int)=(zn l0_))/\
 True))/\
(a7=false->
((0:Int)=(zn l0_))/\
 True)))/\
(a6=false->
((0:Int)=(zn l0_))/\
 True))))))
theorem zlu (a0:Int) (a1:Int) (a2:Int) (a3:Int) (a4:Bool) (a5:Int) (a6:Bool) (a7:Bool) (a8:Int) (a9:Int) (a10:Int) (a11:Int) (a12:Bool) (a13:Int) (a14:Int) (a15:Int) (a16:Int):jw (qq XK (jk zgi) (fun _ _=>False) (fun _ _=>0)) {cfg sp with ann:=jv []} 6 36 [.agg [.int .i64 none (a0),.int .i64 none (a1),.int .i64 none (a2),.int .i64 none (a3),.sb 0 false (a4) (a4=true) (a4=false),.int .i64 none (a5),.sb 0 false (a6) (a6=true) (a6=false),.sb 0 false (a7) (a7=true) (a7=false),.int .i64 none (a8),.int .i64 none (a9),.int .i64 none (a10),.int .i64 none (a11),.sb 0 false (a12) (a12=true) (a12=false),.int .i64 none (a13),.int .i64 none (a14),.int .i64 none (a15),.int .i64 none (a16)]] (q30 a0 a1 a2 a3 a4 a5 a6 a7 a8 a9 a10 a11 a12 a13 a14 a15 a16)=q1u a0 a1 a2 a3 a4 a5 a6 a7 a8 a9 a10 a11 a12 a13 a14 a15 a16:=by kernel_rfl
end Go.Proofs.YtbopmiclcimjgaaGreatDoor
