import Derived.Test.YtbopmiclcimjgaaGreatDoorCts
namespace Go.Proofs.YtbopmiclcimjgaaGreatDoor
open Go Go.E2 Go.E3
set_option maxRecDepth 100000
variable {sp:Nat->Option (List V->Heap->Option (CR×Heap))}
def zed:List (Nat×Ct KT):=[]
abbrev qzw (a0:Int):PV KT:=.int .u8 none ((j6 a0))
abbrev q4o (a0:Int):Prop:=
(I64 a0)/\
((127<=a0->
((120:Int)=(j6 a0))/\
 True))/\
(a0<127->
(Wn a0 (ln ([120,120,120,120,120,120,120,120,120,120,120,120,120,120,120,120,120,120,120,120,120,120,120,120,120,120,120,120,120,120,120,120,32,112,113,112,112,112,112,112,112,112,112,112,112,112,112,112,112,112,112,112,112,112,112,112,112,112,112,99,112,112,112,112,112,112,112,112,112,112,112,112,112,112,112,112,112,112,112,112,112,112,112,112,112,112,112,112,112,112,112,112,112,112,112,112,112,112,112,112,112,112,112,112,112,112,112,112,112,112,112,112,112,112,112,112,112,112,112,112,112,112,112,112,112,112,112]:ZB)))/\
(((bx ([120,120,120,120,120,120,120,120,120,120,120,120,120,120,120,120,120,120,120,120,120,120,120,120,120,120,120,120,120,120,120,120,32,112,113,112,112,112,112,112,112,112,112,112,112,112,112,112,112,112,112,112,112,112,112,112,112,112,112,99,112,112,112,112,112,112,112,112,112,112,112,112,112,112,112,112,112,112,112,112,112,112,112,112,112,112,112,112,112,112,112,112,112,112,112,112,112,112,112,112,112,112,112,112,112,112,112,112,112,112,112,112,112,112,112,112,112,112,112,112,112,112,112,112,112,112,112]:ZB) a0):Int)=(j6 a0))/\
 True)
theorem zhh (a0:Int):jw (qq XK (jk zed) (fun _ _=>False) (fun _ _=>0)) {cfg sp with ann:=jv []} 3 108 [.int .u8 none (a0)] (qzw a0)=q4o a0:=by kernel_rfl
def zaa:List (Nat×Ct KT):=[(108,za9)]
abbrev qxt (a0:ZB):PV KT:=.sb 0 false ((qaq a0)) ((qaq a0)=true) ((qaq a0)=false)
abbrev q05 (a0:ZB):Prop:=
(qh9 a0 0)/\
(∀ x0:Int,
(qh9 a0 x0->
((x0<(ln a0)->
(Wn x0 (ln a0))/\
((U8 (bx a0 x0)))/\
(((j6 (bx a0 x0))=120->
(false=(qaq a0))/\
 True))/\
((j6 (bx a0 x0))≠120->
(((j6 (bx a0 x0))=113->
(false=(qaq a0))/\
 True))/\
((j6 (bx a0 x0))≠113->
(I64 (x0+1))/\
(qh9 a0 (x0+1))/\
 qhh a0 (x0+1)<qhh a0 x0))))/\
((ln a0)<=x0->
(true=(qaq a0))/\
 True)))
theorem zfq (a0:ZB):jw (qq XK (jk zaa) (fun j ns=>match j,ns with | 0,[.i y0]=>qh9 a0 y0 | _,_=>False) (fun j ns=>match j,ns with | 0,[.i y0]=>qhh a0 y0 | _,_=>0)) {cfg sp with ann:=jv [(109,26,.inv 0 [.one 7 (.int .i64)] [])]} 3 109 [.str (a0)] (qxt a0)=q05 a0:=by kernel_rfl
def q2h:List (Nat×Ct KT):=[(145,zh8),(137,zbc)]
abbrev qqf (a0:ZB) (a1:ZB) (a2:Int) (a3:Int):PV KT:=.list 2 ((qz (bx a1 0) a0)) none
abbrev qmm (a0:ZB) (a1:ZB) (a2:Int) (a3:Int):Prop:=
 let l4_:=0+(ln a1);
 let l1_:=if ((ln a0)+1)<a3 then ((ln a0)+1) else a3;
 let l0_:=if ((ln a0)+1)<((qks a0 (bx a1 0))+1) then ((ln a0)+1) else ((qks a0 (bx a1 0))+1);
((a3=0->
(([]:List ZB)=(qz (bx a1 0) a0))/\
 True))/\
(a3≠0->
((a1=([]:ZB)->
 False /- operation -/))/\
(a1≠([]:ZB)->
((a3<0->
(((ln a1)=0->
 False /- operation -/))/\
((ln a1)≠0->
(((ln a1)=1->
(Wn 0 (ln a1))/\
(True)/\
(I64 ((qks a0 (bx a1 0))+1))/\
(I64 ((ln a0)+1))/\
((l0_:Int)=l0_)/\
(Wn l0_ 1000000000)/\
(True)/\
(I64 (l0_-1))/\
(kk a0 a1 a2 a3 a0 0 (List.replicate (Int.toNat l0_) ([]:ZB)))/\
(∀ x5:ZB,
(∀ x6:Int,
(∀ x7:List ZB,
 let l2_:=List.set x7 (Int.toNat x6) x5;
(kk a0 a1 a2 a3 x5 x6 x7->
((x6<(l0_-1)->
(((ln a1)=0->
(I64 (0+a2))/\
((0:Int)<=(0+a2)/\(0+a2)<=ln x5)/\
(Wn x6 l0_)/\
(l0_<=(ln x7))/\
(True)/\
(I64 l4_)/\
((0:Int)<=l4_/\l4_<=ln x5)/\
(I64 (x6+1))/\
(kk a0 a1 a2 a3 (fr x5 l4_) (x6+1) (List.set x7 (Int.toNat x6) (upto x5 (0+a2))))/\
 kf a0 a1 a2 a3 (fr x5 l4_) (x6+1) (List.set x7 (Int.toNat x6) (upto x5 (0+a2)))<kf a0 a1 a2 a3 x5 x6 x7))/\
((ln a1)≠0->
((a1=x5->
(I64 (0+a2))/\
((0:Int)<=(0+a2)/\(0+a2)<=ln x5)/\
(Wn x6 l0_)/\
(l0_<=(ln x7))/\
(True)/\
(I64 l4_)/\
((0:Int)<=l4_/\l4_<=ln x5)/\
(I64 (x6+1))/\
(kk a0 a1 a2 a3 (fr x5 l4_) (x6+1) (List.set x7 (Int.toNat x6) (upto x5 (0+a2))))/\
 kf a0 a1 a2 a3 (fr x5 l4_) (x6+1) (List.set x7 (Int.toNat x6) (upto x5 (0+a2)))<kf a0 a1 a2 a3 x5 x6 x7))/\
(a1≠x5->
(((ln a1)=1->
(Wn 0 (ln a1))/\
(True)/\
(((jh x5 (bx a1 0))<0->
(Wn x6 l0_)/\
(l0_<=(ln x7))/\
(True)/\
(I64 (x6+1))/\
((l0_:Int)=(ln l2_))/\
((0:Int)<=(x6+1)/\(x6+1)<=ln l2_)/\
((upto l2_ (x6+1))=(qz (bx a1 0) a0))/\
 True))/\
(0<=(jh x5 (bx a1 0))->
(I64 ((jh x5 (bx a1 0))+a2))/\
((0:Int)<=((jh x5 (bx a1 0))+a2)/\((jh x5 (bx a1 0))+a2)<=ln x5)/\
(Wn x6 l0_)/\
(l0_<=(ln x7))/\
(True)/\
(I64 ((jh x5 (bx a1 0))+(ln a1)))/\
((0:Int)<=((jh x5 (bx a1 0))+(ln a1))/\((jh x5 (bx a1 0))+(ln a1))<=ln x5)/\
(I64 (x6+1))/\
(kk a0 a1 a2 a3 (fr x5 ((jh x5 (bx a1 0))+(ln a1))) (x6+1) (List.set x7 (Int.toNat x6) (upto x5 ((jh x5 (bx a1 0))+a2))))/\
 kf a0 a1 a2 a3 (fr x5 ((jh x5 (bx a1 0))+(ln a1))) (x6+1) (List.set x7 (Int.toNat x6) (upto x5 ((jh x5 (bx a1 0))+a2)))<kf a0 a1 a2 a3 x5 x6 x7)))/\
((ln a1)≠1->
(((ln x5)<=(ln a1)->
(Wn x6 l0_)/\
(l0_<=(ln x7))/\
(True)/\
(I64 (x6+1))/\
((l0_:Int)=(ln l2_))/\
((0:Int)<=(x6+1)/\(x6+1)<=ln l2_)/\
((upto l2_ (x6+1))=(qz (bx a1 0) a0))/\
 True))/\
((ln a1)<(ln x5)->
 False /- operand -/))))))/\
((l0_-1)<=x6->
(Wn x6 l0_)/\
(l0_<=(ln x7))/\
(True)/\
(I64 (x6+1))/\
((l0_:Int)=(ln l2_))/\
((0:Int)<=(x6+1)/\(x6+1)<=ln l2_)/\
((upto l2_ (x6+1))=(qz (bx a1 0) a0))/\
 True)))))))/\
((ln a1)≠1->
 False /- loop -/))))/\
(0<=a3->
(I64 ((ln a0)+1))/\
((l1_:Int)=l1_)/\
(Wn l1_ 1000000000)/\
(True)/\
(I64 (l1_-1))/\
(kk a0 a1 a2 a3 a0 0 (List.replicate (Int.toNat l1_) ([]:ZB)))/\
(∀ x3:ZB,
(∀ x4:Int,
(∀ x5:List ZB,
 let l3_:=List.set x5 (Int.toNat x4) x3;
(kk a0 a1 a2 a3 x3 x4 x5->
((x4<(l1_-1)->
(((ln a1)=0->
(I64 (0+a2))/\
((0:Int)<=(0+a2)/\(0+a2)<=ln x3)/\
(Wn x4 l1_)/\
(l1_<=(ln x5))/\
(True)/\
(I64 l4_)/\
((0:Int)<=l4_/\l4_<=ln x3)/\
(I64 (x4+1))/\
(kk a0 a1 a2 a3 (fr x3 l4_) (x4+1) (List.set x5 (Int.toNat x4) (upto x3 (0+a2))))/\
 kf a0 a1 a2 a3 (fr x3 l4_) (x4+1) (List.set x5 (Int.toNat x4) (upto x3 (0+a2)))<kf a0 a1 a2 a3 x3 x4 x5))/\
((ln a1)≠0->
((a1=x3->
(I64 (0+a2))/\
((0:Int)<=(0+a2)/\(0+a2)<=ln x3)/\
(Wn x4 l1_)/\
(l1_<=(ln x5))/\
(True)/\
(I64 l4_)/\
((0:Int)<=l4_/\l4_<=ln x3)/\
(I64 (x4+1))/\
(kk a0 a1 a2 a3 (fr x3 l4_) (x4+1) (List.set x5 (Int.toNat x4) (upto x3 (0+a2))))/\
 kf a0 a1 a2 a3 (fr x3 l4_) (x4+1) (List.set x5 (Int.toNat x4) (upto x3 (0+a2)))<kf a0 a1 a2 a3 x3 x4 x5))/\
(a1≠x3->
(((ln a1)=1->
(Wn 0 (ln a1))/\
(True)/\
(((jh x3 (bx a1 0))<0->
(Wn x4 l1_)/\
(l1_<=(ln x5))/\
(True)/\
(I64 (x4+1))/\
((l1_:Int)=(ln l3_))/\
((0:Int)<=(x4+1)/\(x4+1)<=ln l3_)/\
((upto l3_ (x4+1))=(qz (bx a1 0) a0))/\
 True))/\
(0<=(jh x3 (bx a1 0))->
(I64 ((jh x3 (bx a1 0))+a2))/\
((0:Int)<=((jh x3 (bx a1 0))+a2)/\((jh x3 (bx a1 0))+a2)<=ln x3)/\
(Wn x4 l1_)/\
(l1_<=(ln x5))/\
(True)/\
(I64 ((jh x3 (bx a1 0))+(ln a1)))/\
((0:Int)<=((jh x3 (bx a1 0))+(ln a1))/\((jh x3 (bx a1 0))+(ln a1))<=ln x3)/\
(I64 (x4+1))/\
(kk a0 a1 a2 a3 (fr x3 ((jh x3 (bx a1 0))+(ln a1))) (x4+1) (List.set x5 (Int.toNat x4) (upto x3 ((jh x3 (bx a1 0))+a2))))/\
 kf a0 a1 a2 a3 (fr x3 ((jh x3 (bx a1 0))+(ln a1))) (x4+1) (List.set x5 (Int.toNat x4) (upto x3 ((jh x3 (bx a1 0))+a2)))<kf a0 a1 a2 a3 x3 x4 x5)))/\
((ln a1)≠1->
(((ln x3)<=(ln a1)->
(Wn x4 l1_)/\
(l1_<=(ln x5))/\
(True)/\
(I64 (x4+1))/\
((l1_:Int)=(ln l3_))/\
((0:Int)<=(x4+1)/\(x4+1)<=ln l3_)/\
((upto l3_ (x4+1))=(qz (bx a1 0) a0))/\
 True))/\
((ln a1)<(ln x3)->
 False /- operand -/))))))/\
((l1_-1)<=x4->
(Wn x4 l1_)/\
(l1_<=(ln x5))/\
(True)/\
(I64 (x4+1))/\
((l1_:Int)=(ln l3_))/\
((0:Int)<=(x4+1)/\(x4+1)<=ln l3_)/\
((upto l3_ (x4+1))=(qz (bx a1 0) a0))/\
 True))))))))
theorem q5q (a0:ZB) (a1:ZB) (a2:Int) (a3:Int):jw (qq XK (jk q2h) (fun j ns=>match j,ns with | 0,[.s y0,.i y1,.l 2 y2]=>kk a0 a1 a2 a3 y0 y1 y2 | _,_=>False) (fun j ns=>match j,ns with | 0,[.s y0,.i y1,.l 2 y2]=>kf a0 a1 a2 a3 y0 y1 y2 | _,_=>0)) {cfg sp with ann:=jv [(106,2044,.inv 0 [.one 0 (.str),.one 10 (.int .i64),.elems 31] [])]} 3 106 [.str (a0),.str (a1),.int .i64 none (a2),.int .i64 none (a3)] (qqf a0 a1 a2 a3)=qmm a0 a1 a2 a3:=by kernel_rfl
def zdu:List (Nat×Ct KT):=[(106,zho)]
abbrev qzo (a0:ZB) (a1:ZB):PV KT:=.list 2 ((qz (bx a1 0) a0)) none
abbrev q4b (a0:ZB) (a1:ZB):Prop:=
((ln a1=1/\(0:Int)=0/\((-1):Int) = -1/\ln a0<=100000000))/\
((qz (bx a1 0) a0)=(qz (bx a1 0) a0))/\
 True
theorem zg3 (a0:ZB) (a1:ZB):jw (qq XK (jk zdu) (fun _ _=>False) (fun _ _=>0)) {cfg sp with ann:=jv []} 3 55 [.str (a0),.str (a1)] (qzo a0 a1)=q4b a0 a1:=by kernel_rfl
def q94:List (Nat×Ct KT):=[]
abbrev qxo (a0:Int):PV KT:=.sb 0 false ((ke a0)) ((ke a0)=true) ((ke a0)=false)
abbrev q03 (a0:Int):Prop:=
((33<=a0->
((a0<=126->
((a0≠59->
((!(decide (a0=34)))=(ke a0))/\
 True))/\
(a0=59->
(false=(ke a0))/\
 True)))/\
(126<a0->
(false=(ke a0))/\
 True)))/\
(a0<33->
(false=(ke a0))/\
 True)
theorem zfm (a0:Int):jw (qq XK (jk q94) (fun _ _=>False) (fun _ _=>0)) {cfg sp with ann:=jv []} 3 129 [.int .u8 none (a0)] (qxo a0)=q03 a0:=by kernel_rfl
def q5x:List (Nat×Ct KT):=[]
abbrev qty (a0:Int):PV KT:=.sb 0 false ((zs a0)) ((zs a0)=true) ((zs a0)=false)
abbrev qw9 (a0:Int):Prop:=
((32<=a0->
((a0<=126->
((!(decide (a0=34)))=(zs a0))/\
 True))/\
(126<a0->
(false=(zs a0))/\
 True)))/\
(a0<32->
(false=(zs a0))/\
 True)
theorem q9m (a0:Int):jw (qq XK (jk q5x) (fun _ _=>False) (fun _ _=>0)) {cfg sp with ann:=jv []} 3 141 [.int .u8 none (a0)] (qty a0)=qw9 a0:=by kernel_rfl
def q6y:List (Nat×Ct KT):=[(141,zh6)]
abbrev qua (a0:ZB) (a1:Int):PV KT:=.int .i64 none ((km a0 a1))
abbrev qpe (a0:ZB) (a1:Int):Prop:=
 let l0_:=km a0 a1;
((0<a1->
(I64 (a1-1))/\
(Wn (a1-1) (ln a0))/\
(((bx a0 (a1-1))≠32->
(((-1):Int)=l0_)/\
 True))/\
((bx a0 (a1-1))=32->
(I64 (a1+1))/\
(qbv a0 a1 (a1+1))/\
(∀ x2:Int,
(qbv a0 a1 x2->
((x2<(ln a0)->
(Wn x2 (ln a0))/\
(True)/\
(((zs (bx a0 x2))=true->
(I64 (x2+1))/\
(qbv a0 a1 (x2+1))/\
 qcz a0 a1 (x2+1)<qcz a0 a1 x2))/\
((zs (bx a0 x2))=false->
((x2=(ln a0)->
(((-1):Int)=l0_)/\
 True))/\
(x2≠(ln a0)->
(Wn x2 (ln a0))/\
(((bx a0 x2)≠34->
(((-1):Int)=l0_)/\
 True))/\
((bx a0 x2)=34->
(I64 (x2+1))/\
(((x2+1)=(ln a0)->
(I64 (x2+1))/\
(((x2+1):Int)=l0_)/\
 True))/\
((x2+1)≠(ln a0)->
(Wn (x2+1) (ln a0))/\
(((bx a0 (x2+1))=32->
(I64 (x2+1))/\
(((x2+1):Int)=l0_)/\
 True))/\
((bx a0 (x2+1))≠32->
(Wn (x2+1) (ln a0))/\
(((bx a0 (x2+1))≠59->
(((-1):Int)=l0_)/\
 True))/\
((bx a0 (x2+1))=59->
(I64 (x2+1))/\
(((x2+1):Int)=l0_)/\
 True))))))))/\
((ln a0)<=x2->
((x2=(ln a0)->
(((-1):Int)=l0_)/\
 True))/\
(x2≠(ln a0)->
(Wn x2 (ln a0))/\
(((bx a0 x2)≠34->
(((-1):Int)=l0_)/\
 True))/\
((bx a0 x2)=34->
(I64 (x2+1))/\
(((x2+1)=(ln a0)->
(I64 (x2+1))/\
(((x2+1):Int)=l0_)/\
 True))/\
((x2+1)≠(ln a0)->
(Wn (x2+1) (ln a0))/\
(((bx a0 (x2+1))=32->
(I64 (x2+1))/\
(((x2+1):Int)=l0_)/\
 True))/\
((bx a0 (x2+1))≠32->
(Wn (x2+1) (ln a0))/\
(((bx a0 (x2+1))≠59->
(((-1):Int)=l0_)/\
 True))/\
((bx a0 (x2+1))=59->
(I64 (x2+1))/\
(((x2+1):Int)=l0_)/\
 True)))))))))))/\
(a1<=0->
(I64 (a1+1))/\
(qbv a0 a1 (a1+1))/\
(∀ x1:Int,
(qbv a0 a1 x1->
((x1<(ln a0)->
(Wn x1 (ln a0))/\
(True)/\
(((zs (bx a0 x1))=true->
(I64 (x1+1))/\
(qbv a0 a1 (x1+1))/\
 qcz a0 a1 (x1+1)<qcz a0 a1 x1))/\
((zs (bx a0 x1))=false->
((x1=(ln a0)->
(((-1):Int)=l0_)/\
 True))/\
(x1≠(ln a0)->
(Wn x1 (ln a0))/\
(((bx a0 x1)≠34->
(((-1):Int)=l0_)/\
 True))/\
((bx a0 x1)=34->
(I64 (x1+1))/\
(((x1+1)=(ln a0)->
(I64 (x1+1))/\
(((x1+1):Int)=l0_)/\
 True))/\
((x1+1)≠(ln a0)->
(Wn (x1+1) (ln a0))/\
(((bx a0 (x1+1))=32->
(I64 (x1+1))/\
(((x1+1):Int)=l0_)/\
 True))/\
((bx a0 (x1+1))≠32->
(Wn (x1+1) (ln a0))/\
(((bx a0 (x1+1))≠59->
(((-1):Int)=l0_)/\
 True))/\
((bx a0 (x1+1))=59->
(I64 (x1+1))/\
(((x1+1):Int)=l0_)/\
 True))))))))/\
((ln a0)<=x1->
((x1=(ln a0)->
(((-1):Int)=l0_)/\
 True))/\
(x1≠(ln a0)->
(Wn x1 (ln a0))/\
(((bx a0 x1)≠34->
(((-1):Int)=l0_)/\
 True))/\
((bx a0 x1)=34->
(I64 (x1+1))/\
(((x1+1)=(ln a0)->
(I64 (x1+1))/\
(((x1+1):Int)=l0_)/\
 True))/\
((x1+1)≠(ln a0)->
(Wn (x1+1) (ln a0))/\
(((bx a0 (x1+1))=32->
(I64 (x1+1))/\
(((x1+1):Int)=l0_)/\
 True))/\
((bx a0 (x1+1))≠32->
(Wn (x1+1) (ln a0))/\
(((bx a0 (x1+1))≠59->
(((-1):Int)=l0_)/\
 True))/\
((bx a0 (x1+1))=59->
(I64 (x1+1))/\
(((x1+1):Int)=l0_)/\
 True)))))))))
theorem q99 (a0:ZB) (a1:Int):jw (qq XK (jk q6y) (fun j ns=>match j,ns with | 0,[.i y0]=>qbv a0 a1 y0 | _,_=>False) (fun j ns=>match j,ns with | 0,[.i y0]=>qcz a0 a1 y0 | _,_=>0)) {cfg sp with ann:=jv [(128,60,.inv 0 [.one 5 (.int .i64)] [])]} 3 128 [.str (a0),.int .i64 none (a1)] (qua a0 a1)=qpe a0 a1:=by kernel_rfl
def zia:List (Nat×Ct KT):=[(128,zhy),(129,zh0)]
abbrev q4y (a0:ZB) (a1:Int):PV KT:=.tuple [.list 5 (((kb a0 a1 0).1)) (some (0,0)),.int .i64 none (((kb a0 a1 0).2))]
abbrev q2c (a0:ZB) (a1:Int):Prop:=
(qd6 a0 a1 ([]:List Word) 0)/\
(∀ x0:List Word,
(∀ x1:Int,
(qd6 a0 a1 x0 x1->
((x1<(ln a0)->
(Wn x1 (ln a0))/\
(((bx a0 x1)≠59->
(Wn x1 (ln a0))/\
(((bx a0 x1)=32->
(I64 (x1+1))/\
(qd6 a0 a1 x0 (x1+1))/\
 qb0 a0 a1 x0 (x1+1)<qb0 a0 a1 x0 x1))/\
((bx a0 x1)≠32->
(Wn x1 (ln a0))/\
(((bx a0 x1)=34->
((0<=x1/\x1<ln a0/\ln a0<=1000000000))/\
(((km a0 x1)<0->
(([]:List Word)=((kb a0 a1 0).1))/\
((x1:Int)=((kb a0 a1 0).2))/\
 True))/\
(0<=(km a0 x1)->
(I64 (a1+x1))/\
(I64 (x1+1))/\
(I64 ((km a0 x1)-1))/\
((0:Int)<=(x1+1)/\((x1+1):Int)<=((km a0 x1)-1)/\((km a0 x1)-1)<=ln a0)/\
(True)/\
(zk (List.length x0+List.length [(Word.mk (a1+x1) (sub a0 (x1+1) ((km a0 x1)-1)) true)]))/\
(qd6 a0 a1 (x0++[(Word.mk (a1+x1) (sub a0 (x1+1) ((km a0 x1)-1)) true)]) (km a0 x1))/\
 qb0 a0 a1 (x0++[(Word.mk (a1+x1) (sub a0 (x1+1) ((km a0 x1)-1)) true)]) (km a0 x1)<qb0 a0 a1 x0 x1)))/\
((bx a0 x1)≠34->
(Wn x1 (ln a0))/\
(True)/\
(((ke (bx a0 x1))=true->
(qi7 a0 a1 x1 x1)/\
(∀ x8:Int,
 let l0_:=Word.mk (a1+x1) (sub a0 x1 x8) false;
(qi7 a0 a1 x8 x1->
((x8<(ln a0)->
(Wn x8 (ln a0))/\
(True)/\
(((ke (bx a0 x8))=true->
(I64 (x8+1))/\
(qi7 a0 a1 (x8+1) x1)/\
 qj6 a0 a1 (x8+1) x1<qj6 a0 a1 x8 x1))/\
((ke (bx a0 x8))=false->
(I64 (a1+x1))/\
((0:Int)<=x1/\(x1:Int)<=x8/\x8<=ln a0)/\
(True)/\
(zk (List.length x0+List.length [l0_]))/\
(qd6 a0 a1 (x0++[l0_]) x8)/\
 qb0 a0 a1 (x0++[l0_]) x8<qb0 a0 a1 x0 x1)))/\
((ln a0)<=x8->
(I64 (a1+x1))/\
((0:Int)<=x1/\(x1:Int)<=x8/\x8<=ln a0)/\
(True)/\
(zk (List.length x0+List.length [l0_]))/\
(qd6 a0 a1 (x0++[l0_]) x8)/\
 qb0 a0 a1 (x0++[l0_]) x8<qb0 a0 a1 x0 x1)))))/\
((ke (bx a0 x1))=false->
(([]:List Word)=((kb a0 a1 0).1))/\
((x1:Int)=((kb a0 a1 0).2))/\
 True)))))/\
((bx a0 x1)=59->
(x0=((kb a0 a1 0).1))/\
(((-1):Int)=((kb a0 a1 0).2))/\
 True)))/\
((ln a0)<=x1->
(x0=((kb a0 a1 0).1))/\
(((-1):Int)=((kb a0 a1 0).2))/\
 True))))
theorem zmu (a0:ZB) (a1:Int):jw (qq XK (jk zia) (fun j ns=>match j,ns with | 0,[.l 5 y0,.i y1]=>qd6 a0 a1 y0 y1 | 1,[.i y0,.i y1]=>qi7 a0 a1 y0 y1 | _,_=>False) (fun j ns=>match j,ns with | 0,[.l 5 y0,.i y1]=>qb0 a0 a1 y0 y1 | 1,[.i y0,.i y1]=>qj6 a0 a1 y0 y1 | _,_=>0)) {cfg sp with ann:=jv [(104,60,.inv 0 [.one 6 (.list 5 true false),.one 7 (.int .i64)] []),(104,494068,.inv 1 [.one 9 (.int .i64)] [.one 7 (.int .i64)])]} 3 104 [.str (a0),.int .i64 none (a1)] (q4y a0 a1)=q2c a0 a1:=by kernel_rfl
def zdq:List (Nat×Ct KT):=[(104,zhm)]
abbrev qzk (a0:ZB):PV KT:=.tuple [.list 6 (((qa a0).1)) (some (0,0)),.agg [.int .i64 none (((qa a0).2.1)),.int .i64 none (((qa a0).2.2))]]
abbrev qvo (a0:ZB):Prop:=
((20000<(ln a0)->
(([]:List Row)=((qa a0).1))/\
((4:Int)=((qa a0).2.1))/\
((20000:Int)=((qa a0).2.2))/\
 True))/\
((ln a0)<=20000->
(qc5 a0 ([]:List Row) 0)/\
(∀ x1:List Row,
(∀ x2:Int,
(qc5 a0 x1 x2->
((x2<=(ln a0)->
(qhn a0 x2 x2)/\
(∀ x5:Int,
 let l0_:=kb (sub a0 x2 x5) x2 0;
(qhn a0 x5 x2->
((x5<(ln a0)->
(Wn x5 (ln a0))/\
(((bx a0 x5)≠10->
(I64 (x5+1))/\
(qhn a0 (x5+1) x2)/\
 qie a0 (x5+1) x2<qie a0 x5 x2))/\
((bx a0 x5)=10->
(I64 (x5-x2))/\
((1000<(x5-x2)->
(([]:List Row)=((qa a0).1))/\
((4:Int)=((qa a0).2.1))/\
((x2:Int)=((qa a0).2.2))/\
 True))/\
((x5-x2)<=1000->
((0:Int)<=x2/\(x2:Int)<=x5/\x5<=ln a0)/\
((ln (sub a0 x2 x5)<=1000/\0<=x2/\x2<=100000))/\
((0<=(l0_.2)->
(I64 (x2+(l0_.2)))/\
(([]:List Row)=((qa a0).1))/\
((3:Int)=((qa a0).2.1))/\
(((x2+(l0_.2)):Int)=((qa a0).2.2))/\
 True))/\
((l0_.2)<0->
((0<(ln (l0_.1))->
(True)/\
(zk (List.length x1+List.length [(Row.mk x2 (l0_.1))]))/\
(I64 (x5+1))/\
(qc5 a0 (x1++[(Row.mk x2 (l0_.1))]) (x5+1))/\
 qa6 a0 (x1++[(Row.mk x2 (l0_.1))]) (x5+1)<qa6 a0 x1 x2))/\
((ln (l0_.1))<=0->
(I64 (x5+1))/\
(qc5 a0 x1 (x5+1))/\
 qa6 a0 x1 (x5+1)<qa6 a0 x1 x2))))))/\
((ln a0)<=x5->
(I64 (x5-x2))/\
((1000<(x5-x2)->
(([]:List Row)=((qa a0).1))/\
((4:Int)=((qa a0).2.1))/\
((x2:Int)=((qa a0).2.2))/\
 True))/\
((x5-x2)<=1000->
((0:Int)<=x2/\(x2:Int)<=x5/\x5<=ln a0)/\
((ln (sub a0 x2 x5)<=1000/\0<=x2/\x2<=100000))/\
((0<=(l0_.2)->
(I64 (x2+(l0_.2)))/\
(([]:List Row)=((qa a0).1))/\
((3:Int)=((qa a0).2.1))/\
(((x2+(l0_.2)):Int)=((qa a0).2.2))/\
 True))/\
((l0_.2)<0->
((0<(ln (l0_.1))->
(True)/\
(zk (List.length x1+List.length [(Row.mk x2 (l0_.1))]))/\
(I64 (x5+1))/\
(qc5 a0 (x1++[(Row.mk x2 (l0_.1))]) (x5+1))/\
 qa6 a0 (x1++[(Row.mk x2 (l0_.1))]) (x5+1)<qa6 a0 x1 x2))/\
((ln (l0_.1))<=0->
(I64 (x5+1))/\
(qc5 a0 x1 (x5+1))/\
 qa6 a0 x1 (x5+1)<qa6 a0 x1 x2))))))))/\
((ln a0)<x2->
(x1=((qa a0).1))/\
((0:Int)=((qa a0).2.1))/\
((0:Int)=((qa a0).2.2))/\
 True)))))
theorem zgr (a0:ZB):jw (qq XK (jk zdq) (fun j ns=>match j,ns with | 0,[.l 6 y0,.i y1]=>qc5 a0 y0 y1 | 1,[.i y0,.i y1]=>qhn a0 y0 y1 | _,_=>False) (fun j ns=>match j,ns with | 0,[.l 6 y0,.i y1]=>qa6 a0 y0 y1 | 1,[.i y0,.i y1]=>qie a0 y0 y1 | _,_=>0)) {cfg sp with ann:=jv [(50,124,.inv 0 [.one 4 (.list 6 true false),.one 5 (.int .i64)] []),(50,7956,.inv 1 [.one 6 (.int .i64)] [.one 5 (.int .i64)])]} 3 50 [.str (a0)] (qzk a0)=qvo a0:=by kernel_rfl
def zdr:List (Nat×Ct KT):=[(55,zp6),(108,za9),(77,zmm),(109,zhq)]
abbrev qzl (a0:ZB):PV KT:=.tuple [.list 6 (((qa a0).1)) (some (0,0)),.agg [.int .i64 none (((qa a0).2.1)),.int .i64 none (((qa a0).2.2))]]
abbrev qvq (v0:ZB) (v1:Int) (v2:Int) (v3:List Word) (p:Prop):Prop:=
(([]:ZB)=([]:ZB))/\
((ix (qz (bx ([10]:ZB) 0) v0) v1)=(ix (qz (bx ([10]:ZB) 0) v0) v1))/\
((v2:Int)=v2)/\
(v3=v3)/\
 p
abbrev zw (v0:Int) (v1:List Row) (v2:ZB) (v3:Int) (p:Prop):Prop:=
((v0:Int)=v0)/\
(v1=v1)/\
((ix (qz (bx ([10]:ZB) 0) v2) v3)=(ix (qz (bx ([10]:ZB) 0) v2) v3))/\
 p
abbrev qvp (a0:ZB):Prop:=
 let l7_:=qa a0;
((20000<(ln a0)->
(([]:List Row)=(l7_.1))/\
((4:Int)=(l7_.2.1))/\
((20000:Int)=(l7_.2.2))/\
 True))/\
((ln a0)<=20000->
((ln ([10]:ZB)=1/\ln a0<=100000000))/\
(qau a0 ([]:List Row) 0 0)/\
(∀ x1:List Row,
(∀ x2:Int,
 let l2_:=Word.mk (0+x2) ([]:ZB) false;
(∀ x3:Int,
 let l0_:=ix (qz (bx ([10]:ZB) 0) a0) x3;
 let l10_:=x2+((ln l0_)+1);
(qau a0 x1 x2 x3->
((x3<(ln (qz (bx ([10]:ZB) 0) a0))->
(Wn x3 (ln (qz (bx ([10]:ZB) 0) a0)))/\
(I64 ((ln l0_)+1))/\
(I64 l10_)/\
((1000<(ln l0_)->
(([]:List Row)=(l7_.1))/\
((4:Int)=(l7_.2.1))/\
((x2:Int)=(l7_.2.2))/\
 True))/\
((ln l0_)<=1000->
(qy a0 ([]:List Word) 0 x2 l0_)/\
(∀ x7:List Word,
 let l9_:=x7++[l2_];
 let l5_:=List.length x7+List.length [l2_];
(∀ x8:Int,
(qy a0 x7 x8 x2 l0_->
(qho a0 x8 l0_ x8)/\
(∀ x10:Int,
 let l15_:=x2+x10;
 let l8_:=jh (fr l0_ (x10+1)) 34;
 let l4_:=(x10+1)+l8_;
 let l11_:=sub l0_ (x10+1) l4_;
 let l1_:=(x10+l8_)+2;
 let l3_:=Word.mk (x10+x2) (sub l0_ (x10+1) (l1_-1)) true;
 let l12_:=x7++[l3_];
 let l6_:=List.length x7+List.length [l3_];
(qho a0 x10 l0_ x8->
((x10<(ln l0_)->
(Wn x10 (ln l0_))/\
(((bx l0_ x10)=32->
(I64 (x10+1))/\
(qvq a0 x3 x2 x7 (
(qho a0 (x10+1) l0_ x8)/\
 qif a0 (x10+1) l0_ x8<qif a0 x10 l0_ x8))))/\
((bx l0_ x10)≠32->
((x10=(ln l0_)->
((0<(ln x7)->
(True)/\
(zk (List.length x1+List.length [(Row.mk x2 x7)]))/\
(I64 (x3+1))/\
(qau a0 (x1++[(Row.mk x2 x7)]) l10_ (x3+1))/\
 z5 a0 (x1++[(Row.mk x2 x7)]) l10_ (x3+1)<z5 a0 x1 x2 x3))/\
((ln x7)<=0->
(I64 (x3+1))/\
(qau a0 x1 l10_ (x3+1))/\
 z5 a0 x1 l10_ (x3+1)<z5 a0 x1 x2 x3)))/\
(x10≠(ln l0_)->
(Wn x10 (ln l0_))/\
(((bx l0_ x10)=59->
((0<(ln x7)->
(True)/\
(zk (List.length x1+List.length [(Row.mk x2 x7)]))/\
(I64 (x3+1))/\
(qau a0 (x1++[(Row.mk x2 x7)]) l10_ (x3+1))/\
 z5 a0 (x1++[(Row.mk x2 x7)]) l10_ (x3+1)<z5 a0 x1 x2 x3))/\
((ln x7)<=0->
(I64 (x3+1))/\
(qau a0 x1 l10_ (x3+1))/\
 z5 a0 x1 l10_ (x3+1)<z5 a0 x1 x2 x3)))/\
((bx l0_ x10)≠59->
(Wn x10 (ln l0_))/\
((U8 (bx l0_ x10)))/\
(((j6 (bx l0_ x10))=120->
((0<=x10->
(I64 l15_)/\
(([]:List Row)=(l7_.1))/\
((3:Int)=(l7_.2.1))/\
((l15_:Int)=(l7_.2.2))/\
 True))/\
(x10<0->
(I64 (0+x2))/\
(True)/\
(zk l5_)/\
(zw x2 x1 a0 x3 (
(qy a0 l9_ x10 x2 l0_)/\
 qc a0 l9_ x10 x2 l0_<qc a0 x7 x8 x2 l0_)))))/\
((j6 (bx l0_ x10))≠120->
(((j6 (bx l0_ x10))=113->
(I64 (x10+1))/\
((0:Int)<=(x10+1)/\(x10+1)<=ln l0_)/\
((U8 34))/\
((0<x10->
(I64 (x10-1))/\
(Wn (x10-1) (ln l0_))/\
(((bx l0_ (x10-1))≠32->
((0<=x10->
(I64 l15_)/\
(([]:List Row)=(l7_.1))/\
((3:Int)=(l7_.2.1))/\
((l15_:Int)=(l7_.2.2))/\
 True))/\
(x10<0->
(I64 (0+x2))/\
(True)/\
(zk l5_)/\
(zw x2 x1 a0 x3 (
(qy a0 l9_ x10 x2 l0_)/\
 qc a0 l9_ x10 x2 l0_<qc a0 x7 x8 x2 l0_)))))/\
((bx l0_ (x10-1))=32->
((l8_<0->
((0<=x10->
(I64 l15_)/\
(([]:List Row)=(l7_.1))/\
((3:Int)=(l7_.2.1))/\
((l15_:Int)=(l7_.2.2))/\
 True))/\
(x10<0->
(I64 (0+x2))/\
(True)/\
(zk l5_)/\
(zw x2 x1 a0 x3 (
(qy a0 l9_ x10 x2 l0_)/\
 qc a0 l9_ x10 x2 l0_<qc a0 x7 x8 x2 l0_)))))/\
(0<=l8_->
(I64 (x10+1))/\
(I64 (x10+1))/\
(I64 l4_)/\
((0:Int)<=(x10+1)/\((x10+1):Int)<=l4_/\l4_<=ln l0_)/\
((ln l11_<=1000000000))/\
(((qaq l11_)=false->
((0<=x10->
(I64 l15_)/\
(([]:List Row)=(l7_.1))/\
((3:Int)=(l7_.2.1))/\
((l15_:Int)=(l7_.2.2))/\
 True))/\
(x10<0->
(I64 (0+x2))/\
(True)/\
(zk l5_)/\
(zw x2 x1 a0 x3 (
(qy a0 l9_ x10 x2 l0_)/\
 qc a0 l9_ x10 x2 l0_<qc a0 x7 x8 x2 l0_)))))/\
((qaq l11_)=true->
(I64 (x10+l8_))/\
(I64 l1_)/\
((l1_<(ln l0_)->
(Wn l1_ (ln l0_))/\
(((bx l0_ l1_)≠32->
(Wn l1_ (ln l0_))/\
(((bx l0_ l1_)≠59->
((0<=x10->
(I64 l15_)/\
(([]:List Row)=(l7_.1))/\
((3:Int)=(l7_.2.1))/\
((l15_:Int)=(l7_.2.2))/\
 True))/\
(x10<0->
(I64 (0+x2))/\
(True)/\
(zk l5_)/\
(zw x2 x1 a0 x3 (
(qy a0 l9_ l1_ x2 l0_)/\
 qc a0 l9_ l1_ x2 l0_<qc a0 x7 x8 x2 l0_)))))/\
((bx l0_ l1_)=59->
(I64 (x10+1))/\
(I64 (l1_-1))/\
((0:Int)<=(x10+1)/\((x10+1):Int)<=(l1_-1)/\(l1_-1)<=ln l0_)/\
(I64 (x10+x2))/\
(True)/\
(zk l6_)/\
(zw x2 x1 a0 x3 (
(qy a0 l12_ l1_ x2 l0_)/\
 qc a0 l12_ l1_ x2 l0_<qc a0 x7 x8 x2 l0_)))))/\
((bx l0_ l1_)=32->
(I64 (x10+1))/\
(I64 (l1_-1))/\
((0:Int)<=(x10+1)/\((x10+1):Int)<=(l1_-1)/\(l1_-1)<=ln l0_)/\
(I64 (x10+x2))/\
(True)/\
(zk l6_)/\
(zw x2 x1 a0 x3 (
(qy a0 l12_ l1_ x2 l0_)/\
 qc a0 l12_ l1_ x2 l0_<qc a0 x7 x8 x2 l0_)))))/\
((ln l0_)<=l1_->
(I64 (x10+1))/\
(I64 (l1_-1))/\
((0:Int)<=(x10+1)/\((x10+1):Int)<=(l1_-1)/\(l1_-1)<=ln l0_)/\
(I64 (x10+x2))/\
(True)/\
(zk l6_)/\
(zw x2 x1 a0 x3 (
(qy a0 l12_ l1_ x2 l0_)/\
 qc a0 l12_ l1_ x2 l0_<qc a0 x7 x8 x2 l0_))))))))/\
(x10<=0->
((l8_<0->
((0<=x10->
(I64 l15_)/\
(([]:List Row)=(l7_.1))/\
((3:Int)=(l7_.2.1))/\
((l15_:Int)=(l7_.2.2))/\
 True))/\
(x10<0->
(I64 (0+x2))/\
(True)/\
(zk l5_)/\
(zw x2 x1 a0 x3 (
(qy a0 l9_ x10 x2 l0_)/\
 qc a0 l9_ x10 x2 l0_<qc a0 x7 x8 x2 l0_)))))/\
(0<=l8_->
(I64 (x10+1))/\
(I64 (x10+1))/\
(I64 l4_)/\
((0:Int)<=(x10+1)/\((x10+1):Int)<=l4_/\l4_<=ln l0_)/\
((ln l11_<=1000000000))/\
(((qaq l11_)=false->
((0<=x10->
(I64 l15_)/\
(([]:List Row)=(l7_.1))/\
((3:Int)=(l7_.2.1))/\
((l15_:Int)=(l7_.2.2))/\
 True))/\
(x10<0->
(I64 (0+x2))/\
(True)/\
(zk l5_)/\
(zw x2 x1 a0 x3 (
(qy a0 l9_ x10 x2 l0_)/\
 qc a0 l9_ x10 x2 l0_<qc a0 x7 x8 x2 l0_)))))/\
((qaq l11_)=true->
(I64 (x10+l8_))/\
(I64 l1_)/\
((l1_<(ln l0_)->
(Wn l1_ (ln l0_))/\
(((bx l0_ l1_)≠32->
(Wn l1_ (ln l0_))/\
(((bx l0_ l1_)≠59->
((0<=x10->
(I64 l15_)/\
(([]:List Row)=(l7_.1))/\
((3:Int)=(l7_.2.1))/\
((l15_:Int)=(l7_.2.2))/\
 True))/\
(x10<0->
(I64 (0+x2))/\
(True)/\
(zk l5_)/\
(zw x2 x1 a0 x3 (
(qy a0 l9_ l1_ x2 l0_)/\
 qc a0 l9_ l1_ x2 l0_<qc a0 x7 x8 x2 l0_)))))/\
((bx l0_ l1_)=59->
(I64 (x10+1))/\
(I64 (l1_-1))/\
((0:Int)<=(x10+1)/\((x10+1):Int)<=(l1_-1)/\(l1_-1)<=ln l0_)/\
(I64 (x10+x2))/\
(True)/\
(zk l6_)/\
(zw x2 x1 a0 x3 (
(qy a0 l12_ l1_ x2 l0_)/\
 qc a0 l12_ l1_ x2 l0_<qc a0 x7 x8 x2 l0_)))))/\
((bx l0_ l1_)=32->
(I64 (x10+1))/\
(I64 (l1_-1))/\
((0:Int)<=(x10+1)/\((x10+1):Int)<=(l1_-1)/\(l1_-1)<=ln l0_)/\
(I64 (x10+x2))/\
(True)/\
(zk l6_)/\
(zw x2 x1 a0 x3 (
(qy a0 l12_ l1_ x2 l0_)/\
 qc a0 l12_ l1_ x2 l0_<qc a0 x7 x8 x2 l0_)))))/\
((ln l0_)<=l1_->
(I64 (x10+1))/\
(I64 (l1_-1))/\
((0:Int)<=(x10+1)/\((x10+1):Int)<=(l1_-1)/\(l1_-1)<=ln l0_)/\
(I64 (x10+x2))/\
(True)/\
(zk l6_)/\
(zw x2 x1 a0 x3 (
(qy a0 l12_ l1_ x2 l0_)/\
 qc a0 l12_ l1_ x2 l0_<qc a0 x7 x8 x2 l0_))))))))/\
((j6 (bx l0_ x10))≠113->
(qc6 a0 x10 l0_ x10)/\
(∀ x18:Int,
 let l13_:=Word.mk (x10+x2) (sub l0_ x10 x18) false;
(qc6 a0 x18 l0_ x10->
((x18<(ln l0_)->
(Wn x18 (ln l0_))/\
((U8 (bx l0_ x18)))/\
(((j6 (bx l0_ x18))=112->
(I64 (x18+1))/\
(qvq a0 x3 x2 x7 (
(qc6 a0 (x18+1) l0_ x10)/\
 qeg a0 (x18+1) l0_ x10<qeg a0 x18 l0_ x10))))/\
((j6 (bx l0_ x18))≠112->
((0:Int)<=x10/\(x10:Int)<=x18/\x18<=ln l0_)/\
(I64 (x10+x2))/\
(True)/\
(zk (List.length x7+List.length [l13_]))/\
(zw x2 x1 a0 x3 (
(qy a0 (x7++[l13_]) x18 x2 l0_)/\
 qc a0 (x7++[l13_]) x18 x2 l0_<qc a0 x7 x8 x2 l0_)))))/\
((ln l0_)<=x18->
((0:Int)<=x10/\(x10:Int)<=x18/\x18<=ln l0_)/\
(I64 (x10+x2))/\
(True)/\
(zk (List.length x7+List.length [l13_]))/\
(zw x2 x1 a0 x3 (
(qy a0 (x7++[l13_]) x18 x2 l0_)/\
 qc a0 (x7++[l13_]) x18 x2 l0_<qc a0 x7 x8 x2 l0_))))))))))))/\
((ln l0_)<=x10->
((x10=(ln l0_)->
((0<(ln x7)->
(True)/\
(zk (List.length x1+List.length [(Row.mk x2 x7)]))/\
(I64 (x3+1))/\
(qau a0 (x1++[(Row.mk x2 x7)]) l10_ (x3+1))/\
 z5 a0 (x1++[(Row.mk x2 x7)]) l10_ (x3+1)<z5 a0 x1 x2 x3))/\
((ln x7)<=0->
(I64 (x3+1))/\
(qau a0 x1 l10_ (x3+1))/\
 z5 a0 x1 l10_ (x3+1)<z5 a0 x1 x2 x3)))/\
(x10≠(ln l0_)->
(Wn x10 (ln l0_))/\
(((bx l0_ x10)=59->
((0<(ln x7)->
(True)/\
(zk (List.length x1+List.length [(Row.mk x2 x7)]))/\
(I64 (x3+1))/\
(qau a0 (x1++[(Row.mk x2 x7)]) l10_ (x3+1))/\
 z5 a0 (x1++[(Row.mk x2 x7)]) l10_ (x3+1)<z5 a0 x1 x2 x3))/\
((ln x7)<=0->
(I64 (x3+1))/\
(qau a0 x1 l10_ (x3+1))/\
 z5 a0 x1 l10_ (x3+1)<z5 a0 x1 x2 x3)))/\
((bx l0_ x10)≠59->
(Wn x10 (ln l0_))/\
((U8 (bx l0_ x10)))/\
(((j6 (bx l0_ x10))=120->
((0<=x10->
(I64 l15_)/\
(([]:List Row)=(l7_.1))/\
((3:Int)=(l7_.2.1))/\
((l15_:Int)=(l7_.2.2))/\
 True))/\
(x10<0->
(I64 (0+x2))/\
(True)/\
(zk l5_)/\
(zw x2 x1 a0 x3 (
(qy a0 l9_ x10 x2 l0_)/\
 qc a0 l9_ x10 x2 l0_<qc a0 x7 x8 x2 l0_)))))/\
((j6 (bx l0_ x10))≠120->
(((j6 (bx l0_ x10))=113->
(I64 (x10+1))/\
((0:Int)<=(x10+1)/\(x10+1)<=ln l0_)/\
((U8 34))/\
((0<x10->
(I64 (x10-1))/\
(Wn (x10-1) (ln l0_))/\
(((bx l0_ (x10-1))≠32->
((0<=x10->
(I64 l15_)/\
(([]:List Row)=(l7_.1))/\
((3:Int)=(l7_.2.1))/\
((l15_:Int)=(l7_.2.2))/\
 True))/\
(x10<0->
(I64 (0+x2))/\
(True)/\
(zk l5_)/\
(zw x2 x1 a0 x3 (
(qy a0 l9_ x10 x2 l0_)/\
 qc a0 l9_ x10 x2 l0_<qc a0 x7 x8 x2 l0_)))))/\
((bx l0_ (x10-1))=32->
((l8_<0->
((0<=x10->
(I64 l15_)/\
(([]:List Row)=(l7_.1))/\
((3:Int)=(l7_.2.1))/\
((l15_:Int)=(l7_.2.2))/\
 True))/\
(x10<0->
(I64 (0+x2))/\
(True)/\
(zk l5_)/\
(zw x2 x1 a0 x3 (
(qy a0 l9_ x10 x2 l0_)/\
 qc a0 l9_ x10 x2 l0_<qc a0 x7 x8 x2 l0_)))))/\
(0<=l8_->
(I64 (x10+1))/\
(I64 (x10+1))/\
(I64 l4_)/\
((0:Int)<=(x10+1)/\((x10+1):Int)<=l4_/\l4_<=ln l0_)/\
((ln l11_<=1000000000))/\
(((qaq l11_)=false->
((0<=x10->
(I64 l15_)/\
(([]:List Row)=(l7_.1))/\
((3:Int)=(l7_.2.1))/\
((l15_:Int)=(l7_.2.2))/\
 True))/\
(x10<0->
(I64 (0+x2))/\
(True)/\
(zk l5_)/\
(zw x2 x1 a0 x3 (
(qy a0 l9_ x10 x2 l0_)/\
 qc a0 l9_ x10 x2 l0_<qc a0 x7 x8 x2 l0_)))))/\
((qaq l11_)=true->
(I64 (x10+l8_))/\
(I64 l1_)/\
((l1_<(ln l0_)->
(Wn l1_ (ln l0_))/\
(((bx l0_ l1_)≠32->
(Wn l1_ (ln l0_))/\
(((bx l0_ l1_)≠59->
((0<=x10->
(I64 l15_)/\
(([]:List Row)=(l7_.1))/\
((3:Int)=(l7_.2.1))/\
((l15_:Int)=(l7_.2.2))/\
 True))/\
(x10<0->
(I64 (0+x2))/\
(True)/\
(zk l5_)/\
(zw x2 x1 a0 x3 (
(qy a0 l9_ l1_ x2 l0_)/\
 qc a0 l9_ l1_ x2 l0_<qc a0 x7 x8 x2 l0_)))))/\
((bx l0_ l1_)=59->
(I64 (x10+1))/\
(I64 (l1_-1))/\
((0:Int)<=(x10+1)/\((x10+1):Int)<=(l1_-1)/\(l1_-1)<=ln l0_)/\
(I64 (x10+x2))/\
(True)/\
(zk l6_)/\
(zw x2 x1 a0 x3 (
(qy a0 l12_ l1_ x2 l0_)/\
 qc a0 l12_ l1_ x2 l0_<qc a0 x7 x8 x2 l0_)))))/\
((bx l0_ l1_)=32->
(I64 (x10+1))/\
(I64 (l1_-1))/\
((0:Int)<=(x10+1)/\((x10+1):Int)<=(l1_-1)/\(l1_-1)<=ln l0_)/\
(I64 (x10+x2))/\
(True)/\
(zk l6_)/\
(zw x2 x1 a0 x3 (
(qy a0 l12_ l1_ x2 l0_)/\
 qc a0 l12_ l1_ x2 l0_<qc a0 x7 x8 x2 l0_)))))/\
((ln l0_)<=l1_->
(I64 (x10+1))/\
(I64 (l1_-1))/\
((0:Int)<=(x10+1)/\((x10+1):Int)<=(l1_-1)/\(l1_-1)<=ln l0_)/\
(I64 (x10+x2))/\
(True)/\
(zk l6_)/\
(zw x2 x1 a0 x3 (
(qy a0 l12_ l1_ x2 l0_)/\
 qc a0 l12_ l1_ x2 l0_<qc a0 x7 x8 x2 l0_))))))))/\
(x10<=0->
((l8_<0->
((0<=x10->
(I64 l15_)/\
(([]:List Row)=(l7_.1))/\
((3:Int)=(l7_.2.1))/\
((l15_:Int)=(l7_.2.2))/\
 True))/\
(x10<0->
(I64 (0+x2))/\
(True)/\
(zk l5_)/\
(zw x2 x1 a0 x3 (
(qy a0 l9_ x10 x2 l0_)/\
 qc a0 l9_ x10 x2 l0_<qc a0 x7 x8 x2 l0_)))))/\
(0<=l8_->
(I64 (x10+1))/\
(I64 (x10+1))/\
(I64 l4_)/\
((0:Int)<=(x10+1)/\((x10+1):Int)<=l4_/\l4_<=ln l0_)/\
((ln l11_<=1000000000))/\
(((qaq l11_)=false->
((0<=x10->
(I64 l15_)/\
(([]:List Row)=(l7_.1))/\
((3:Int)=(l7_.2.1))/\
((l15_:Int)=(l7_.2.2))/\
 True))/\
(x10<0->
(I64 (0+x2))/\
(True)/\
(zk l5_)/\
(zw x2 x1 a0 x3 (
(qy a0 l9_ x10 x2 l0_)/\
 qc a0 l9_ x10 x2 l0_<qc a0 x7 x8 x2 l0_)))))/\
((qaq l11_)=true->
(I64 (x10+l8_))/\
(I64 l1_)/\
((l1_<(ln l0_)->
(Wn l1_ (ln l0_))/\
(((bx l0_ l1_)≠32->
(Wn l1_ (ln l0_))/\
(((bx l0_ l1_)≠59->
((0<=x10->
(I64 l15_)/\
(([]:List Row)=(l7_.1))/\
((3:Int)=(l7_.2.1))/\
((l15_:Int)=(l7_.2.2))/\
 True))/\
(x10<0->
(I64 (0+x2))/\
(True)/\
(zk l5_)/\
(zw x2 x1 a0 x3 (
(qy a0 l9_ l1_ x2 l0_)/\
 qc a0 l9_ l1_ x2 l0_<qc a0 x7 x8 x2 l0_)))))/\
((bx l0_ l1_)=59->
(I64 (x10+1))/\
(I64 (l1_-1))/\
((0:Int)<=(x10+1)/\((x10+1):Int)<=(l1_-1)/\(l1_-1)<=ln l0_)/\
(I64 (x10+x2))/\
(True)/\
(zk l6_)/\
(zw x2 x1 a0 x3 (
(qy a0 l12_ l1_ x2 l0_)/\
 qc a0 l12_ l1_ x2 l0_<qc a0 x7 x8 x2 l0_)))))/\
((bx l0_ l1_)=32->
(I64 (x10+1))/\
(I64 (l1_-1))/\
((0:Int)<=(x10+1)/\((x10+1):Int)<=(l1_-1)/\(l1_-1)<=ln l0_)/\
(I64 (x10+x2))/\
(True)/\
(zk l6_)/\
(zw x2 x1 a0 x3 (
(qy a0 l12_ l1_ x2 l0_)/\
 qc a0 l12_ l1_ x2 l0_<qc a0 x7 x8 x2 l0_)))))/\
((ln l0_)<=l1_->
(I64 (x10+1))/\
(I64 (l1_-1))/\
((0:Int)<=(x10+1)/\((x10+1):Int)<=(l1_-1)/\(l1_-1)<=ln l0_)/\
(I64 (x10+x2))/\
(True)/\
(zk l6_)/\
(zw x2 x1 a0 x3 (
(qy a0 l12_ l1_ x2 l0_)/\
 qc a0 l12_ l1_ x2 l0_<qc a0 x7 x8 x2 l0_))))))))/\
((j6 (bx l0_ x10))≠113->
(qc6 a0 x10 l0_ x10)/\
(∀ x17:Int,
 let l14_:=Word.mk (x10+x2) (sub l0_ x10 x17) false;
(qc6 a0 x17 l0_ x10->
((x17<(ln l0_)->
(Wn x17 (ln l0_))/\
((U8 (bx l0_ x17)))/\
(((j6 (bx l0_ x17))=112->
(I64 (x17+1))/\
(qvq a0 x3 x2 x7 (
(qc6 a0 (x17+1) l0_ x10)/\
 qeg a0 (x17+1) l0_ x10<qeg a0 x17 l0_ x10))))/\
((j6 (bx l0_ x17))≠112->
((0:Int)<=x10/\(x10:Int)<=x17/\x17<=ln l0_)/\
(I64 (x10+x2))/\
(True)/\
(zk (List.length x7+List.length [l14_]))/\
(zw x2 x1 a0 x3 (
(qy a0 (x7++[l14_]) x17 x2 l0_)/\
 qc a0 (x7++[l14_]) x17 x2 l0_<qc a0 x7 x8 x2 l0_)))))/\
((ln l0_)<=x17->
((0:Int)<=x10/\(x10:Int)<=x17/\x17<=ln l0_)/\
(I64 (x10+x2))/\
(True)/\
(zk (List.length x7+List.length [l14_]))/\
(zw x2 x1 a0 x3 (
(qy a0 (x7++[l14_]) x17 x2 l0_)/\
 qc a0 (x7++[l14_]) x17 x2 l0_<qc a0 x7 x8 x2 l0_))))))))))))))))))/\
((ln (qz (bx ([10]:ZB) 0) a0))<=x3->
(x1=(l7_.1))/\
((0:Int)=(l7_.2.1))/\
((0:Int)=(l7_.2.2))/\
 True))))))
theorem zgu (a0:ZB):jw (qq XK (jk zdr) (fun j ns=>match j,ns with | 0,[.l 6 y0,.i y1,.i y2]=>qau a0 y0 y1 y2 | 1,[.l 5 y0,.i y1,.i y2,.s y3]=>qy a0 y0 y1 y2 y3 | 2,[.i y0,.s y1,.i y2]=>qho a0 y0 y1 y2 | 3,[.i y0,.s y1,.i y2]=>qc6 a0 y0 y1 y2 | _,_=>False) (fun j ns=>match j,ns with | 0,[.l 6 y0,.i y1,.i y2]=>z5 a0 y0 y1 y2 | 1,[.l 5 y0,.i y1,.i y2,.s y3]=>qc a0 y0 y1 y2 y3 | 2,[.i y0,.s y1,.i y2]=>qif a0 y0 y1 y2 | 3,[.i y0,.s y1,.i y2]=>qeg a0 y0 y1 y2 | _,_=>0)) {cfg sp with ann:=jv [(23,890,.inv 0 [.one 4 (.list 6 true false),.one 5 (.int .i64),.one 19 (.int .i64)] []),(23,3647102,.inv 1 [.via 9 [.keep,.list 5 true false],.cap 10 0 [.int .i64],.one 4 (.keep)] [.one 8 (.int .i64),.one 7 (.str)]),(107,12,.inv 2 [.via 0 [.int .i64]] [.via 1 [.str],.via 0 [.int .i64]]),(107,252,.inv 3 [.via 0 [.int .i64]] [.via 1 [.str],.one 3 (.int .i64)])]} 3 23 [.str (a0)] (qzl a0)=qvp a0:=by kernel_rfl
end Go.Proofs.YtbopmiclcimjgaaGreatDoor
