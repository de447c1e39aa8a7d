/- CONDITIONS, as E3 computes them. Made by program (vc.py). -/
import Derived.Test.YtbopmiclcimjgaaGreatDoorCts
namespace Go.Proofs.YtbopmiclcimjgaaGreatDoor
open Go Go.E2 Go.E3
set_option maxRecDepth 100000
variable {sp:Nat->Option (List V->Heap->Option (CR×Heap))}

def q4g:List (Nat×Ct KT):=[(32,zao),(117,qov),(94,zdm),(136,q7b),(74,zdh),(77,zdi),(78,zdj),(118,q2q)]
abbrev qtt (a0:Int) (a1:Int) (a2:Int) (a3:Int) (a4:Bool) (a5:Int) (a6:Bool) (a7:Bool) (a8:Int) (a9:Int) (a10:Int) (a11:Int) (a12:Bool) (a13:Int) (a14:Int) (a15:Int) (a16:Int):PV KT:=.tuple [.str (((qq (Sign.mk a0 a1 a2 a3 a4 a5 a6 a7 a8 a9 a10 a11 a12 a13 a14 a15 a16)).1)),.int .i64 none (((qq (Sign.mk a0 a1 a2 a3 a4 a5 a6 a7 a8 a9 a10 a11 a12 a13 a14 a15 a16)).2))]
abbrev qhl (v0:Int) (v1:Int) (v2:Int) (v3:Int) (v4:Bool) (v5:Int) (v6:Bool) (v7:Bool) (v8:Int) (v9:Int) (v10:Int) (v11:Int) (v12:Bool) (v13:Int) (v14:Int) (v15:Int) (v16:Int) (p:Prop):Prop:=
((v0:Int)=v0)/\
((v1:Int)=v1)/\
((v2:Int)=v2)/\
((v3:Int)=v3)/\
(v4=v4)/\
((v5:Int)=v5)/\
(v6=v6)/\
(v7=v7)/\
((v8:Int)=v8)/\
((v9:Int)=v9)/\
((v10:Int)=v10)/\
((v11:Int)=v11)/\
(v12=v12)/\
((v13:Int)=v13)/\
((v14:Int)=v14)/\
((v15:Int)=v15)/\
((v16:Int)=v16)/\
((v0:Int)=v0)/\
((v1:Int)=v1)/\
((v2:Int)=v2)/\
((v3:Int)=v3)/\
(v4=v4)/\
((v5:Int)=v5)/\
(v6=v6)/\
(v7=v7)/\
((v8:Int)=v8)/\
((v9:Int)=v9)/\
((v10:Int)=v10)/\
((v11:Int)=v11)/\
(v12=v12)/\
((v13:Int)=v13)/\
((v14:Int)=v14)/\
((v15:Int)=v15)/\
((v16:Int)=v16)/\
(([]:List UInt8)=([]:List UInt8))/\
((v0:Int)=v0)/\
((v1:Int)=v1)/\
((v2:Int)=v2)/\
((v3:Int)=v3)/\
(v4=v4)/\
((v5:Int)=v5)/\
(v6=v6)/\
(v7=v7)/\
((v8:Int)=v8)/\
((v9:Int)=v9)/\
((v10:Int)=v10)/\
((v11:Int)=v11)/\
(v12=v12)/\
((v13:Int)=v13)/\
((v14:Int)=v14)/\
((v15:Int)=v15)/\
((v16:Int)=v16)/\
 p
abbrev qhm (v0:Int) (v1:Int) (v2:Int) (v3:Int) (v4:Bool) (v5:Int) (v6:Bool) (v7:Bool) (v8:Int) (v9:Int) (v10:Int) (v11:Int) (v12:Bool) (v13:Int) (v14:Int) (v15:Int) (v16:Int) (p:Prop):Prop:=
((v0:Int)=v0)/\
((v1:Int)=v1)/\
((v2:Int)=v2)/\
((v3:Int)=v3)/\
(v4=v4)/\
((v5:Int)=v5)/\
(v6=v6)/\
(v7=v7)/\
((v8:Int)=v8)/\
((v9:Int)=v9)/\
((v10:Int)=v10)/\
((v11:Int)=v11)/\
(v12=v12)/\
((v13:Int)=v13)/\
((v14:Int)=v14)/\
((v15:Int)=v15)/\
((v16:Int)=v16)/\
((v0:Int)=v0)/\
((v1:Int)=v1)/\
((v2:Int)=v2)/\
((v3:Int)=v3)/\
(v4=v4)/\
((v5:Int)=v5)/\
(v6=v6)/\
(v7=v7)/\
((v8:Int)=v8)/\
((v9:Int)=v9)/\
((v10:Int)=v10)/\
((v11:Int)=v11)/\
(v12=v12)/\
((v13:Int)=v13)/\
((v14:Int)=v14)/\
((v15:Int)=v15)/\
((v16:Int)=v16)/\
(([116]:List UInt8)=([116]:List UInt8))/\
((v0:Int)=v0)/\
((v1:Int)=v1)/\
((v2:Int)=v2)/\
((v3:Int)=v3)/\
(v4=v4)/\
((v5:Int)=v5)/\
(v6=v6)/\
(v7=v7)/\
((v8:Int)=v8)/\
((v9:Int)=v9)/\
((v10:Int)=v10)/\
((v11:Int)=v11)/\
(v12=v12)/\
((v13:Int)=v13)/\
((v14:Int)=v14)/\
((v15:Int)=v15)/\
((v16:Int)=v16)/\
 p
abbrev qe6 (v0:Int) (v1:Int) (v2:Int) (v3:Int) (v4:Bool) (v5:Int) (v6:Bool) (v7:Bool) (v8:Int) (v9:Int) (v10:Int) (v11:Int) (v12:Bool) (v13:Int) (v14:Int) (v15:Int) (v16:Int) (p:Prop):Prop:=
((v0:Int)=v0)/\
((v1:Int)=v1)/\
((v2:Int)=v2)/\
((v3:Int)=v3)/\
(v4=v4)/\
((v5:Int)=v5)/\
(v6=v6)/\
(v7=v7)/\
((v8:Int)=v8)/\
((v9:Int)=v9)/\
((v10:Int)=v10)/\
((v11:Int)=v11)/\
(v12=v12)/\
((v13:Int)=v13)/\
((v14:Int)=v14)/\
((v15:Int)=v15)/\
((v16:Int)=v16)/\
(([116]:List UInt8)=([116]:List UInt8))/\
((v0:Int)=v0)/\
((v1:Int)=v1)/\
((v2:Int)=v2)/\
((v3:Int)=v3)/\
(v4=v4)/\
((v5:Int)=v5)/\
(v6=v6)/\
(v7=v7)/\
((v8:Int)=v8)/\
((v9:Int)=v9)/\
((v10:Int)=v10)/\
((v11:Int)=v11)/\
(v12=v12)/\
((v13:Int)=v13)/\
((v14:Int)=v14)/\
((v15:Int)=v15)/\
((v16:Int)=v16)/\
 p
abbrev qqn (a0:Int) (a1:Int) (a2:Int) (a3:Int) (a4:Bool) (a5:Int) (a6:Bool) (a7:Bool) (a8:Int) (a9:Int) (a10:Int) (a11:Int) (a12:Bool) (a13:Int) (a14:Int) (a15:Int) (a16:Int):Prop:=
(True)/\
(((qa8 (Sign.mk a0 a1 a2 a3 a4 a5 a6 a7 a8 a9 a10 a11 a12 a13 a14 a15 a16))≠0->
(([]:List UInt8)=((qq (Sign.mk a0 a1 a2 a3 a4 a5 a6 a7 a8 a9 a10 a11 a12 a13 a14 a15 a16)).1))/\
(((qa8 (Sign.mk a0 a1 a2 a3 a4 a5 a6 a7 a8 a9 a10 a11 a12 a13 a14 a15 a16)):Int)=((qq (Sign.mk a0 a1 a2 a3 a4 a5 a6 a7 a8 a9 a10 a11 a12 a13 a14 a15 a16)).2))/\
 True))/\
((qa8 (Sign.mk a0 a1 a2 a3 a4 a5 a6 a7 a8 a9 a10 a11 a12 a13 a14 a15 a16))=0->
(Wn a0 13)/\
(((a0:Int)=0->
(qn (List.length ([]:List UInt8)+List.length ([]:List UInt8)))/\
 False /- call -/))/\
(((a0:Int)=1->
(qn (List.length ([]:List UInt8)+List.length ([]:List UInt8)))/\
(I64 (a1-1))/\
(Wn (a1-1) (ln ([88,76,66,83,77,81,70,90]:List UInt8)))/\
(U8 ((bx ([88,76,66,83,77,81,70,90]:List UInt8) (a1-1))))/\
(qn (List.length (([]:List UInt8)++([]:List UInt8))+List.length [(UInt8.ofNat (Int.toNat ((bx ([88,76,66,83,77,81,70,90]:List UInt8) (a1-1)))))]))/\
((-4<=a2/\a2<=100))/\
(qn (List.length ((([]:List UInt8)++([]:List UInt8))++[(UInt8.ofNat (Int.toNat ((bx ([88,76,66,83,77,81,70,90]:List UInt8) (a1-1)))))])+List.length (qu a2)))/\
(((a3=(-1)->
(qn (List.length (((([]:List UInt8)++([]:List UInt8))++[(UInt8.ofNat (Int.toNat ((bx ([88,76,66,83,77,81,70,90]:List UInt8) (a1-1)))))])++(qu a2))+List.length ([98]:List UInt8)))/\
(qhl a0 a1 a2 a3 a4 a5 a6 a7 a8 a9 a10 a11 a12 a13 a14 a15 a16 (
(qbl a0 a1 a2 a3 a4 a5 a6 a7 a8 a9 a10 a11 a12 a13 a14 a15 a16 ((((([]:List UInt8)++([]:List UInt8))++[(UInt8.ofNat (Int.toNat ((bx ([88,76,66,83,77,81,70,90]:List UInt8) (a1-1)))))])++(qu a2))++([98]:List UInt8)) (((([]:List UInt8)++([]:List UInt8))++[(UInt8.ofNat (Int.toNat ((bx ([88,76,66,83,77,81,70,90]:List UInt8) (a1-1)))))])++(qu a2)) a3)/\
 True))))/\
(a3≠(-1)->
(qhl a0 a1 a2 a3 a4 a5 a6 a7 a8 a9 a10 a11 a12 a13 a14 a15 a16 (
(qbl a0 a1 a2 a3 a4 a5 a6 a7 a8 a9 a10 a11 a12 a13 a14 a15 a16 (((([]:List UInt8)++([]:List UInt8))++[(UInt8.ofNat (Int.toNat ((bx ([88,76,66,83,77,81,70,90]:List UInt8) (a1-1)))))])++(qu a2)) (((([]:List UInt8)++([]:List UInt8))++[(UInt8.ofNat (Int.toNat ((bx ([88,76,66,83,77,81,70,90]:List UInt8) (a1-1)))))])++(qu a2)) a3)/\
 True))))/\
(∀ x2:List UInt8,
(qbl a0 a1 a2 a3 a4 a5 a6 a7 a8 a9 a10 a11 a12 a13 a14 a15 a16 x2 (((([]:List UInt8)++([]:List UInt8))++[(UInt8.ofNat (Int.toNat ((bx ([88,76,66,83,77,81,70,90]:List UInt8) (a1-1)))))])++(qu a2)) a3->
(((a3=1->
(qn (List.length x2+List.length ([35]:List UInt8)))/\
(qhl a0 a1 a2 a3 a4 a5 a6 a7 a8 a9 a10 a11 a12 a13 a14 a15 a16 (
(qbm a0 a1 a2 a3 a4 a5 a6 a7 a8 a9 a10 a11 a12 a13 a14 a15 a16 (x2++([35]:List UInt8)) x2 a3)/\
 True))))/\
(a3≠1->
(qhl a0 a1 a2 a3 a4 a5 a6 a7 a8 a9 a10 a11 a12 a13 a14 a15 a16 (
(qbm a0 a1 a2 a3 a4 a5 a6 a7 a8 a9 a10 a11 a12 a13 a14 a15 a16 x2 x2 a3)/\
 True))))/\
(∀ x4:List UInt8,
(qbm a0 a1 a2 a3 a4 a5 a6 a7 a8 a9 a10 a11 a12 a13 a14 a15 a16 x4 x2 a3->
(((a3=2->
(qn (List.length x4+List.length ([110]:List UInt8)))/\
(qhl a0 a1 a2 a3 a4 a5 a6 a7 a8 a9 a10 a11 a12 a13 a14 a15 a16 (
(qbn a0 a1 a2 a3 a4 a5 a6 a7 a8 a9 a10 a11 a12 a13 a14 a15 a16 (x4++([110]:List UInt8)) x4 a3)/\
 True))))/\
(a3≠2->
(qhl a0 a1 a2 a3 a4 a5 a6 a7 a8 a9 a10 a11 a12 a13 a14 a15 a16 (
(qbn a0 a1 a2 a3 a4 a5 a6 a7 a8 a9 a10 a11 a12 a13 a14 a15 a16 x4 x4 a3)/\
 True))))/\
(∀ x6:List UInt8,
(qbn a0 a1 a2 a3 a4 a5 a6 a7 a8 a9 a10 a11 a12 a13 a14 a15 a16 x6 x4 a3->
((a4=true->
(qn (List.length x6+List.length ([42]:List UInt8)))/\
((ln (x6++([42]:List UInt8)))<=140737488355328)/\
((x6++([42]:List UInt8))=((qq (Sign.mk a0 a1 a2 a3 a4 a5 a6 a7 a8 a9 a10 a11 a12 a13 a14 a15 a16)).1))/\
((0:Int)=((qq (Sign.mk a0 a1 a2 a3 a4 a5 a6 a7 a8 a9 a10 a11 a12 a13 a14 a15 a16)).2))/\
 True))/\
(a4=false->
((ln x6)<=140737488355328)/\
(x6=((qq (Sign.mk a0 a1 a2 a3 a4 a5 a6 a7 a8 a9 a10 a11 a12 a13 a14 a15 a16)).1))/\
((0:Int)=((qq (Sign.mk a0 a1 a2 a3 a4 a5 a6 a7 a8 a9 a10 a11 a12 a13 a14 a15 a16)).2))/\
 True)))))))))/\
(((a0:Int)=2->
(qn (List.length ([]:List UInt8)+List.length ([114]:List UInt8)))/\
(I64 (a1-1))/\
(Wn (a1-1) (ln ([88,76,66,83,77,81,70,90]:List UInt8)))/\
(U8 ((bx ([88,76,66,83,77,81,70,90]:List UInt8) (a1-1))))/\
(qn (List.length (([]:List UInt8)++([114]:List UInt8))+List.length [(UInt8.ofNat (Int.toNat ((bx ([88,76,66,83,77,81,70,90]:List UInt8) (a1-1)))))]))/\
((ln ((([]:List UInt8)++([114]:List UInt8))++[(UInt8.ofNat (Int.toNat ((bx ([88,76,66,83,77,81,70,90]:List UInt8) (a1-1)))))]))<=140737488355328)/\
(((([]:List UInt8)++([114]:List UInt8))++[(UInt8.ofNat (Int.toNat ((bx ([88,76,66,83,77,81,70,90]:List UInt8) (a1-1)))))])=((qq (Sign.mk a0 a1 a2 a3 a4 a5 a6 a7 a8 a9 a10 a11 a12 a13 a14 a15 a16)).1))/\
((0:Int)=((qq (Sign.mk a0 a1 a2 a3 a4 a5 a6 a7 a8 a9 a10 a11 a12 a13 a14 a15 a16)).2))/\
 True))/\
(((a0:Int)=3->
(qn (List.length ([]:List UInt8)+List.length ([46]:List UInt8)))/\
((ln (([]:List UInt8)++([46]:List UInt8)))<=140737488355328)/\
((([]:List UInt8)++([46]:List UInt8))=((qq (Sign.mk a0 a1 a2 a3 a4 a5 a6 a7 a8 a9 a10 a11 a12 a13 a14 a15 a16)).1))/\
((0:Int)=((qq (Sign.mk a0 a1 a2 a3 a4 a5 a6 a7 a8 a9 a10 a11 a12 a13 a14 a15 a16)).2))/\
 True))/\
(((a0:Int)=4->
(qn (List.length ([]:List UInt8)+List.length ([116]:List UInt8)))/\
((-4<=a2/\a2<=100))/\
(qn (List.length (([]:List UInt8)++([116]:List UInt8))+List.length (qu a2)))/\
(((a3=(-1)->
(qn (List.length ((([]:List UInt8)++([116]:List UInt8))++(qu a2))+List.length ([98]:List UInt8)))/\
(qhm a0 a1 a2 a3 a4 a5 a6 a7 a8 a9 a10 a11 a12 a13 a14 a15 a16 (
(qbl a0 a1 a2 a3 a4 a5 a6 a7 a8 a9 a10 a11 a12 a13 a14 a15 a16 (((([]:List UInt8)++([116]:List UInt8))++(qu a2))++([98]:List UInt8)) ((([]:List UInt8)++([116]:List UInt8))++(qu a2)) a3)/\
 True))))/\
(a3≠(-1)->
(qhm a0 a1 a2 a3 a4 a5 a6 a7 a8 a9 a10 a11 a12 a13 a14 a15 a16 (
(qbl a0 a1 a2 a3 a4 a5 a6 a7 a8 a9 a10 a11 a12 a13 a14 a15 a16 ((([]:List UInt8)++([116]:List UInt8))++(qu a2)) ((([]:List UInt8)++([116]:List UInt8))++(qu a2)) a3)/\
 True))))/\
(∀ x2:List UInt8,
(qbl a0 a1 a2 a3 a4 a5 a6 a7 a8 a9 a10 a11 a12 a13 a14 a15 a16 x2 ((([]:List UInt8)++([116]:List UInt8))++(qu a2)) a3->
(((a3=1->
(qn (List.length x2+List.length ([35]:List UInt8)))/\
(qhm a0 a1 a2 a3 a4 a5 a6 a7 a8 a9 a10 a11 a12 a13 a14 a15 a16 (
(qbm a0 a1 a2 a3 a4 a5 a6 a7 a8 a9 a10 a11 a12 a13 a14 a15 a16 (x2++([35]:List UInt8)) x2 a3)/\
 True))))/\
(a3≠1->
(qhm a0 a1 a2 a3 a4 a5 a6 a7 a8 a9 a10 a11 a12 a13 a14 a15 a16 (
(qbm a0 a1 a2 a3 a4 a5 a6 a7 a8 a9 a10 a11 a12 a13 a14 a15 a16 x2 x2 a3)/\
 True))))/\
(∀ x4:List UInt8,
(qbm a0 a1 a2 a3 a4 a5 a6 a7 a8 a9 a10 a11 a12 a13 a14 a15 a16 x4 x2 a3->
(((a3=2->
(qn (List.length x4+List.length ([110]:List UInt8)))/\
(qhm a0 a1 a2 a3 a4 a5 a6 a7 a8 a9 a10 a11 a12 a13 a14 a15 a16 (
(qbn a0 a1 a2 a3 a4 a5 a6 a7 a8 a9 a10 a11 a12 a13 a14 a15 a16 (x4++([110]:List UInt8)) x4 a3)/\
 True))))/\
(a3≠2->
(qhm a0 a1 a2 a3 a4 a5 a6 a7 a8 a9 a10 a11 a12 a13 a14 a15 a16 (
(qbn a0 a1 a2 a3 a4 a5 a6 a7 a8 a9 a10 a11 a12 a13 a14 a15 a16 x4 x4 a3)/\
 True))))/\
(∀ x6:List UInt8,
(qbn a0 a1 a2 a3 a4 a5 a6 a7 a8 a9 a10 a11 a12 a13 a14 a15 a16 x6 x4 a3->
((a4=true->
(qn (List.length x6+List.length ([42]:List UInt8)))/\
((I64 (a5+1))/\
((0:Int)<=a5/\(a5:Int)<=(a5+1)/\(a5+1)<=ln ([32,94,118,62]:List UInt8))/\
((0<a5->
(qn (List.length (x6++([42]:List UInt8))+List.length (sub ([32,94,118,62]:List UInt8) a5 (a5+1))))/\
(qe6 a0 a1 a2 a3 a4 a5 a6 a7 a8 a9 a10 a11 a12 a13 a14 a15 a16 (
(qbo a0 a1 a2 a3 a4 a5 a6 a7 a8 a9 a10 a11 a12 a13 a14 a15 a16 ((x6++([42]:List UInt8))++(sub ([32,94,118,62]:List UInt8) a5 (a5+1))) (x6++([42]:List UInt8)) a5)/\
 True))))/\
(a5<=0->
(qe6 a0 a1 a2 a3 a4 a5 a6 a7 a8 a9 a10 a11 a12 a13 a14 a15 a16 (
(qbo a0 a1 a2 a3 a4 a5 a6 a7 a8 a9 a10 a11 a12 a13 a14 a15 a16 (x6++([42]:List UInt8)) (x6++([42]:List UInt8)) a5)/\
 True))))/\
(∀ x9:List UInt8,
(qbo a0 a1 a2 a3 a4 a5 a6 a7 a8 a9 a10 a11 a12 a13 a14 a15 a16 x9 (x6++([42]:List UInt8)) a5->
(((a6=true->
(qn (List.length x9+List.length ([126]:List UInt8)))/\
(qe6 a0 a1 a2 a3 a4 a5 a6 a7 a8 a9 a10 a11 a12 a13 a14 a15 a16 (
(qbp a0 a1 a2 a3 a4 a5 a6 a7 a8 a9 a10 a11 a12 a13 a14 a15 a16 (x9++([126]:List UInt8)) x9 a6)/\
 True))))/\
(a6=false->
(qe6 a0 a1 a2 a3 a4 a5 a6 a7 a8 a9 a10 a11 a12 a13 a14 a15 a16 (
(qbp a0 a1 a2 a3 a4 a5 a6 a7 a8 a9 a10 a11 a12 a13 a14 a15 a16 x9 x9 a6)/\
 True))))/\
(∀ x11:List UInt8,
(qbp a0 a1 a2 a3 a4 a5 a6 a7 a8 a9 a10 a11 a12 a13 a14 a15 a16 x11 x9 a6->
((a7=true->
(qn (List.length x11+List.length ([33]:List UInt8)))/\
((ln (x11++([33]:List UInt8)))<=140737488355328)/\
((x11++([33]:List UInt8))=((qq (Sign.mk a0 a1 a2 a3 a4 a5 a6 a7 a8 a9 a10 a11 a12 a13 a14 a15 a16)).1))/\
((0:Int)=((qq (Sign.mk a0 a1 a2 a3 a4 a5 a6 a7 a8 a9 a10 a11 a12 a13 a14 a15 a16)).2))/\
 True))/\
(a7=false->
((ln x11)<=140737488355328)/\
(x11=((qq (Sign.mk a0 a1 a2 a3 a4 a5 a6 a7 a8 a9 a10 a11 a12 a13 a14 a15 a16)).1))/\
((0:Int)=((qq (Sign.mk a0 a1 a2 a3 a4 a5 a6 a7 a8 a9 a10 a11 a12 a13 a14 a15 a16)).2))/\
 True)))))))/\
(a4=false->
((I64 (a5+1))/\
((0:Int)<=a5/\(a5:Int)<=(a5+1)/\(a5+1)<=ln ([32,94,118,62]:List UInt8))/\
((0<a5->
(qn (List.length x6+List.length (sub ([32,94,118,62]:List UInt8) a5 (a5+1))))/\
(qe6 a0 a1 a2 a3 a4 a5 a6 a7 a8 a9 a10 a11 a12 a13 a14 a15 a16 (
(qbo a0 a1 a2 a3 a4 a5 a6 a7 a8 a9 a10 a11 a12 a13 a14 a15 a16 (x6++(sub ([32,94,118,62]:List UInt8) a5 (a5+1))) x6 a5)/\
 True))))/\
(a5<=0->
(qe6 a0 a1 a2 a3 a4 a5 a6 a7 a8 a9 a10 a11 a12 a13 a14 a15 a16 (
(qbo a0 a1 a2 a3 a4 a5 a6 a7 a8 a9 a10 a11 a12 a13 a14 a15 a16 x6 x6 a5)/\
 True))))/\
(∀ x9:List UInt8,
(qbo a0 a1 a2 a3 a4 a5 a6 a7 a8 a9 a10 a11 a12 a13 a14 a15 a16 x9 x6 a5->
(((a6=true->
(qn (List.length x9+List.length ([126]:List UInt8)))/\
(qe6 a0 a1 a2 a3 a4 a5 a6 a7 a8 a9 a10 a11 a12 a13 a14 a15 a16 (
(qbp a0 a1 a2 a3 a4 a5 a6 a7 a8 a9 a10 a11 a12 a13 a14 a15 a16 (x9++([126]:List UInt8)) x9 a6)/\
 True))))/\
(a6=false->
(qe6 a0 a1 a2 a3 a4 a5 a6 a7 a8 a9 a10 a11 a12 a13 a14 a15 a16 (
(qbp a0 a1 a2 a3 a4 a5 a6 a7 a8 a9 a10 a11 a12 a13 a14 a15 a16 x9 x9 a6)/\
 True))))/\
(∀ x11:List UInt8,
(qbp a0 a1 a2 a3 a4 a5 a6 a7 a8 a9 a10 a11 a12 a13 a14 a15 a16 x11 x9 a6->
((a7=true->
(qn (List.length x11+List.length ([33]:List UInt8)))/\
((ln (x11++([33]:List UInt8)))<=140737488355328)/\
((x11++([33]:List UInt8))=((qq (Sign.mk a0 a1 a2 a3 a4 a5 a6 a7 a8 a9 a10 a11 a12 a13 a14 a15 a16)).1))/\
((0:Int)=((qq (Sign.mk a0 a1 a2 a3 a4 a5 a6 a7 a8 a9 a10 a11 a12 a13 a14 a15 a16)).2))/\
 True))/\
(a7=false->
((ln x11)<=140737488355328)/\
(x11=((qq (Sign.mk a0 a1 a2 a3 a4 a5 a6 a7 a8 a9 a10 a11 a12 a13 a14 a15 a16)).1))/\
((0:Int)=((qq (Sign.mk a0 a1 a2 a3 a4 a5 a6 a7 a8 a9 a10 a11 a12 a13 a14 a15 a16)).2))/\
 True))))))))))))))/\
(((a0:Int)=5->
(qn (List.length ([]:List UInt8)+List.length ([40]:List UInt8)))/\
(True)/\
(qn (List.length ((zs a8 a9 a10 a11).1)+List.length ([41]:List UInt8)))/\
(qn (List.length (([]:List UInt8)++([40]:List UInt8))+List.length (((zs a8 a9 a10 a11).1)++([41]:List UInt8))))/\
((a12=true->
(qn (List.length ((([]:List UInt8)++([40]:List UInt8))++(((zs a8 a9 a10 a11).1)++([41]:List UInt8)))+List.length ([124]:List UInt8)))/\
((ln (((([]:List UInt8)++([40]:List UInt8))++(((zs a8 a9 a10 a11).1)++([41]:List UInt8)))++([124]:List UInt8)))<=140737488355328)/\
((((([]:List UInt8)++([40]:List UInt8))++(((zs a8 a9 a10 a11).1)++([41]:List UInt8)))++([124]:List UInt8))=((qq (Sign.mk a0 a1 a2 a3 a4 a5 a6 a7 a8 a9 a10 a11 a12 a13 a14 a15 a16)).1))/\
((0:Int)=((qq (Sign.mk a0 a1 a2 a3 a4 a5 a6 a7 a8 a9 a10 a11 a12 a13 a14 a15 a16)).2))/\
 True))/\
(a12=false->
((ln ((([]:List UInt8)++([40]:List UInt8))++(((zs a8 a9 a10 a11).1)++([41]:List UInt8))))<=140737488355328)/\
(((([]:List UInt8)++([40]:List UInt8))++(((zs a8 a9 a10 a11).1)++([41]:List UInt8)))=((qq (Sign.mk a0 a1 a2 a3 a4 a5 a6 a7 a8 a9 a10 a11 a12 a13 a14 a15 a16)).1))/\
((0:Int)=((qq (Sign.mk a0 a1 a2 a3 a4 a5 a6 a7 a8 a9 a10 a11 a12 a13 a14 a15 a16)).2))/\
 True)))/\
(((a0:Int)=6->
(qn (List.length ([]:List UInt8)+List.length ([]:List UInt8)))/\
((-4<=a13/\a13<=100))/\
(qn (List.length (([]:List UInt8)++([]:List UInt8))+List.length (qu a13)))/\
(U8 (47))/\
(qn (List.length ((([]:List UInt8)++([]:List UInt8))++(qu a13))+List.length [(UInt8.ofNat (Int.toNat (47)))]))/\
((-4<=a14/\a14<=100))/\
(qn (List.length (((([]:List UInt8)++([]:List UInt8))++(qu a13))++[(UInt8.ofNat (Int.toNat (47)))])+List.length (qu a14)))/\
((ln ((((([]:List UInt8)++([]:List UInt8))++(qu a13))++[(UInt8.ofNat (Int.toNat (47)))])++(qu a14)))<=140737488355328)/\
(((((([]:List UInt8)++([]:List UInt8))++(qu a13))++[(UInt8.ofNat (Int.toNat (47)))])++(qu a14))=((qq (Sign.mk a0 a1 a2 a3 a4 a5 a6 a7 a8 a9 a10 a11 a12 a13 a14 a15 a16)).1))/\
((0:Int)=((qq (Sign.mk a0 a1 a2 a3 a4 a5 a6 a7 a8 a9 a10 a11 a12 a13 a14 a15 a16)).2))/\
 True))/\
(((a0:Int)=7->
(qn (List.length ([]:List UInt8)+List.length ([64]:List UInt8)))/\
(Wn a15 (ln ([67,46,46,70,71]:List UInt8)))/\
(U8 ((bx ([67,46,46,70,71]:List UInt8) a15)))/\
(qn (List.length (([]:List UInt8)++([64]:List UInt8))+List.length [(UInt8.ofNat (Int.toNat ((bx ([67,46,46,70,71]:List UInt8) a15))))]))/\
((-4<=a16/\a16<=100))/\
(qn (List.length ((([]:List UInt8)++([64]:List UInt8))++[(UInt8.ofNat (Int.toNat ((bx ([67,46,46,70,71]:List UInt8) a15))))])+List.length (qu a16)))/\
((ln (((([]:List UInt8)++([64]:List UInt8))++[(UInt8.ofNat (Int.toNat ((bx ([67,46,46,70,71]:List UInt8) a15))))])++(qu a16)))<=140737488355328)/\
((((([]:List UInt8)++([64]:List UInt8))++[(UInt8.ofNat (Int.toNat ((bx ([67,46,46,70,71]:List UInt8) a15))))])++(qu a16))=((qq (Sign.mk a0 a1 a2 a3 a4 a5 a6 a7 a8 a9 a10 a11 a12 a13 a14 a15 a16)).1))/\
((0:Int)=((qq (Sign.mk a0 a1 a2 a3 a4 a5 a6 a7 a8 a9 a10 a11 a12 a13 a14 a15 a16)).2))/\
 True))/\
(((a0:Int)=8->
(qn (List.length ([]:List UInt8)+List.length ([38]:List UInt8)))/\
((-4<=a13/\a13<=100))/\
(qn (List.length (([]:List UInt8)++([38]:List UInt8))+List.length (qu a13)))/\
((ln ((([]:List UInt8)++([38]:List UInt8))++(qu a13)))<=140737488355328)/\
(((([]:List UInt8)++([38]:List UInt8))++(qu a13))=((qq (Sign.mk a0 a1 a2 a3 a4 a5 a6 a7 a8 a9 a10 a11 a12 a13 a14 a15 a16)).1))/\
((0:Int)=((qq (Sign.mk a0 a1 a2 a3 a4 a5 a6 a7 a8 a9 a10 a11 a12 a13 a14 a15 a16)).2))/\
 True))/\
(((a0:Int)=9->
(qn (List.length ([]:List UInt8)+List.length ([91]:List UInt8)))/\
((ln (([]:List UInt8)++([91]:List UInt8)))<=140737488355328)/\
((([]:List UInt8)++([91]:List UInt8))=((qq (Sign.mk a0 a1 a2 a3 a4 a5 a6 a7 a8 a9 a10 a11 a12 a13 a14 a15 a16)).1))/\
((0:Int)=((qq (Sign.mk a0 a1 a2 a3 a4 a5 a6 a7 a8 a9 a10 a11 a12 a13 a14 a15 a16)).2))/\
 True))/\
(((a0:Int)=10->
(qn (List.length ([]:List UInt8)+List.length ([93]:List UInt8)))/\
((-4<=a13/\a13<=100))/\
(qn (List.length (([]:List UInt8)++([93]:List UInt8))+List.length (qu a13)))/\
((ln ((([]:List UInt8)++([93]:List UInt8))++(qu a13)))<=140737488355328)/\
(((([]:List UInt8)++([93]:List UInt8))++(qu a13))=((qq (Sign.mk a0 a1 a2 a3 a4 a5 a6 a7 a8 a9 a10 a11 a12 a13 a14 a15 a16)).1))/\
((0:Int)=((qq (Sign.mk a0 a1 a2 a3 a4 a5 a6 a7 a8 a9 a10 a11 a12 a13 a14 a15 a16)).2))/\
 True))/\
(((a0:Int)=11->
(qn (List.length ([]:List UInt8)+List.length ([116,117,114,110]:List UInt8)))/\
((ln (([]:List UInt8)++([116,117,114,110]:List UInt8)))<=140737488355328)/\
((([]:List UInt8)++([116,117,114,110]:List UInt8))=((qq (Sign.mk a0 a1 a2 a3 a4 a5 a6 a7 a8 a9 a10 a11 a12 a13 a14 a15 a16)).1))/\
((0:Int)=((qq (Sign.mk a0 a1 a2 a3 a4 a5 a6 a7 a8 a9 a10 a11 a12 a13 a14 a15 a16)).2))/\
 True))/\
(((a0:Int)=12->
(qn (List.length ([]:List UInt8)+List.length ([115,105,103]:List UInt8)))/\
((ln (([]:List UInt8)++([115,105,103]:List UInt8)))<=140737488355328)/\
((([]:List UInt8)++([115,105,103]:List UInt8))=((qq (Sign.mk a0 a1 a2 a3 a4 a5 a6 a7 a8 a9 a10 a11 a12 a13 a14 a15 a16)).1))/\
((0:Int)=((qq (Sign.mk a0 a1 a2 a3 a4 a5 a6 a7 a8 a9 a10 a11 a12 a13 a14 a15 a16)).2))/\
 True))/\
 True)
theorem q6v (a0:Int) (a1:Int) (a2:Int) (a3:Int) (a4:Bool) (a5:Int) (a6:Bool) (a7:Bool) (a8:Int) (a9:Int) (a10:Int) (a11:Int) (a12:Bool) (a13:Int) (a14:Int) (a15:Int) (a16:Int):j9 (qk XK (ji q4g) (fun j ns=>match j,ns with | 0,[.l 0 y0,.l 0 y1,.i y2]=>qbl a0 a1 a2 a3 a4 a5 a6 a7 a8 a9 a10 a11 a12 a13 a14 a15 a16 y0 y1 y2 | 1,[.l 0 y0,.l 0 y1,.i y2]=>qbm a0 a1 a2 a3 a4 a5 a6 a7 a8 a9 a10 a11 a12 a13 a14 a15 a16 y0 y1 y2 | 2,[.l 0 y0,.l 0 y1,.i y2]=>qbn a0 a1 a2 a3 a4 a5 a6 a7 a8 a9 a10 a11 a12 a13 a14 a15 a16 y0 y1 y2 | 3,[.l 0 y0,.l 0 y1,.i y2]=>qbo a0 a1 a2 a3 a4 a5 a6 a7 a8 a9 a10 a11 a12 a13 a14 a15 a16 y0 y1 y2 | 4,[.l 0 y0,.l 0 y1,.b y2]=>qbp a0 a1 a2 a3 a4 a5 a6 a7 a8 a9 a10 a11 a12 a13 a14 a15 a16 y0 y1 y2 | _,_=>False) (fun _ _=>0)) {cfg sp with ann:=j7 [(63,7,.cut 0 [.via 0 [.keep,.list 0 true true]] [.via 0 [.keep,.list 0 false false],.via 3 [.keep,.keep,.keep,.int .i64,.keep,.keep,.keep,.keep,.keep,.keep,.keep,.keep,.keep,.keep,.keep,.keep,.keep]]),(63,15,.cut 1 [.via 0 [.keep,.list 0 true true]] [.via 0 [.keep,.list 0 false false],.via 3 [.keep,.keep,.keep,.int .i64,.keep,.keep,.keep,.keep,.keep,.keep,.keep,.keep,.keep,.keep,.keep,.keep,.keep]]),(63,31,.cut 2 [.via 0 [.keep,.list 0 true true]] [.via 0 [.keep,.list 0 false false],.via 3 [.keep,.keep,.keep,.int .i64,.keep,.keep,.keep,.keep,.keep,.keep,.keep,.keep,.keep,.keep,.keep,.keep,.keep]]),(71,7,.cut 3 [.via 0 [.keep,.list 0 true true]] [.via 0 [.keep,.list 0 false false],.via 3 [.keep,.keep,.keep,.keep,.keep,.int .i64,.keep,.keep,.keep,.keep,.keep,.keep,.keep,.keep,.keep,.keep,.keep]]),(71,15,.cut 4 [.via 0 [.keep,.list 0 true true]] [.via 0 [.keep,.list 0 false false],.via 3 [.keep,.keep,.keep,.keep,.keep,.keep,.bool,.keep,.keep,.keep,.keep,.keep,.keep,.keep,.keep,.keep,.keep]])]} 8 10 [.agg [.int .i64 none (a0),.int .i64 none (a1),.int .i64 none (a2),.int .i64 none (a3),.sb 0 false (a4) (a4=true) (a4=false),.int .i64 none (a5),.sb 0 false (a6) (a6=true) (a6=false),.sb 0 false (a7) (a7=true) (a7=false),.int .i64 none (a8),.int .i64 none (a9),.int .i64 none (a10),.int .i64 none (a11),.sb 0 false (a12) (a12=true) (a12=false),.int .i64 none (a13),.int .i64 none (a14),.int .i64 none (a15),.int .i64 none (a16)]] (qtt a0 a1 a2 a3 a4 a5 a6 a7 a8 a9 a10 a11 a12 a13 a14 a15 a16)=qqn a0 a1 a2 a3 a4 a5 a6 a7 a8 a9 a10 a11 a12 a13 a14 a15 a16:=by kernel_rfl
end Go.Proofs.YtbopmiclcimjgaaGreatDoor
