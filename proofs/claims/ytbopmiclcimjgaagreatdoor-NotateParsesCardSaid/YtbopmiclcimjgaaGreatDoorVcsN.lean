import Derived.Test.YtbopmiclcimjgaaGreatDoorCts
namespace Go.Proofs.YtbopmiclcimjgaaGreatDoor
open Go Go.E2 Go.E3
set_option maxRecDepth 100000
variable {sp:Nat->Option (List V->Heap->Option (CR×Heap))}
def zl (a0:ZB) (r0:Int) (r1:Int) (r2:Int) (r3:Int) (r4:Bool) (r5:Int) (r6:Bool) (r7:Bool) (r8:Int) (r9:Int) (r10:Int) (r11:Int) (r12:Bool) (r13:Int) (r14:Int) (r15:Int) (r16:Int) (r17:Int):Prop:=
((r0:Int)=(((zj a0).1).Kind))/\
((r1:Int)=(((zj a0).1).Value))/\
((r2:Int)=(((zj a0).1).Place))/\
((r3:Int)=(((zj a0).1).Acc))/\
(r4=(((zj a0).1).Color))/\
((r5:Int)=(((zj a0).1).Stem))/\
(r6=(((zj a0).1).Oblique))/\
(r7=(((zj a0).1).Last))/\
((r8:Int)=(((zj a0).1).MensMax))/\
((r9:Int)=(((zj a0).1).MensMod))/\
((r10:Int)=(((zj a0).1).MensTem))/\
((r11:Int)=(((zj a0).1).MensPro))/\
(r12=(((zj a0).1).Stroke))/\
((r13:Int)=(((zj a0).1).N))/\
((r14:Int)=(((zj a0).1).D))/\
((r15:Int)=(((zj a0).1).ClefStep))/\
((r16:Int)=(((zj a0).1).ClefLine))/\
((r17:Int)=((zj a0).2))/\
 True
def zdt:List (Nat×Ct KT):=[(117,qtn),(94,zqb),(136,zh2),(74,zp7),(77,zmm),(78,zp8),(118,zbb),(32,zmb)]
abbrev qzn (a0:ZB):PV KT:=.tuple [.agg [.int .i64 none ((((zj a0).1).Kind)),.int .i64 none ((((zj a0).1).Value)),.int .i64 none ((((zj a0).1).Place)),.int .i64 none ((((zj a0).1).Acc)),.sb 0 false ((((zj a0).1).Color)) ((((zj a0).1).Color)=true) ((((zj a0).1).Color)=false),.int .i64 none ((((zj a0).1).Stem)),.sb 0 false ((((zj a0).1).Oblique)) ((((zj a0).1).Oblique)=true) ((((zj a0).1).Oblique)=false),.sb 0 false ((((zj a0).1).Last)) ((((zj a0).1).Last)=true) ((((zj a0).1).Last)=false),.int .i64 none ((((zj a0).1).MensMax)),.int .i64 none ((((zj a0).1).MensMod)),.int .i64 none ((((zj a0).1).MensTem)),.int .i64 none ((((zj a0).1).MensPro)),.sb 0 false ((((zj a0).1).Stroke)) ((((zj a0).1).Stroke)=true) ((((zj a0).1).Stroke)=false),.int .i64 none ((((zj a0).1).N)),.int .i64 none ((((zj a0).1).D)),.int .i64 none ((((zj a0).1).ClefStep)),.int .i64 none ((((zj a0).1).ClefLine))],.int .i64 none (((zj a0).2))]
abbrev qiv (v0:ZB) (v1:Bool) (v2:Int) (p:Prop):Prop:=
(v0=v0)/\
(v1=v1)/\
((v2:Int)=v2)/\
(([]:ZB)=([]:ZB))/\
 p
abbrev ql3 (v0:ZB) (v1:Bool) (v2:Int) (v3:ZB) (v4:Int) (v5:Int) (p:Prop):Prop:=
(v0=v0)/\
(v1=v1)/\
((v2:Int)=v2)/\
((((k8 (v3++(sub v0 v4 v5))).1):Int)=((k8 (v3++(sub v0 v4 v5))).1))/\
(([]:ZB)=([]:ZB))/\
 p
abbrev qf1 (v0:ZB) (p:Prop):Prop:=
(v0=v0)/\
(([116]:ZB)=([116]:ZB))/\
 p
abbrev ql4 (v0:ZB) (v1:Bool) (v2:ZB) (v3:Int) (v4:Int) (p:Prop):Prop:=
(v0=v0)/\
(v1=v1)/\
((((k8 (v2++(sub v0 v3 v4))).1):Int)=((k8 (v2++(sub v0 v3 v4))).1))/\
(([116]:ZB)=([116]:ZB))/\
 p
abbrev ql5 (v0:ZB) (v1:Bool) (v2:Int) (v3:Int) (v4:Bool) (p:Prop):Prop:=
(v0=v0)/\
(v1=v1)/\
((v2:Int)=v2)/\
((v3:Int)=v3)/\
(v4=v4)/\
(([116]:ZB)=([116]:ZB))/\
 p
abbrev ql6 (v0:ZB) (v1:Bool) (v2:Int) (p:Prop):Prop:=
(v0=v0)/\
(v1=v1)/\
((((qi (sub v0 (0+(ln ([]:ZB))) v2)).1):Int)=((qi (sub v0 (0+(ln ([]:ZB))) v2)).1))/\
(([]:ZB)=([]:ZB))/\
 p
abbrev qvs (a0:ZB):Prop:=
 let l12_:=0+(ln ([40]:ZB));
 let l7_:=0+(ln ([116]:ZB));
 let l6_:=0+(ln ([114]:ZB));
 let l5_:=0+(ln ([93]:ZB));
 let l4_:=0+(ln ([38]:ZB));
 let l3_:=0+(ln ([64]:ZB));
 let l1_:=0+(ln ([]:ZB));
 let l0_:=l12_+(if (jh (fr a0 l12_) 41) > 0 then (jh (fr a0 l12_) 41) else 0);
 let l9_:=l0_+(ln ([41]:ZB));
 let l2_:=kc (sub a0 l12_ l0_);
(fun r1_:Int=>
(fun r0_:Int=>
((qd a0 0)/\
 True)/\
(qd a0 0->
(((0:Int)<=0/\0<=ln a0)/\
(True)/\
(((preB (fr a0 0) ([]:ZB))=true->
(I64 l1_)/\
((kj a0 0 l1_)/\
(∀ x2:Int,
 let l13_:=sub ([88,76,66,83,77,81,70,90]:ZB) x2 (x2+1);
(kj a0 x2 l1_->
((x2<8->
(I64 (x2+1))/\
((0:Int)<=x2/\(x2:Int)<=(x2+1)/\(x2+1)<=ln ([88,76,66,83,77,81,70,90]:ZB))/\
((0:Int)<=l1_/\l1_<=ln a0)/\
(True)/\
(((preB (fr a0 l1_) l13_)=true->
(I64 (l1_+(ln l13_)))/\
(I64 (x2+1))/\
(a0=a0)/\
(([]:ZB)=([]:ZB))/\
(qbu a0 (l1_+(ln l13_)) false (x2+1))/\
 True))/\
((preB (fr a0 l1_) l13_)=false->
(I64 (x2+1))/\
(a0=a0)/\
((l1_:Int)=l1_)/\
(([]:ZB)=([]:ZB))/\
(kj a0 (x2+1) l1_)/\
 qci a0 (x2+1) l1_<qci a0 x2 l1_)))/\
(8<=x2->
(a0=a0)/\
(([]:ZB)=([]:ZB))/\
(qbu a0 l1_ true 0)/\
 True))))/\
(∀ x2:Int,
(∀ x3:Bool,
(∀ x4:Int,
(qbu a0 x2 x3 x4->
(((0:Int)<=x2/\x2<=ln a0)/\
(True)/\
(((preB (fr a0 x2) ([45]:ZB))=true->
(I64 (x2+(ln ([45]:ZB))))/\
(qiv a0 x3 x4 (
(ju a0 ([45]:ZB) (x2+(ln ([45]:ZB))) x2)/\
 True))))/\
((preB (fr a0 x2) ([45]:ZB))=false->
(qiv a0 x3 x4 (
(ju a0 ([]:ZB) x2 x2)/\
 True))))/\
(∀ x6:ZB,
(∀ x7:Int,
(ju a0 x6 x7 x2->
((ze a0 x7 x7)/\
(∀ x9:Int,
(ze a0 x9 x7->
((x9<(ln a0)->
(Wn x9 (ln a0))/\
((48<=(bx a0 x9)->
(Wn x9 (ln a0))/\
(((bx a0 x9)<=57->
(I64 (x9+1))/\
(qiv a0 x3 x4 (
(ze a0 (x9+1) x7)/\
 z6 a0 (x9+1) x7<z6 a0 x9 x7))))/\
(57<(bx a0 x9)->
(qiv a0 x3 x4 (
(ql a0 x9 x7)/\
 True)))))/\
((bx a0 x9)<48->
(qiv a0 x3 x4 (
(ql a0 x9 x7)/\
 True)))))/\
((ln a0)<=x9->
(qiv a0 x3 x4 (
(ql a0 x9 x7)/\
 True))))))/\
(∀ x9:Int,
 let l8_:=k8 (x6++(sub a0 x7 x9));
(ql a0 x9 x7->
((0:Int)<=x7/\(x7:Int)<=x9/\x9<=ln a0)/\
(zk (List.length x6+List.length (sub a0 x7 x9)))/\
((ln (x6++(sub a0 x7 x9))<=1000000))/\
(((x3=true->
(a0=a0)/\
((x9:Int)=x9)/\
((x4:Int)=x4)/\
(([]:ZB)=([]:ZB))/\
(qcg a0 true x3 (l8_.2))/\
 True))/\
(x3=false->
(a0=a0)/\
((x9:Int)=x9)/\
((x4:Int)=x4)/\
(([]:ZB)=([]:ZB))/\
(qcg a0 (!(l8_.2)) x3 (l8_.2))/\
 True))/\
(∀ x11:Bool,
(qcg a0 x11 x3 (l8_.2)->
(((0:Int)<=x9/\x9<=ln a0)/\
(True)/\
(((preB (fr a0 x9) ([98]:ZB))=true->
(I64 (x9+(ln ([98]:ZB))))/\
(ql3 a0 x11 x4 x6 x7 x9 (
(zx a0 (x9+(ln ([98]:ZB))) (-1) x9)/\
 True))))/\
((preB (fr a0 x9) ([98]:ZB))=false->
((0:Int)<=x9/\x9<=ln a0)/\
(True)/\
(((preB (fr a0 x9) ([35]:ZB))=true->
(I64 (x9+(ln ([35]:ZB))))/\
(ql3 a0 x11 x4 x6 x7 x9 (
(zx a0 (x9+(ln ([35]:ZB))) 1 x9)/\
 True))))/\
((preB (fr a0 x9) ([35]:ZB))=false->
((0:Int)<=x9/\x9<=ln a0)/\
(True)/\
(((preB (fr a0 x9) ([110]:ZB))=true->
(I64 (x9+(ln ([110]:ZB))))/\
(ql3 a0 x11 x4 x6 x7 x9 (
(zx a0 (x9+(ln ([110]:ZB))) 2 x9)/\
 True))))/\
((preB (fr a0 x9) ([110]:ZB))=false->
(ql3 a0 x11 x4 x6 x7 x9 (
(zx a0 x9 0 x9)/\
 True))))))/\
(∀ x13:Int,
(∀ x14:Int,
(zx a0 x13 x14 x9->
((0:Int)<=x13/\x13<=ln a0)/\
(True)/\
(((preB (fr a0 x13) ([42]:ZB))=true->
(I64 (x13+(ln ([42]:ZB))))/\
((x11=true->
(qd a0 1)/\
 True))/\
(x11=false->
(((x13+(ln ([42]:ZB)))≠(ln a0)->
(qd a0 1)/\
 True))/\
((x13+(ln ([42]:ZB)))=(ln a0)->
(True)/\
(((zn (Sign.mk 1 x4 (l8_.1) x14 true 0 false false 0 0 0 0 false 0 0 0 0))≠0->
 zl a0 0 0 0 0 false 0 false false 0 0 0 0 false 0 0 0 0 (zn (Sign.mk 1 x4 (l8_.1) x14 true 0 false false 0 0 0 0 false 0 0 0 0))))/\
((zn (Sign.mk 1 x4 (l8_.1) x14 true 0 false false 0 0 0 0 false 0 0 0 0))=0->
 zl a0 1 x4 (l8_.1) x14 true 0 false false 0 0 0 0 false 0 0 0 0 0)))))/\
((preB (fr a0 x13) ([42]:ZB))=false->
((x11=true->
(qd a0 1)/\
 True))/\
(x11=false->
((x13≠(ln a0)->
(qd a0 1)/\
 True))/\
(x13=(ln a0)->
(True)/\
(((zn (Sign.mk 1 x4 (l8_.1) x14 false 0 false false 0 0 0 0 false 0 0 0 0))≠0->
 zl a0 0 0 0 0 false 0 false false 0 0 0 0 false 0 0 0 0 (zn (Sign.mk 1 x4 (l8_.1) x14 false 0 false false 0 0 0 0 false 0 0 0 0))))/\
((zn (Sign.mk 1 x4 (l8_.1) x14 false 0 false false 0 0 0 0 false 0 0 0 0))=0->
 zl a0 1 x4 (l8_.1) x14 false 0 false false 0 0 0 0 false 0 0 0 0 0))))))))))))))))))))/\
((preB (fr a0 0) ([]:ZB))=false->
(qd a0 1)/\
 True))/\
(qd a0 1->
(((0:Int)<=0/\0<=ln a0)/\
(True)/\
(((preB (fr a0 0) ([114]:ZB))=true->
(I64 l6_)/\
(kj a0 0 l6_)/\
(∀ x3:Int,
 let l11_:=sub ([88,76,66,83,77,81,70,90]:ZB) x3 (x3+1);
(kj a0 x3 l6_->
((x3<8->
(I64 (x3+1))/\
((0:Int)<=x3/\(x3:Int)<=(x3+1)/\(x3+1)<=ln ([88,76,66,83,77,81,70,90]:ZB))/\
((0:Int)<=l6_/\l6_<=ln a0)/\
(True)/\
(((preB (fr a0 l6_) l11_)=true->
(I64 (l6_+(ln l11_)))/\
(I64 (x3+1))/\
(((l6_+(ln l11_))≠(ln a0)->
(qd a0 2)/\
 True))/\
((l6_+(ln l11_))=(ln a0)->
(True)/\
(((zn (Sign.mk 2 (x3+1) 0 0 false 0 false false 0 0 0 0 false 0 0 0 0))≠0->
 zl a0 0 0 0 0 false 0 false false 0 0 0 0 false 0 0 0 0 (zn (Sign.mk 2 (x3+1) 0 0 false 0 false false 0 0 0 0 false 0 0 0 0))))/\
((zn (Sign.mk 2 (x3+1) 0 0 false 0 false false 0 0 0 0 false 0 0 0 0))=0->
 zl a0 2 (x3+1) 0 0 false 0 false false 0 0 0 0 false 0 0 0 0 0))))/\
((preB (fr a0 l6_) l11_)=false->
(I64 (x3+1))/\
(a0=a0)/\
((l6_:Int)=l6_)/\
(([114]:ZB)=([114]:ZB))/\
(kj a0 (x3+1) l6_)/\
 qci a0 (x3+1) l6_<qci a0 x3 l6_)))/\
(8<=x3->
(qd a0 2)/\
 True)))))/\
((preB (fr a0 0) ([114]:ZB))=false->
(qd a0 2)/\
 True))/\
(qd a0 2->
(((0:Int)<=0/\0<=ln a0)/\
(True)/\
(((preB (fr a0 0) ([46]:ZB))=true->
(I64 (0+(ln ([46]:ZB))))/\
(((0+(ln ([46]:ZB)))≠(ln a0)->
(qd a0 3)/\
 True))/\
((0+(ln ([46]:ZB)))=(ln a0)->
(True)/\
(((zn (Sign.mk 3 0 0 0 false 0 false false 0 0 0 0 false 0 0 0 0))≠0->
 zl a0 0 0 0 0 false 0 false false 0 0 0 0 false 0 0 0 0 (zn (Sign.mk 3 0 0 0 false 0 false false 0 0 0 0 false 0 0 0 0))))/\
((zn (Sign.mk 3 0 0 0 false 0 false false 0 0 0 0 false 0 0 0 0))=0->
 zl a0 3 0 0 0 false 0 false false 0 0 0 0 false 0 0 0 0 0))))/\
((preB (fr a0 0) ([46]:ZB))=false->
(qd a0 3)/\
 True))/\
(qd a0 3->
(((0:Int)<=0/\0<=ln a0)/\
(True)/\
(((preB (fr a0 0) ([116]:ZB))=true->
(I64 l7_)/\
((((0:Int)<=l7_/\l7_<=ln a0)/\
(True)/\
(((preB (fr a0 l7_) ([45]:ZB))=true->
(I64 (l7_+(ln ([45]:ZB))))/\
(qf1 a0 (
(ju a0 ([45]:ZB) (l7_+(ln ([45]:ZB))) l7_)/\
 True))))/\
((preB (fr a0 l7_) ([45]:ZB))=false->
(qf1 a0 (
(ju a0 ([]:ZB) l7_ l7_)/\
 True))))/\
(∀ x5:ZB,
(∀ x6:Int,
(ju a0 x5 x6 l7_->
((ze a0 x6 x6)/\
(∀ x8:Int,
(ze a0 x8 x6->
((x8<(ln a0)->
(Wn x8 (ln a0))/\
((48<=(bx a0 x8)->
(Wn x8 (ln a0))/\
(((bx a0 x8)<=57->
(I64 (x8+1))/\
(qf1 a0 (
(ze a0 (x8+1) x6)/\
 z6 a0 (x8+1) x6<z6 a0 x8 x6))))/\
(57<(bx a0 x8)->
(qf1 a0 (
(ql a0 x8 x6)/\
 True)))))/\
((bx a0 x8)<48->
(qf1 a0 (
(ql a0 x8 x6)/\
 True)))))/\
((ln a0)<=x8->
(qf1 a0 (
(ql a0 x8 x6)/\
 True))))))/\
(∀ x8:Int,
(ql a0 x8 x6->
((0:Int)<=x6/\(x6:Int)<=x8/\x8<=ln a0)/\
(zk (List.length x5+List.length (sub a0 x6 x8)))/\
((ln (x5++(sub a0 x6 x8))<=1000000))/\
((a0=a0)/\
((x8:Int)=x8)/\
(([116]:ZB)=([116]:ZB))/\
(qcg a0 (!((k8 (x5++(sub a0 x6 x8))).2)) false ((k8 (x5++(sub a0 x6 x8))).2))/\
 True)/\
(∀ x10:Bool,
(qcg a0 x10 false ((k8 (x5++(sub a0 x6 x8))).2)->
(((0:Int)<=x8/\x8<=ln a0)/\
(True)/\
(((preB (fr a0 x8) ([98]:ZB))=true->
(I64 (x8+(ln ([98]:ZB))))/\
(ql4 a0 x10 x5 x6 x8 (
(zx a0 (x8+(ln ([98]:ZB))) (-1) x8)/\
 True))))/\
((preB (fr a0 x8) ([98]:ZB))=false->
((0:Int)<=x8/\x8<=ln a0)/\
(True)/\
(((preB (fr a0 x8) ([35]:ZB))=true->
(I64 (x8+(ln ([35]:ZB))))/\
(ql4 a0 x10 x5 x6 x8 (
(zx a0 (x8+(ln ([35]:ZB))) 1 x8)/\
 True))))/\
((preB (fr a0 x8) ([35]:ZB))=false->
((0:Int)<=x8/\x8<=ln a0)/\
(True)/\
(((preB (fr a0 x8) ([110]:ZB))=true->
(I64 (x8+(ln ([110]:ZB))))/\
(ql4 a0 x10 x5 x6 x8 (
(zx a0 (x8+(ln ([110]:ZB))) 2 x8)/\
 True))))/\
((preB (fr a0 x8) ([110]:ZB))=false->
(ql4 a0 x10 x5 x6 x8 (
(zx a0 x8 0 x8)/\
 True))))))/\
(∀ x12:Int,
(∀ x13:Int,
(zx a0 x12 x13 x8->
((0:Int)<=x12/\x12<=ln a0)/\
(True)/\
(((preB (fr a0 x12) ([42]:ZB))=true->
(I64 (x12+(ln ([42]:ZB))))/\
(qf1 a0 (
(qch a0 (x12+(ln ([42]:ZB))) x10 ((k8 (x5++(sub a0 x6 x8))).1) x13 true l7_ false)/\
 True))))/\
((preB (fr a0 x12) ([42]:ZB))=false->
(qf1 a0 (
(qch a0 x12 x10 ((k8 (x5++(sub a0 x6 x8))).1) x13 false l7_ false)/\
 True))))))))))))))/\
(∀ x5:Int,
(∀ x6:Bool,
(∀ x7:Int,
(∀ x8:Int,
(∀ x9:Bool,
(qch a0 x5 x6 x7 x8 x9 l7_ false->
(((0:Int)<=1/\(1:Int)<=2/\2<=ln ([32,94,118,62]:ZB))/\
((0:Int)<=x5/\x5<=ln a0)/\
(True)/\
(((preB (fr a0 x5) (sub ([32,94,118,62]:ZB) 1 2))=true->
(I64 (x5+(ln (sub ([32,94,118,62]:ZB) 1 2))))/\
(ql5 a0 x6 x7 x8 x9 (
(jz a0 (x5+(ln (sub ([32,94,118,62]:ZB) 1 2))) 1 x5)/\
 True))))/\
((preB (fr a0 x5) (sub ([32,94,118,62]:ZB) 1 2))=false->
((0:Int)<=2/\(2:Int)<=3/\3<=ln ([32,94,118,62]:ZB))/\
((0:Int)<=x5/\x5<=ln a0)/\
(True)/\
(((preB (fr a0 x5) (sub ([32,94,118,62]:ZB) 2 3))=true->
(I64 (x5+(ln (sub ([32,94,118,62]:ZB) 2 3))))/\
(ql5 a0 x6 x7 x8 x9 (
(jz a0 (x5+(ln (sub ([32,94,118,62]:ZB) 2 3))) 2 x5)/\
 True))))/\
((preB (fr a0 x5) (sub ([32,94,118,62]:ZB) 2 3))=false->
((0:Int)<=3/\(3:Int)<=4/\4<=ln ([32,94,118,62]:ZB))/\
((0:Int)<=x5/\x5<=ln a0)/\
(True)/\
(((preB (fr a0 x5) (sub ([32,94,118,62]:ZB) 3 4))=true->
(I64 (x5+(ln (sub ([32,94,118,62]:ZB) 3 4))))/\
(ql5 a0 x6 x7 x8 x9 (
(jz a0 (x5+(ln (sub ([32,94,118,62]:ZB) 3 4))) 3 x5)/\
 True))))/\
((preB (fr a0 x5) (sub ([32,94,118,62]:ZB) 3 4))=false->
(ql5 a0 x6 x7 x8 x9 (
(jz a0 x5 0 x5)/\
 True))))))/\
(∀ x11:Int,
(∀ x12:Int,
(jz a0 x11 x12 x5->
(((0:Int)<=x11/\x11<=ln a0)/\
(True)/\
(((preB (fr a0 x11) ([126]:ZB))=true->
(I64 (x11+(ln ([126]:ZB))))/\
(a0=a0)/\
(x6=x6)/\
((x7:Int)=x7)/\
((x8:Int)=x8)/\
(x9=x9)/\
((x12:Int)=x12)/\
(([116]:ZB)=([116]:ZB))/\
(qa3 a0 (x11+(ln ([126]:ZB))) true x11)/\
 True))/\
((preB (fr a0 x11) ([126]:ZB))=false->
(a0=a0)/\
(x6=x6)/\
((x7:Int)=x7)/\
((x8:Int)=x8)/\
(x9=x9)/\
((x12:Int)=x12)/\
(([116]:ZB)=([116]:ZB))/\
(qa3 a0 x11 false x11)/\
 True))/\
(∀ x14:Int,
(∀ x15:Bool,
(qa3 a0 x14 x15 x11->
((0:Int)<=x14/\x14<=ln a0)/\
(True)/\
(((preB (fr a0 x14) ([33]:ZB))=true->
(I64 (x14+(ln ([33]:ZB))))/\
((x6=true->
(qd a0 4)/\
 True))/\
(x6=false->
(((x14+(ln ([33]:ZB)))≠(ln a0)->
(qd a0 4)/\
 True))/\
((x14+(ln ([33]:ZB)))=(ln a0)->
(True)/\
(((zn (Sign.mk 4 0 x7 x8 x9 x12 x15 true 0 0 0 0 false 0 0 0 0))≠0->
 zl a0 0 0 0 0 false 0 false false 0 0 0 0 false 0 0 0 0 (zn (Sign.mk 4 0 x7 x8 x9 x12 x15 true 0 0 0 0 false 0 0 0 0))))/\
((zn (Sign.mk 4 0 x7 x8 x9 x12 x15 true 0 0 0 0 false 0 0 0 0))=0->
 zl a0 4 0 x7 x8 x9 x12 x15 true 0 0 0 0 false 0 0 0 0 0)))))/\
((preB (fr a0 x14) ([33]:ZB))=false->
((x6=true->
(qd a0 4)/\
 True))/\
(x6=false->
((x14≠(ln a0)->
(qd a0 4)/\
 True))/\
(x14=(ln a0)->
(True)/\
(((zn (Sign.mk 4 0 x7 x8 x9 x12 x15 false 0 0 0 0 false 0 0 0 0))≠0->
 zl a0 0 0 0 0 false 0 false false 0 0 0 0 false 0 0 0 0 (zn (Sign.mk 4 0 x7 x8 x9 x12 x15 false 0 0 0 0 false 0 0 0 0))))/\
((zn (Sign.mk 4 0 x7 x8 x9 x12 x15 false 0 0 0 0 false 0 0 0 0))=0->
 zl a0 4 0 x7 x8 x9 x12 x15 false 0 0 0 0 false 0 0 0 0 0))))))))))))))))))/\
((preB (fr a0 0) ([116]:ZB))=false->
(qd a0 4)/\
 True))/\
(qd a0 4->
(((0:Int)<=0/\0<=ln a0)/\
(True)/\
(((preB (fr a0 0) ([40]:ZB))=true->
(I64 l12_)/\
((0:Int)<=l12_/\l12_<=ln a0)/\
((U8 41))/\
(I64 l0_)/\
((0:Int)<=l12_/\(l12_:Int)<=l0_/\l0_<=ln a0)/\
(True)/\
(I64 l0_)/\
((0:Int)<=l0_/\l0_<=ln a0)/\
(True)/\
(((preB (fr a0 l0_) ([41]:ZB))=true->
(I64 l9_)/\
((0:Int)<=l9_/\l9_<=ln a0)/\
(True)/\
(((preB (fr a0 l9_) ([124]:ZB))=true->
(I64 (l9_+(ln ([124]:ZB))))/\
(((l2_.2)≠0->
(qd a0 5)/\
 True))/\
((l2_.2)=0->
(((l9_+(ln ([124]:ZB)))≠(ln a0)->
(qd a0 5)/\
 True))/\
((l9_+(ln ([124]:ZB)))=(ln a0)->
(True)/\
((r1_≠0->
 zl a0 0 0 0 0 false 0 false false 0 0 0 0 false 0 0 0 0 r1_))/\
(r1_=0->
 zl a0 5 0 0 0 false 0 false false (l2_.1.1) (l2_.1.2.1) (l2_.1.2.2.1) (l2_.1.2.2.2) true 0 0 0 0 0)))))/\
((preB (fr a0 l9_) ([124]:ZB))=false->
(((l2_.2)≠0->
(qd a0 5)/\
 True))/\
((l2_.2)=0->
((l9_≠(ln a0)->
(qd a0 5)/\
 True))/\
(l9_=(ln a0)->
(True)/\
((r0_≠0->
 zl a0 0 0 0 0 false 0 false false 0 0 0 0 false 0 0 0 0 r0_))/\
(r0_=0->
 zl a0 5 0 0 0 false 0 false false (l2_.1.1) (l2_.1.2.1) (l2_.1.2.2.1) (l2_.1.2.2.2) false 0 0 0 0 0))))))/\
((preB (fr a0 l0_) ([41]:ZB))=false->
((0:Int)<=l0_/\l0_<=ln a0)/\
(True)/\
(((preB (fr a0 l0_) ([124]:ZB))=true->
(I64 (l0_+(ln ([124]:ZB))))/\
(qd a0 5)/\
 True))/\
((preB (fr a0 l0_) ([124]:ZB))=false->
(qd a0 5)/\
 True))))/\
((preB (fr a0 0) ([40]:ZB))=false->
(qd a0 5)/\
 True))/\
(qd a0 5->
(((0:Int)<=0/\0<=ln a0)/\
(True)/\
(((preB (fr a0 0) ([]:ZB))=true->
(I64 l1_)/\
((ze a0 l1_ l1_)/\
(∀ x7:Int,
(ze a0 x7 l1_->
((x7<(ln a0)->
(Wn x7 (ln a0))/\
((48<=(bx a0 x7)->
(Wn x7 (ln a0))/\
(((bx a0 x7)<=57->
(I64 (x7+1))/\
(a0=a0)/\
(([]:ZB)=([]:ZB))/\
(ze a0 (x7+1) l1_)/\
 z6 a0 (x7+1) l1_<z6 a0 x7 l1_))/\
(57<(bx a0 x7)->
(a0=a0)/\
(([]:ZB)=([]:ZB))/\
(ql a0 x7 l1_)/\
 True)))/\
((bx a0 x7)<48->
(a0=a0)/\
(([]:ZB)=([]:ZB))/\
(ql a0 x7 l1_)/\
 True)))/\
((ln a0)<=x7->
(a0=a0)/\
(([]:ZB)=([]:ZB))/\
(ql a0 x7 l1_)/\
 True))))/\
(∀ x7:Int,
 let l10_:=qi (sub a0 l1_ x7);
(ql a0 x7 l1_->
((0:Int)<=l1_/\(l1_:Int)<=x7/\x7<=ln a0)/\
((ln (sub a0 l1_ x7)<=1000000))/\
((a0=a0)/\
((x7:Int)=x7)/\
(([]:ZB)=([]:ZB))/\
(ji a0 (!(l10_.2)) false (l10_.2))/\
 True)/\
(∀ x9:Bool,
(ji a0 x9 false (l10_.2)->
(((0:Int)<=x7/\x7<=ln a0)/\
(True)/\
(((preB (fr a0 x7) ([47]:ZB))=true->
(I64 (x7+(ln ([47]:ZB))))/\
(a0=a0)/\
(((l10_.1):Int)=(l10_.1))/\
(([]:ZB)=([]:ZB))/\
(qa4 a0 (x7+(ln ([47]:ZB))) x9 x7 x9)/\
 True))/\
((preB (fr a0 x7) ([47]:ZB))=false->
(a0=a0)/\
(((l10_.1):Int)=(l10_.1))/\
(([]:ZB)=([]:ZB))/\
(qa4 a0 x7 true x7 x9)/\
 True))/\
(∀ x11:Int,
(∀ x12:Bool,
(qa4 a0 x11 x12 x7 x9->
((ze a0 x11 x11)/\
(∀ x14:Int,
(ze a0 x14 x11->
((x14<(ln a0)->
(Wn x14 (ln a0))/\
((48<=(bx a0 x14)->
(Wn x14 (ln a0))/\
(((bx a0 x14)<=57->
(I64 (x14+1))/\
(ql6 a0 x12 x7 (
(ze a0 (x14+1) x11)/\
 z6 a0 (x14+1) x11<z6 a0 x14 x11))))/\
(57<(bx a0 x14)->
(ql6 a0 x12 x7 (
(ql a0 x14 x11)/\
 True)))))/\
((bx a0 x14)<48->
(ql6 a0 x12 x7 (
(ql a0 x14 x11)/\
 True)))))/\
((ln a0)<=x14->
(ql6 a0 x12 x7 (
(ql a0 x14 x11)/\
 True))))))/\
(∀ x14:Int,
(ql a0 x14 x11->
((0:Int)<=x11/\(x11:Int)<=x14/\x14<=ln a0)/\
((ln (sub a0 x11 x14)<=1000000))/\
(((x12=true->
(a0=a0)/\
((x14:Int)=x14)/\
(((l10_.1):Int)=(l10_.1))/\
(([]:ZB)=([]:ZB))/\
(ji a0 true x12 ((qi (sub a0 x11 x14)).2))/\
 True))/\
(x12=false->
(a0=a0)/\
((x14:Int)=x14)/\
(((l10_.1):Int)=(l10_.1))/\
(([]:ZB)=([]:ZB))/\
(ji a0 (!((qi (sub a0 x11 x14)).2)) x12 ((qi (sub a0 x11 x14)).2))/\
 True))/\
(∀ x16:Bool,
(ji a0 x16 x12 ((qi (sub a0 x11 x14)).2)->
((x16=true->
(qd a0 6)/\
 True))/\
(x16=false->
((x14≠(ln a0)->
(qd a0 6)/\
 True))/\
(x14=(ln a0)->
(True)/\
(((zn (Sign.mk 6 0 0 0 false 0 false false 0 0 0 0 false (l10_.1) ((qi (sub a0 x11 x14)).1) 0 0))≠0->
 zl a0 0 0 0 0 false 0 false false 0 0 0 0 false 0 0 0 0 (zn (Sign.mk 6 0 0 0 false 0 false false 0 0 0 0 false (l10_.1) ((qi (sub a0 x11 x14)).1) 0 0))))/\
((zn (Sign.mk 6 0 0 0 false 0 false false 0 0 0 0 false (l10_.1) ((qi (sub a0 x11 x14)).1) 0 0))=0->
 zl a0 6 0 0 0 false 0 false false 0 0 0 0 false (l10_.1) ((qi (sub a0 x11 x14)).1) 0 0 0))))))))))))))))/\
((preB (fr a0 0) ([]:ZB))=false->
(qd a0 6)/\
 True))/\
(qd a0 6->
(((0:Int)<=0/\0<=ln a0)/\
(True)/\
(((preB (fr a0 0) ([64]:ZB))=true->
(I64 l3_)/\
(((0:Int)<=l3_/\l3_<=ln a0)/\
(True)/\
(((preB (fr a0 l3_) ([67]:ZB))=true->
(I64 (l3_+(ln ([67]:ZB))))/\
(a0=a0)/\
(([64]:ZB)=([64]:ZB))/\
(jo a0 (l3_+(ln ([67]:ZB))) false 0 l3_)/\
 True))/\
((preB (fr a0 l3_) ([67]:ZB))=false->
((0:Int)<=l3_/\l3_<=ln a0)/\
(True)/\
(((preB (fr a0 l3_) ([70]:ZB))=true->
(I64 (l3_+(ln ([70]:ZB))))/\
(a0=a0)/\
(([64]:ZB)=([64]:ZB))/\
(jo a0 (l3_+(ln ([70]:ZB))) false 3 l3_)/\
 True))/\
((preB (fr a0 l3_) ([70]:ZB))=false->
((0:Int)<=l3_/\l3_<=ln a0)/\
(True)/\
(((preB (fr a0 l3_) ([71]:ZB))=true->
(I64 (l3_+(ln ([71]:ZB))))/\
(a0=a0)/\
(([64]:ZB)=([64]:ZB))/\
(jo a0 (l3_+(ln ([71]:ZB))) false 4 l3_)/\
 True))/\
((preB (fr a0 l3_) ([71]:ZB))=false->
(a0=a0)/\
(([64]:ZB)=([64]:ZB))/\
(jo a0 l3_ true 0 l3_)/\
 True))))/\
(∀ x8:Int,
(∀ x9:Bool,
(∀ x10:Int,
(jo a0 x8 x9 x10 l3_->
((ze a0 x8 x8)/\
(∀ x12:Int,
(ze a0 x12 x8->
((x12<(ln a0)->
(Wn x12 (ln a0))/\
((48<=(bx a0 x12)->
(Wn x12 (ln a0))/\
(((bx a0 x12)<=57->
(I64 (x12+1))/\
(a0=a0)/\
(x9=x9)/\
((x10:Int)=x10)/\
(([64]:ZB)=([64]:ZB))/\
(ze a0 (x12+1) x8)/\
 z6 a0 (x12+1) x8<z6 a0 x12 x8))/\
(57<(bx a0 x12)->
(a0=a0)/\
(x9=x9)/\
((x10:Int)=x10)/\
(([64]:ZB)=([64]:ZB))/\
(ql a0 x12 x8)/\
 True)))/\
((bx a0 x12)<48->
(a0=a0)/\
(x9=x9)/\
((x10:Int)=x10)/\
(([64]:ZB)=([64]:ZB))/\
(ql a0 x12 x8)/\
 True)))/\
((ln a0)<=x12->
(a0=a0)/\
(x9=x9)/\
((x10:Int)=x10)/\
(([64]:ZB)=([64]:ZB))/\
(ql a0 x12 x8)/\
 True))))/\
(∀ x12:Int,
(ql a0 x12 x8->
((0:Int)<=x8/\(x8:Int)<=x12/\x12<=ln a0)/\
((ln (sub a0 x8 x12)<=1000000))/\
(((x9=true->
(a0=a0)/\
((x12:Int)=x12)/\
((x10:Int)=x10)/\
(([64]:ZB)=([64]:ZB))/\
(ji a0 true x9 ((qi (sub a0 x8 x12)).2))/\
 True))/\
(x9=false->
(a0=a0)/\
((x12:Int)=x12)/\
((x10:Int)=x10)/\
(([64]:ZB)=([64]:ZB))/\
(ji a0 (!((qi (sub a0 x8 x12)).2)) x9 ((qi (sub a0 x8 x12)).2))/\
 True))/\
(∀ x14:Bool,
(ji a0 x14 x9 ((qi (sub a0 x8 x12)).2)->
((x14=true->
(qd a0 7)/\
 True))/\
(x14=false->
((x12≠(ln a0)->
(qd a0 7)/\
 True))/\
(x12=(ln a0)->
(True)/\
(((zn (Sign.mk 7 0 0 0 false 0 false false 0 0 0 0 false 0 0 x10 ((qi (sub a0 x8 x12)).1)))≠0->
 zl a0 0 0 0 0 false 0 false false 0 0 0 0 false 0 0 0 0 (zn (Sign.mk 7 0 0 0 false 0 false false 0 0 0 0 false 0 0 x10 ((qi (sub a0 x8 x12)).1)))))/\
((zn (Sign.mk 7 0 0 0 false 0 false false 0 0 0 0 false 0 0 x10 ((qi (sub a0 x8 x12)).1)))=0->
 zl a0 7 0 0 0 false 0 false false 0 0 0 0 false 0 0 x10 ((qi (sub a0 x8 x12)).1) 0)))))))))))))/\
((preB (fr a0 0) ([64]:ZB))=false->
(qd a0 7)/\
 True))/\
(qd a0 7->
(((0:Int)<=0/\0<=ln a0)/\
(True)/\
(((preB (fr a0 0) ([38]:ZB))=true->
(I64 l4_)/\
((ze a0 l4_ l4_)/\
(∀ x9:Int,
(ze a0 x9 l4_->
((x9<(ln a0)->
(Wn x9 (ln a0))/\
((48<=(bx a0 x9)->
(Wn x9 (ln a0))/\
(((bx a0 x9)<=57->
(I64 (x9+1))/\
(a0=a0)/\
(([38]:ZB)=([38]:ZB))/\
(ze a0 (x9+1) l4_)/\
 z6 a0 (x9+1) l4_<z6 a0 x9 l4_))/\
(57<(bx a0 x9)->
(a0=a0)/\
(([38]:ZB)=([38]:ZB))/\
(ql a0 x9 l4_)/\
 True)))/\
((bx a0 x9)<48->
(a0=a0)/\
(([38]:ZB)=([38]:ZB))/\
(ql a0 x9 l4_)/\
 True)))/\
((ln a0)<=x9->
(a0=a0)/\
(([38]:ZB)=([38]:ZB))/\
(ql a0 x9 l4_)/\
 True))))/\
(∀ x9:Int,
(ql a0 x9 l4_->
((0:Int)<=l4_/\(l4_:Int)<=x9/\x9<=ln a0)/\
((ln (sub a0 l4_ x9)<=1000000))/\
((a0=a0)/\
((x9:Int)=x9)/\
(([38]:ZB)=([38]:ZB))/\
(ji a0 (!((qi (sub a0 l4_ x9)).2)) false ((qi (sub a0 l4_ x9)).2))/\
 True)/\
(∀ x11:Bool,
(ji a0 x11 false ((qi (sub a0 l4_ x9)).2)->
((x11=true->
(qd a0 8)/\
 True))/\
(x11=false->
((x9≠(ln a0)->
(qd a0 8)/\
 True))/\
(x9=(ln a0)->
(True)/\
(((zn (Sign.mk 8 0 0 0 false 0 false false 0 0 0 0 false ((qi (sub a0 l4_ x9)).1) 0 0 0))≠0->
 zl a0 0 0 0 0 false 0 false false 0 0 0 0 false 0 0 0 0 (zn (Sign.mk 8 0 0 0 false 0 false false 0 0 0 0 false ((qi (sub a0 l4_ x9)).1) 0 0 0))))/\
((zn (Sign.mk 8 0 0 0 false 0 false false 0 0 0 0 false ((qi (sub a0 l4_ x9)).1) 0 0 0))=0->
 zl a0 8 0 0 0 false 0 false false 0 0 0 0 false ((qi (sub a0 l4_ x9)).1) 0 0 0 0)))))))))/\
((preB (fr a0 0) ([38]:ZB))=false->
(qd a0 8)/\
 True))/\
(qd a0 8->
(((0:Int)<=0/\0<=ln a0)/\
(True)/\
(((preB (fr a0 0) ([91]:ZB))=true->
(I64 (0+(ln ([91]:ZB))))/\
(((0+(ln ([91]:ZB)))≠(ln a0)->
(qd a0 9)/\
 True))/\
((0+(ln ([91]:ZB)))=(ln a0)->
(True)/\
(((zn (Sign.mk 9 0 0 0 false 0 false false 0 0 0 0 false 0 0 0 0))≠0->
 zl a0 0 0 0 0 false 0 false false 0 0 0 0 false 0 0 0 0 (zn (Sign.mk 9 0 0 0 false 0 false false 0 0 0 0 false 0 0 0 0))))/\
((zn (Sign.mk 9 0 0 0 false 0 false false 0 0 0 0 false 0 0 0 0))=0->
 zl a0 9 0 0 0 false 0 false false 0 0 0 0 false 0 0 0 0 0))))/\
((preB (fr a0 0) ([91]:ZB))=false->
(qd a0 9)/\
 True))/\
(qd a0 9->
(((0:Int)<=0/\0<=ln a0)/\
(True)/\
(((preB (fr a0 0) ([93]:ZB))=true->
(I64 l5_)/\
((ze a0 l5_ l5_)/\
(∀ x11:Int,
(ze a0 x11 l5_->
((x11<(ln a0)->
(Wn x11 (ln a0))/\
((48<=(bx a0 x11)->
(Wn x11 (ln a0))/\
(((bx a0 x11)<=57->
(I64 (x11+1))/\
(a0=a0)/\
(([93]:ZB)=([93]:ZB))/\
(ze a0 (x11+1) l5_)/\
 z6 a0 (x11+1) l5_<z6 a0 x11 l5_))/\
(57<(bx a0 x11)->
(a0=a0)/\
(([93]:ZB)=([93]:ZB))/\
(ql a0 x11 l5_)/\
 True)))/\
((bx a0 x11)<48->
(a0=a0)/\
(([93]:ZB)=([93]:ZB))/\
(ql a0 x11 l5_)/\
 True)))/\
((ln a0)<=x11->
(a0=a0)/\
(([93]:ZB)=([93]:ZB))/\
(ql a0 x11 l5_)/\
 True))))/\
(∀ x11:Int,
(ql a0 x11 l5_->
((0:Int)<=l5_/\(l5_:Int)<=x11/\x11<=ln a0)/\
((ln (sub a0 l5_ x11)<=1000000))/\
((a0=a0)/\
((x11:Int)=x11)/\
(([93]:ZB)=([93]:ZB))/\
(ji a0 (!((qi (sub a0 l5_ x11)).2)) false ((qi (sub a0 l5_ x11)).2))/\
 True)/\
(∀ x13:Bool,
(ji a0 x13 false ((qi (sub a0 l5_ x11)).2)->
((x13=true->
(qd a0 10)/\
 True))/\
(x13=false->
((x11≠(ln a0)->
(qd a0 10)/\
 True))/\
(x11=(ln a0)->
(True)/\
(((zn (Sign.mk 10 0 0 0 false 0 false false 0 0 0 0 false ((qi (sub a0 l5_ x11)).1) 0 0 0))≠0->
 zl a0 0 0 0 0 false 0 false false 0 0 0 0 false 0 0 0 0 (zn (Sign.mk 10 0 0 0 false 0 false false 0 0 0 0 false ((qi (sub a0 l5_ x11)).1) 0 0 0))))/\
((zn (Sign.mk 10 0 0 0 false 0 false false 0 0 0 0 false ((qi (sub a0 l5_ x11)).1) 0 0 0))=0->
 zl a0 10 0 0 0 false 0 false false 0 0 0 0 false ((qi (sub a0 l5_ x11)).1) 0 0 0 0)))))))))/\
((preB (fr a0 0) ([93]:ZB))=false->
(qd a0 10)/\
 True))/\
(qd a0 10->
(((0:Int)<=0/\0<=ln a0)/\
(True)/\
(((preB (fr a0 0) ([116,117,114,110]:ZB))=true->
(I64 (0+(ln ([116,117,114,110]:ZB))))/\
(((0+(ln ([116,117,114,110]:ZB)))≠(ln a0)->
(qd a0 11)/\
 True))/\
((0+(ln ([116,117,114,110]:ZB)))=(ln a0)->
(True)/\
(((zn (Sign.mk 11 0 0 0 false 0 false false 0 0 0 0 false 0 0 0 0))≠0->
 zl a0 0 0 0 0 false 0 false false 0 0 0 0 false 0 0 0 0 (zn (Sign.mk 11 0 0 0 false 0 false false 0 0 0 0 false 0 0 0 0))))/\
((zn (Sign.mk 11 0 0 0 false 0 false false 0 0 0 0 false 0 0 0 0))=0->
 zl a0 11 0 0 0 false 0 false false 0 0 0 0 false 0 0 0 0 0))))/\
((preB (fr a0 0) ([116,117,114,110]:ZB))=false->
(qd a0 11)/\
 True))/\
(qd a0 11->
(((0:Int)<=0/\0<=ln a0)/\
(True)/\
(((preB (fr a0 0) ([115,105,103]:ZB))=true->
(I64 (0+(ln ([115,105,103]:ZB))))/\
(((0+(ln ([115,105,103]:ZB)))≠(ln a0)->
(qd a0 12)/\
 True))/\
((0+(ln ([115,105,103]:ZB)))=(ln a0)->
(True)/\
(((zn (Sign.mk 12 0 0 0 false 0 false false 0 0 0 0 false 0 0 0 0))≠0->
 zl a0 0 0 0 0 false 0 false false 0 0 0 0 false 0 0 0 0 (zn (Sign.mk 12 0 0 0 false 0 false false 0 0 0 0 false 0 0 0 0))))/\
((zn (Sign.mk 12 0 0 0 false 0 false false 0 0 0 0 false 0 0 0 0))=0->
 zl a0 12 0 0 0 false 0 false false 0 0 0 0 false 0 0 0 0 0))))/\
((preB (fr a0 0) ([115,105,103]:ZB))=false->
(qd a0 12)/\
 True))/\
(qd a0 12->
 zl a0 0 0 0 0 false 0 false false 0 0 0 0 false 0 0 0 0 3)))))))))))))) (zn (Sign.mk 5 0 0 0 false 0 false false (l2_.1.1) (l2_.1.2.1) (l2_.1.2.2.1) (l2_.1.2.2.2) false 0 0 0 0))) (zn (Sign.mk 5 0 0 0 false 0 false false (l2_.1.1) (l2_.1.2.1) (l2_.1.2.2.1) (l2_.1.2.2.2) true 0 0 0 0))
theorem zg0 (a0:ZB):jw (qq XK (jk zdt) (fun j ns=>match j,ns with | 0,[.s y0,.i y1,.i y2]=>ju a0 y0 y1 y2 | 1,[.i y0,.i y1]=>ze a0 y0 y1 | 2,[.i y0,.i y1]=>ql a0 y0 y1 | 3,[.b y0,.b y1,.b y2]=>ji a0 y0 y1 y2 | 4,[.b y0,.b y1,.b y2]=>qcg a0 y0 y1 y2 | 5,[.i y0,.i y1]=>kj a0 y0 y1 | 6,[.i y0,.b y1,.i y2]=>qbu a0 y0 y1 y2 | 7,[.i y0,.i y1,.i y2]=>zx a0 y0 y1 y2 | 8,[.i y0,.b y1,.i y2,.i y3,.b y4,.i y5,.b y6]=>qch a0 y0 y1 y2 y3 y4 y5 y6 | 9,[.i y0,.i y1,.i y2]=>jz a0 y0 y1 y2 | 10,[.i y0,.b y1,.i y2]=>qa3 a0 y0 y1 y2 | 11,[.i y0,.b y1,.i y2,.b y3]=>qa4 a0 y0 y1 y2 y3 | 12,[.i y0,.b y1,.i y2,.i y3]=>jo a0 y0 y1 y2 y3 | 13,[.i y0]=>qd a0 y0 | _,_=>False) (fun j ns=>match j,ns with | 1,[.i y0,.i y1]=>z6 a0 y0 y1 | 5,[.i y0,.i y1]=>qci a0 y0 y1 | _,_=>0)) {cfg sp with ann:=jv [(113,7,.cut 0 [.one 3 (.str),.via 0 [.keep,.int .i64,.keep]] [.via 0 [.keep,.int .i64,.keep]]),(119,28,.inv 1 [.via 0 [.keep,.int .i64,.keep]] [.one 3 (.int .i64)]),(119,7,.cut 2 [.via 0 [.keep,.int .i64,.keep]] [.one 3 (.int .i64)]),(83,7,.cut 3 [.via 0 [.keep,.keep,.bool]] [.via 0 [.keep,.keep,.bool],.one 4 (.bool)]),(113,31,.cut 4 [.via 0 [.keep,.keep,.bool]] [.via 0 [.keep,.keep,.bool],.one 5 (.bool)]),(65,26,.inv 5 [.one 4 (.int .i64)] [.via 0 [.keep,.int .i64,.keep]]),(64,1,.cut 6 [.via 0 [.keep,.int .i64,.bool],.via 1 [.keep,.int .i64,.keep,.keep,.keep,.keep,.keep,.keep,.keep,.keep,.keep,.keep,.keep,.keep,.keep,.keep,.keep]] []),(66,3,.cut 7 [.via 0 [.keep,.int .i64,.keep],.via 1 [.keep,.keep,.keep,.int .i64,.keep,.keep,.keep,.keep,.keep,.keep,.keep,.keep,.keep,.keep,.keep,.keep,.keep]] [.via 0 [.keep,.int .i64,.keep]]),(72,1,.cut 8 [.via 0 [.keep,.int .i64,.bool],.via 1 [.keep,.keep,.int .i64,.int .i64,.bool,.keep,.keep,.keep,.keep,.keep,.keep,.keep,.keep,.keep,.keep,.keep,.keep]] [.via 0 [.keep,.int .i64,.bool]]),(72,26,.unroll 4),(72,3,.cut 9 [.via 0 [.keep,.int .i64,.keep],.via 1 [.keep,.keep,.keep,.keep,.keep,.int .i64,.keep,.keep,.keep,.keep,.keep,.keep,.keep,.keep,.keep,.keep,.keep]] [.via 0 [.keep,.int .i64,.keep]]),(72,7,.cut 10 [.via 0 [.keep,.int .i64,.keep],.via 1 [.keep,.keep,.keep,.keep,.keep,.keep,.bool,.keep,.keep,.keep,.keep,.keep,.keep,.keep,.keep,.keep,.keep]] [.via 0 [.keep,.int .i64,.keep]]),(82,3,.cut 11 [.via 0 [.keep,.int .i64,.bool]] [.via 0 [.keep,.int .i64,.bool]]),(85,1,.cut 12 [.via 0 [.keep,.int .i64,.bool],.via 1 [.keep,.keep,.keep,.keep,.keep,.keep,.keep,.keep,.keep,.keep,.keep,.keep,.keep,.keep,.keep,.int .i64,.keep]] [.via 0 [.keep,.int .i64,.keep]]),(12,211,.cut 13 [] [.one 10 (.int .i64)]),(12,26,.unroll 14)]} 10 12 [.str (a0)] (qzn a0)=qvs a0:=by kernel_rfl
end Go.Proofs.YtbopmiclcimjgaaGreatDoor
