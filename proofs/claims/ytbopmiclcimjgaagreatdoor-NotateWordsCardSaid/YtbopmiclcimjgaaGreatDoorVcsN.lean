/- CONDITIONS, as E3 computes them. Made by program (vc.py). -/
import Derived.Test.YtbopmiclcimjgaaGreatDoorCts
namespace Go.Proofs.YtbopmiclcimjgaaGreatDoor
open Go Go.E2 Go.E3
set_option maxRecDepth 100000
variable {sp:Nat->Option (List V->Heap->Option (CR×Heap))}

def zj (a0:List UInt8) (r0:Int) (r1:Int) (r2:Int) (r3:Int) (r4:Bool) (r5:Int) (r6:Bool) (r7:Bool) (r8:Int) (r9:Int) (r10:Int) (r11:Int) (r12:Bool) (r13:Int) (r14:Int) (r15:Int) (r16:Int) (r17:Int):Prop:=
((r0:Int)=(((qw a0).1).Kind))/\
((r1:Int)=(((qw a0).1).Value))/\
((r2:Int)=(((qw a0).1).Place))/\
((r3:Int)=(((qw a0).1).Acc))/\
(r4=(((qw a0).1).Color))/\
((r5:Int)=(((qw a0).1).Stem))/\
(r6=(((qw a0).1).Oblique))/\
(r7=(((qw a0).1).Last))/\
((r8:Int)=(((qw a0).1).MensMax))/\
((r9:Int)=(((qw a0).1).MensMod))/\
((r10:Int)=(((qw a0).1).MensTem))/\
((r11:Int)=(((qw a0).1).MensPro))/\
(r12=(((qw a0).1).Stroke))/\
((r13:Int)=(((qw a0).1).N))/\
((r14:Int)=(((qw a0).1).D))/\
((r15:Int)=(((qw a0).1).ClefStep))/\
((r16:Int)=(((qw a0).1).ClefLine))/\
((r17:Int)=((qw a0).2))/\
 True

def q7w:List (Nat×Ct KT):=[(117,qn0),(94,zfn),(136,q5q),(74,zfh),(77,zfi),(78,zfj),(118,q0a),(32,zfa)]
abbrev qv4 (a0:List UInt8):PV KT:=.tuple [.agg [.int .i64 none ((((qw a0).1).Kind)),.int .i64 none ((((qw a0).1).Value)),.int .i64 none ((((qw a0).1).Place)),.int .i64 none ((((qw a0).1).Acc)),.sb 0 false ((((qw a0).1).Color)) ((((qw a0).1).Color)=true) ((((qw a0).1).Color)=false),.int .i64 none ((((qw a0).1).Stem)),.sb 0 false ((((qw a0).1).Oblique)) ((((qw a0).1).Oblique)=true) ((((qw a0).1).Oblique)=false),.sb 0 false ((((qw a0).1).Last)) ((((qw a0).1).Last)=true) ((((qw a0).1).Last)=false),.int .i64 none ((((qw a0).1).MensMax)),.int .i64 none ((((qw a0).1).MensMod)),.int .i64 none ((((qw a0).1).MensTem)),.int .i64 none ((((qw a0).1).MensPro)),.sb 0 false ((((qw a0).1).Stroke)) ((((qw a0).1).Stroke)=true) ((((qw a0).1).Stroke)=false),.int .i64 none ((((qw a0).1).N)),.int .i64 none ((((qw a0).1).D)),.int .i64 none ((((qw a0).1).ClefStep)),.int .i64 none ((((qw a0).1).ClefLine))],.int .i64 none (((qw a0).2))]
abbrev qhi (v0:List UInt8) (v1:Bool) (v2:Int) (p:Prop):Prop:=
(v0=v0)/\
(v1=v1)/\
((v2:Int)=v2)/\
(([]:List UInt8)=([]:List UInt8))/\
 p
abbrev qkg (v0:List UInt8) (v1:Bool) (v2:Int) (v3:List UInt8) (v4:Int) (v5:Int) (p:Prop):Prop:=
(v0=v0)/\
(v1=v1)/\
((v2:Int)=v2)/\
((((z7 (v3++(sub v0 v4 v5))).1):Int)=((z7 (v3++(sub v0 v4 v5))).1))/\
(([]:List UInt8)=([]:List UInt8))/\
 p
abbrev qe2 (v0:List UInt8) (p:Prop):Prop:=
(v0=v0)/\
(([116]:List UInt8)=([116]:List UInt8))/\
 p
abbrev qkh (v0:List UInt8) (v1:Bool) (v2:List UInt8) (v3:Int) (v4:Int) (p:Prop):Prop:=
(v0=v0)/\
(v1=v1)/\
((((z7 (v2++(sub v0 v3 v4))).1):Int)=((z7 (v2++(sub v0 v3 v4))).1))/\
(([116]:List UInt8)=([116]:List UInt8))/\
 p
abbrev qki (v0:List UInt8) (v1:Bool) (v2:Int) (v3:Int) (v4:Bool) (p:Prop):Prop:=
(v0=v0)/\
(v1=v1)/\
((v2:Int)=v2)/\
((v3:Int)=v3)/\
(v4=v4)/\
(([116]:List UInt8)=([116]:List UInt8))/\
 p
abbrev qkj (v0:List UInt8) (v1:Bool) (v2:Int) (p:Prop):Prop:=
(v0=v0)/\
(v1=v1)/\
((((qd (sub v0 (0+(ln ([]:List UInt8))) v2)).1):Int)=((qd (sub v0 (0+(ln ([]:List UInt8))) v2)).1))/\
(([]:List UInt8)=([]:List UInt8))/\
 p
abbrev qsl (a0:List UInt8):Prop:=
(fun r1_:Int=>
(fun r0_:Int=>
((qb a0 0)/\
 True)/\
(qb a0 0->
(((0:Int)<=0/\0<=ln a0)/\
(True)/\
(((preB (fr a0 0) ([]:List UInt8))=true->
(I64 (0+(ln ([]:List UInt8))))/\
((z9 a0 0 (0+(ln ([]:List UInt8))))/\
(∀ x2:Int,
(z9 a0 x2 (0+(ln ([]:List UInt8)))->
((x2<8->
(I64 (x2+1))/\
((0:Int)<=x2/\(x2:Int)<=(x2+1)/\(x2+1)<=ln ([88,76,66,83,77,81,70,90]:List UInt8))/\
((0:Int)<=(0+(ln ([]:List UInt8)))/\(0+(ln ([]:List UInt8)))<=ln a0)/\
(True)/\
(((preB (fr a0 (0+(ln ([]:List UInt8)))) (sub ([88,76,66,83,77,81,70,90]:List UInt8) x2 (x2+1)))=true->
(I64 ((0+(ln ([]:List UInt8)))+(ln (sub ([88,76,66,83,77,81,70,90]:List UInt8) x2 (x2+1)))))/\
(I64 (x2+1))/\
(a0=a0)/\
(([]:List UInt8)=([]:List UInt8))/\
(qa1 a0 ((0+(ln ([]:List UInt8)))+(ln (sub ([88,76,66,83,77,81,70,90]:List UInt8) x2 (x2+1)))) false (x2+1))/\
 True))/\
((preB (fr a0 (0+(ln ([]:List UInt8)))) (sub ([88,76,66,83,77,81,70,90]:List UInt8) x2 (x2+1)))=false->
(I64 (x2+1))/\
(a0=a0)/\
(((0+(ln ([]:List UInt8))):Int)=(0+(ln ([]:List UInt8))))/\
(([]:List UInt8)=([]:List UInt8))/\
(z9 a0 (x2+1) (0+(ln ([]:List UInt8))))/\
 qbl a0 (x2+1) (0+(ln ([]:List UInt8)))<qbl a0 x2 (0+(ln ([]:List UInt8))))))/\
(8<=x2->
(a0=a0)/\
(([]:List UInt8)=([]:List UInt8))/\
(qa1 a0 (0+(ln ([]:List UInt8))) true 0)/\
 True))))/\
(∀ x2:Int,
(∀ x3:Bool,
(∀ x4:Int,
(qa1 a0 x2 x3 x4->
(((0:Int)<=x2/\x2<=ln a0)/\
(True)/\
(((preB (fr a0 x2) ([45]:List UInt8))=true->
(I64 (x2+(ln ([45]:List UInt8))))/\
(qhi a0 x3 x4 (
(jc a0 ([45]:List UInt8) (x2+(ln ([45]:List UInt8))) x2)/\
 True))))/\
((preB (fr a0 x2) ([45]:List UInt8))=false->
(qhi a0 x3 x4 (
(jc a0 ([]:List UInt8) x2 x2)/\
 True))))/\
(∀ x6:List UInt8,
(∀ x7:Int,
(jc a0 x6 x7 x2->
((zc a0 x7 x7)/\
(∀ x9:Int,
(zc a0 x9 x7->
((x9<(ln a0)->
(Wn x9 (ln a0))/\
((48<=(bx a0 x9)->
(Wn x9 (ln a0))/\
(((bx a0 x9)<=57->
(I64 (x9+1))/\
(qhi a0 x3 x4 (
(zc a0 (x9+1) x7)/\
 zx a0 (x9+1) x7<zx a0 x9 x7))))/\
(57<(bx a0 x9)->
(qhi a0 x3 x4 (
(qk a0 x9 x7)/\
 True)))))/\
((bx a0 x9)<48->
(qhi a0 x3 x4 (
(qk a0 x9 x7)/\
 True)))))/\
((ln a0)<=x9->
(qhi a0 x3 x4 (
(qk a0 x9 x7)/\
 True))))))/\
(∀ x9:Int,
(qk a0 x9 x7->
((0:Int)<=x7/\(x7:Int)<=x9/\x9<=ln a0)/\
(qx (List.length x6+List.length (sub a0 x7 x9)))/\
((ln (x6++(sub a0 x7 x9))<=1000000))/\
(((x3=true->
(a0=a0)/\
((x9:Int)=x9)/\
((x4:Int)=x4)/\
(([]:List UInt8)=([]:List UInt8))/\
(qbj a0 true x3 ((z7 (x6++(sub a0 x7 x9))).2))/\
 True))/\
(x3=false->
(a0=a0)/\
((x9:Int)=x9)/\
((x4:Int)=x4)/\
(([]:List UInt8)=([]:List UInt8))/\
(qbj a0 (!((z7 (x6++(sub a0 x7 x9))).2)) x3 ((z7 (x6++(sub a0 x7 x9))).2))/\
 True))/\
(∀ x11:Bool,
(qbj a0 x11 x3 ((z7 (x6++(sub a0 x7 x9))).2)->
(((0:Int)<=x9/\x9<=ln a0)/\
(True)/\
(((preB (fr a0 x9) ([98]:List UInt8))=true->
(I64 (x9+(ln ([98]:List UInt8))))/\
(qkg a0 x11 x4 x6 x7 x9 (
(zr a0 (x9+(ln ([98]:List UInt8))) (-1) x9)/\
 True))))/\
((preB (fr a0 x9) ([98]:List UInt8))=false->
((0:Int)<=x9/\x9<=ln a0)/\
(True)/\
(((preB (fr a0 x9) ([35]:List UInt8))=true->
(I64 (x9+(ln ([35]:List UInt8))))/\
(qkg a0 x11 x4 x6 x7 x9 (
(zr a0 (x9+(ln ([35]:List UInt8))) 1 x9)/\
 True))))/\
((preB (fr a0 x9) ([35]:List UInt8))=false->
((0:Int)<=x9/\x9<=ln a0)/\
(True)/\
(((preB (fr a0 x9) ([110]:List UInt8))=true->
(I64 (x9+(ln ([110]:List UInt8))))/\
(qkg a0 x11 x4 x6 x7 x9 (
(zr a0 (x9+(ln ([110]:List UInt8))) 2 x9)/\
 True))))/\
((preB (fr a0 x9) ([110]:List UInt8))=false->
(qkg a0 x11 x4 x6 x7 x9 (
(zr a0 x9 0 x9)/\
 True))))))/\
(∀ x13:Int,
(∀ x14:Int,
(zr a0 x13 x14 x9->
((0:Int)<=x13/\x13<=ln a0)/\
(True)/\
(((preB (fr a0 x13) ([42]:List UInt8))=true->
(I64 (x13+(ln ([42]:List UInt8))))/\
((x11=true->
(qb a0 1)/\
 True))/\
(x11=false->
(((x13+(ln ([42]:List UInt8)))≠(ln a0)->
(qb a0 1)/\
 True))/\
((x13+(ln ([42]:List UInt8)))=(ln a0)->
(True)/\
(((zh (Sign.mk 1 x4 ((z7 (x6++(sub a0 x7 x9))).1) x14 true 0 false false 0 0 0 0 false 0 0 0 0))≠0->
 zj a0 0 0 0 0 false 0 false false 0 0 0 0 false 0 0 0 0 (zh (Sign.mk 1 x4 ((z7 (x6++(sub a0 x7 x9))).1) x14 true 0 false false 0 0 0 0 false 0 0 0 0))))/\
((zh (Sign.mk 1 x4 ((z7 (x6++(sub a0 x7 x9))).1) x14 true 0 false false 0 0 0 0 false 0 0 0 0))=0->
 zj a0 1 x4 ((z7 (x6++(sub a0 x7 x9))).1) x14 true 0 false false 0 0 0 0 false 0 0 0 0 0)))))/\
((preB (fr a0 x13) ([42]:List UInt8))=false->
((x11=true->
(qb a0 1)/\
 True))/\
(x11=false->
((x13≠(ln a0)->
(qb a0 1)/\
 True))/\
(x13=(ln a0)->
(True)/\
(((zh (Sign.mk 1 x4 ((z7 (x6++(sub a0 x7 x9))).1) x14 false 0 false false 0 0 0 0 false 0 0 0 0))≠0->
 zj a0 0 0 0 0 false 0 false false 0 0 0 0 false 0 0 0 0 (zh (Sign.mk 1 x4 ((z7 (x6++(sub a0 x7 x9))).1) x14 false 0 false false 0 0 0 0 false 0 0 0 0))))/\
((zh (Sign.mk 1 x4 ((z7 (x6++(sub a0 x7 x9))).1) x14 false 0 false false 0 0 0 0 false 0 0 0 0))=0->
 zj a0 1 x4 ((z7 (x6++(sub a0 x7 x9))).1) x14 false 0 false false 0 0 0 0 false 0 0 0 0 0))))))))))))))))))))/\
((preB (fr a0 0) ([]:List UInt8))=false->
(qb a0 1)/\
 True))/\
(qb a0 1->
(((0:Int)<=0/\0<=ln a0)/\
(True)/\
(((preB (fr a0 0) ([114]:List UInt8))=true->
(I64 (0+(ln ([114]:List UInt8))))/\
(z9 a0 0 (0+(ln ([114]:List UInt8))))/\
(∀ x3:Int,
(z9 a0 x3 (0+(ln ([114]:List UInt8)))->
((x3<8->
(I64 (x3+1))/\
((0:Int)<=x3/\(x3:Int)<=(x3+1)/\(x3+1)<=ln ([88,76,66,83,77,81,70,90]:List UInt8))/\
((0:Int)<=(0+(ln ([114]:List UInt8)))/\(0+(ln ([114]:List UInt8)))<=ln a0)/\
(True)/\
(((preB (fr a0 (0+(ln ([114]:List UInt8)))) (sub ([88,76,66,83,77,81,70,90]:List UInt8) x3 (x3+1)))=true->
(I64 ((0+(ln ([114]:List UInt8)))+(ln (sub ([88,76,66,83,77,81,70,90]:List UInt8) x3 (x3+1)))))/\
(I64 (x3+1))/\
((((0+(ln ([114]:List UInt8)))+(ln (sub ([88,76,66,83,77,81,70,90]:List UInt8) x3 (x3+1))))≠(ln a0)->
(qb a0 2)/\
 True))/\
(((0+(ln ([114]:List UInt8)))+(ln (sub ([88,76,66,83,77,81,70,90]:List UInt8) x3 (x3+1))))=(ln a0)->
(True)/\
(((zh (Sign.mk 2 (x3+1) 0 0 false 0 false false 0 0 0 0 false 0 0 0 0))≠0->
 zj a0 0 0 0 0 false 0 false false 0 0 0 0 false 0 0 0 0 (zh (Sign.mk 2 (x3+1) 0 0 false 0 false false 0 0 0 0 false 0 0 0 0))))/\
((zh (Sign.mk 2 (x3+1) 0 0 false 0 false false 0 0 0 0 false 0 0 0 0))=0->
 zj a0 2 (x3+1) 0 0 false 0 false false 0 0 0 0 false 0 0 0 0 0))))/\
((preB (fr a0 (0+(ln ([114]:List UInt8)))) (sub ([88,76,66,83,77,81,70,90]:List UInt8) x3 (x3+1)))=false->
(I64 (x3+1))/\
(a0=a0)/\
(((0+(ln ([114]:List UInt8))):Int)=(0+(ln ([114]:List UInt8))))/\
(([114]:List UInt8)=([114]:List UInt8))/\
(z9 a0 (x3+1) (0+(ln ([114]:List UInt8))))/\
 qbl a0 (x3+1) (0+(ln ([114]:List UInt8)))<qbl a0 x3 (0+(ln ([114]:List UInt8))))))/\
(8<=x3->
(qb a0 2)/\
 True)))))/\
((preB (fr a0 0) ([114]:List UInt8))=false->
(qb a0 2)/\
 True))/\
(qb a0 2->
(((0:Int)<=0/\0<=ln a0)/\
(True)/\
(((preB (fr a0 0) ([46]:List UInt8))=true->
(I64 (0+(ln ([46]:List UInt8))))/\
(((0+(ln ([46]:List UInt8)))≠(ln a0)->
(qb a0 3)/\
 True))/\
((0+(ln ([46]:List UInt8)))=(ln a0)->
(True)/\
(((zh (Sign.mk 3 0 0 0 false 0 false false 0 0 0 0 false 0 0 0 0))≠0->
 zj a0 0 0 0 0 false 0 false false 0 0 0 0 false 0 0 0 0 (zh (Sign.mk 3 0 0 0 false 0 false false 0 0 0 0 false 0 0 0 0))))/\
((zh (Sign.mk 3 0 0 0 false 0 false false 0 0 0 0 false 0 0 0 0))=0->
 zj a0 3 0 0 0 false 0 false false 0 0 0 0 false 0 0 0 0 0))))/\
((preB (fr a0 0) ([46]:List UInt8))=false->
(qb a0 3)/\
 True))/\
(qb a0 3->
(((0:Int)<=0/\0<=ln a0)/\
(True)/\
(((preB (fr a0 0) ([116]:List UInt8))=true->
(I64 (0+(ln ([116]:List UInt8))))/\
((((0:Int)<=(0+(ln ([116]:List UInt8)))/\(0+(ln ([116]:List UInt8)))<=ln a0)/\
(True)/\
(((preB (fr a0 (0+(ln ([116]:List UInt8)))) ([45]:List UInt8))=true->
(I64 ((0+(ln ([116]:List UInt8)))+(ln ([45]:List UInt8))))/\
(qe2 a0 (
(jc a0 ([45]:List UInt8) ((0+(ln ([116]:List UInt8)))+(ln ([45]:List UInt8))) (0+(ln ([116]:List UInt8))))/\
 True))))/\
((preB (fr a0 (0+(ln ([116]:List UInt8)))) ([45]:List UInt8))=false->
(qe2 a0 (
(jc a0 ([]:List UInt8) (0+(ln ([116]:List UInt8))) (0+(ln ([116]:List UInt8))))/\
 True))))/\
(∀ x5:List UInt8,
(∀ x6:Int,
(jc a0 x5 x6 (0+(ln ([116]:List UInt8)))->
((zc a0 x6 x6)/\
(∀ x8:Int,
(zc a0 x8 x6->
((x8<(ln a0)->
(Wn x8 (ln a0))/\
((48<=(bx a0 x8)->
(Wn x8 (ln a0))/\
(((bx a0 x8)<=57->
(I64 (x8+1))/\
(qe2 a0 (
(zc a0 (x8+1) x6)/\
 zx a0 (x8+1) x6<zx a0 x8 x6))))/\
(57<(bx a0 x8)->
(qe2 a0 (
(qk a0 x8 x6)/\
 True)))))/\
((bx a0 x8)<48->
(qe2 a0 (
(qk a0 x8 x6)/\
 True)))))/\
((ln a0)<=x8->
(qe2 a0 (
(qk a0 x8 x6)/\
 True))))))/\
(∀ x8:Int,
(qk a0 x8 x6->
((0:Int)<=x6/\(x6:Int)<=x8/\x8<=ln a0)/\
(qx (List.length x5+List.length (sub a0 x6 x8)))/\
((ln (x5++(sub a0 x6 x8))<=1000000))/\
((a0=a0)/\
((x8:Int)=x8)/\
(([116]:List UInt8)=([116]:List UInt8))/\
(qbj a0 (!((z7 (x5++(sub a0 x6 x8))).2)) false ((z7 (x5++(sub a0 x6 x8))).2))/\
 True)/\
(∀ x10:Bool,
(qbj a0 x10 false ((z7 (x5++(sub a0 x6 x8))).2)->
(((0:Int)<=x8/\x8<=ln a0)/\
(True)/\
(((preB (fr a0 x8) ([98]:List UInt8))=true->
(I64 (x8+(ln ([98]:List UInt8))))/\
(qkh a0 x10 x5 x6 x8 (
(zr a0 (x8+(ln ([98]:List UInt8))) (-1) x8)/\
 True))))/\
((preB (fr a0 x8) ([98]:List UInt8))=false->
((0:Int)<=x8/\x8<=ln a0)/\
(True)/\
(((preB (fr a0 x8) ([35]:List UInt8))=true->
(I64 (x8+(ln ([35]:List UInt8))))/\
(qkh a0 x10 x5 x6 x8 (
(zr a0 (x8+(ln ([35]:List UInt8))) 1 x8)/\
 True))))/\
((preB (fr a0 x8) ([35]:List UInt8))=false->
((0:Int)<=x8/\x8<=ln a0)/\
(True)/\
(((preB (fr a0 x8) ([110]:List UInt8))=true->
(I64 (x8+(ln ([110]:List UInt8))))/\
(qkh a0 x10 x5 x6 x8 (
(zr a0 (x8+(ln ([110]:List UInt8))) 2 x8)/\
 True))))/\
((preB (fr a0 x8) ([110]:List UInt8))=false->
(qkh a0 x10 x5 x6 x8 (
(zr a0 x8 0 x8)/\
 True))))))/\
(∀ x12:Int,
(∀ x13:Int,
(zr a0 x12 x13 x8->
((0:Int)<=x12/\x12<=ln a0)/\
(True)/\
(((preB (fr a0 x12) ([42]:List UInt8))=true->
(I64 (x12+(ln ([42]:List UInt8))))/\
(qe2 a0 (
(qbk a0 (x12+(ln ([42]:List UInt8))) x10 ((z7 (x5++(sub a0 x6 x8))).1) x13 true (0+(ln ([116]:List UInt8))) false)/\
 True))))/\
((preB (fr a0 x12) ([42]:List UInt8))=false->
(qe2 a0 (
(qbk a0 x12 x10 ((z7 (x5++(sub a0 x6 x8))).1) x13 false (0+(ln ([116]:List UInt8))) false)/\
 True))))))))))))))/\
(∀ x5:Int,
(∀ x6:Bool,
(∀ x7:Int,
(∀ x8:Int,
(∀ x9:Bool,
(qbk a0 x5 x6 x7 x8 x9 (0+(ln ([116]:List UInt8))) false->
(((0:Int)<=1/\(1:Int)<=2/\2<=ln ([32,94,118,62]:List UInt8))/\
((0:Int)<=x5/\x5<=ln a0)/\
(True)/\
(((preB (fr a0 x5) (sub ([32,94,118,62]:List UInt8) 1 2))=true->
(I64 (x5+(ln (sub ([32,94,118,62]:List UInt8) 1 2))))/\
(qki a0 x6 x7 x8 x9 (
(jg a0 (x5+(ln (sub ([32,94,118,62]:List UInt8) 1 2))) 1 x5)/\
 True))))/\
((preB (fr a0 x5) (sub ([32,94,118,62]:List UInt8) 1 2))=false->
((0:Int)<=2/\(2:Int)<=3/\3<=ln ([32,94,118,62]:List UInt8))/\
((0:Int)<=x5/\x5<=ln a0)/\
(True)/\
(((preB (fr a0 x5) (sub ([32,94,118,62]:List UInt8) 2 3))=true->
(I64 (x5+(ln (sub ([32,94,118,62]:List UInt8) 2 3))))/\
(qki a0 x6 x7 x8 x9 (
(jg a0 (x5+(ln (sub ([32,94,118,62]:List UInt8) 2 3))) 2 x5)/\
 True))))/\
((preB (fr a0 x5) (sub ([32,94,118,62]:List UInt8) 2 3))=false->
((0:Int)<=3/\(3:Int)<=4/\4<=ln ([32,94,118,62]:List UInt8))/\
((0:Int)<=x5/\x5<=ln a0)/\
(True)/\
(((preB (fr a0 x5) (sub ([32,94,118,62]:List UInt8) 3 4))=true->
(I64 (x5+(ln (sub ([32,94,118,62]:List UInt8) 3 4))))/\
(qki a0 x6 x7 x8 x9 (
(jg a0 (x5+(ln (sub ([32,94,118,62]:List UInt8) 3 4))) 3 x5)/\
 True))))/\
((preB (fr a0 x5) (sub ([32,94,118,62]:List UInt8) 3 4))=false->
(qki a0 x6 x7 x8 x9 (
(jg a0 x5 0 x5)/\
 True))))))/\
(∀ x11:Int,
(∀ x12:Int,
(jg a0 x11 x12 x5->
(((0:Int)<=x11/\x11<=ln a0)/\
(True)/\
(((preB (fr a0 x11) ([126]:List UInt8))=true->
(I64 (x11+(ln ([126]:List UInt8))))/\
(a0=a0)/\
(x6=x6)/\
((x7:Int)=x7)/\
((x8:Int)=x8)/\
(x9=x9)/\
((x12:Int)=x12)/\
(([116]:List UInt8)=([116]:List UInt8))/\
(qaf a0 (x11+(ln ([126]:List UInt8))) true x11)/\
 True))/\
((preB (fr a0 x11) ([126]:List UInt8))=false->
(a0=a0)/\
(x6=x6)/\
((x7:Int)=x7)/\
((x8:Int)=x8)/\
(x9=x9)/\
((x12:Int)=x12)/\
(([116]:List UInt8)=([116]:List UInt8))/\
(qaf a0 x11 false x11)/\
 True))/\
(∀ x14:Int,
(∀ x15:Bool,
(qaf a0 x14 x15 x11->
((0:Int)<=x14/\x14<=ln a0)/\
(True)/\
(((preB (fr a0 x14) ([33]:List UInt8))=true->
(I64 (x14+(ln ([33]:List UInt8))))/\
((x6=true->
(qb a0 4)/\
 True))/\
(x6=false->
(((x14+(ln ([33]:List UInt8)))≠(ln a0)->
(qb a0 4)/\
 True))/\
((x14+(ln ([33]:List UInt8)))=(ln a0)->
(True)/\
(((zh (Sign.mk 4 0 x7 x8 x9 x12 x15 true 0 0 0 0 false 0 0 0 0))≠0->
 zj a0 0 0 0 0 false 0 false false 0 0 0 0 false 0 0 0 0 (zh (Sign.mk 4 0 x7 x8 x9 x12 x15 true 0 0 0 0 false 0 0 0 0))))/\
((zh (Sign.mk 4 0 x7 x8 x9 x12 x15 true 0 0 0 0 false 0 0 0 0))=0->
 zj a0 4 0 x7 x8 x9 x12 x15 true 0 0 0 0 false 0 0 0 0 0)))))/\
((preB (fr a0 x14) ([33]:List UInt8))=false->
((x6=true->
(qb a0 4)/\
 True))/\
(x6=false->
((x14≠(ln a0)->
(qb a0 4)/\
 True))/\
(x14=(ln a0)->
(True)/\
(((zh (Sign.mk 4 0 x7 x8 x9 x12 x15 false 0 0 0 0 false 0 0 0 0))≠0->
 zj a0 0 0 0 0 false 0 false false 0 0 0 0 false 0 0 0 0 (zh (Sign.mk 4 0 x7 x8 x9 x12 x15 false 0 0 0 0 false 0 0 0 0))))/\
((zh (Sign.mk 4 0 x7 x8 x9 x12 x15 false 0 0 0 0 false 0 0 0 0))=0->
 zj a0 4 0 x7 x8 x9 x12 x15 false 0 0 0 0 false 0 0 0 0 0))))))))))))))))))/\
((preB (fr a0 0) ([116]:List UInt8))=false->
(qb a0 4)/\
 True))/\
(qb a0 4->
(((0:Int)<=0/\0<=ln a0)/\
(True)/\
(((preB (fr a0 0) ([40]:List UInt8))=true->
(I64 (0+(ln ([40]:List UInt8))))/\
((0:Int)<=(0+(ln ([40]:List UInt8)))/\(0+(ln ([40]:List UInt8)))<=ln a0)/\
((U8 41))/\
(I64 ((0+(ln ([40]:List UInt8)))+(if (zq (fr a0 (0+(ln ([40]:List UInt8)))) 41) > 0 then (zq (fr a0 (0+(ln ([40]:List UInt8)))) 41) else 0)))/\
((0:Int)<=(0+(ln ([40]:List UInt8)))/\((0+(ln ([40]:List UInt8))):Int)<=((0+(ln ([40]:List UInt8)))+(if (zq (fr a0 (0+(ln ([40]:List UInt8)))) 41) > 0 then (zq (fr a0 (0+(ln ([40]:List UInt8)))) 41) else 0))/\((0+(ln ([40]:List UInt8)))+(if (zq (fr a0 (0+(ln ([40]:List UInt8)))) 41) > 0 then (zq (fr a0 (0+(ln ([40]:List UInt8)))) 41) else 0))<=ln a0)/\
(True)/\
(I64 ((0+(ln ([40]:List UInt8)))+(if (zq (fr a0 (0+(ln ([40]:List UInt8)))) 41) > 0 then (zq (fr a0 (0+(ln ([40]:List UInt8)))) 41) else 0)))/\
((0:Int)<=((0+(ln ([40]:List UInt8)))+(if (zq (fr a0 (0+(ln ([40]:List UInt8)))) 41) > 0 then (zq (fr a0 (0+(ln ([40]:List UInt8)))) 41) else 0))/\((0+(ln ([40]:List UInt8)))+(if (zq (fr a0 (0+(ln ([40]:List UInt8)))) 41) > 0 then (zq (fr a0 (0+(ln ([40]:List UInt8)))) 41) else 0))<=ln a0)/\
(True)/\
(((preB (fr a0 ((0+(ln ([40]:List UInt8)))+(if (zq (fr a0 (0+(ln ([40]:List UInt8)))) 41) > 0 then (zq (fr a0 (0+(ln ([40]:List UInt8)))) 41) else 0))) ([41]:List UInt8))=true->
(I64 (((0+(ln ([40]:List UInt8)))+(if (zq (fr a0 (0+(ln ([40]:List UInt8)))) 41) > 0 then (zq (fr a0 (0+(ln ([40]:List UInt8)))) 41) else 0))+(ln ([41]:List UInt8))))/\
((0:Int)<=(((0+(ln ([40]:List UInt8)))+(if (zq (fr a0 (0+(ln ([40]:List UInt8)))) 41) > 0 then (zq (fr a0 (0+(ln ([40]:List UInt8)))) 41) else 0))+(ln ([41]:List UInt8)))/\(((0+(ln ([40]:List UInt8)))+(if (zq (fr a0 (0+(ln ([40]:List UInt8)))) 41) > 0 then (zq (fr a0 (0+(ln ([40]:List UInt8)))) 41) else 0))+(ln ([41]:List UInt8)))<=ln a0)/\
(True)/\
(((preB (fr a0 (((0+(ln ([40]:List UInt8)))+(if (zq (fr a0 (0+(ln ([40]:List UInt8)))) 41) > 0 then (zq (fr a0 (0+(ln ([40]:List UInt8)))) 41) else 0))+(ln ([41]:List UInt8)))) ([124]:List UInt8))=true->
(I64 ((((0+(ln ([40]:List UInt8)))+(if (zq (fr a0 (0+(ln ([40]:List UInt8)))) 41) > 0 then (zq (fr a0 (0+(ln ([40]:List UInt8)))) 41) else 0))+(ln ([41]:List UInt8)))+(ln ([124]:List UInt8))))/\
((((za (sub a0 (0+(ln ([40]:List UInt8))) ((0+(ln ([40]:List UInt8)))+(if (zq (fr a0 (0+(ln ([40]:List UInt8)))) 41) > 0 then (zq (fr a0 (0+(ln ([40]:List UInt8)))) 41) else 0)))).2)≠0->
(qb a0 5)/\
 True))/\
(((za (sub a0 (0+(ln ([40]:List UInt8))) ((0+(ln ([40]:List UInt8)))+(if (zq (fr a0 (0+(ln ([40]:List UInt8)))) 41) > 0 then (zq (fr a0 (0+(ln ([40]:List UInt8)))) 41) else 0)))).2)=0->
((((((0+(ln ([40]:List UInt8)))+(if (zq (fr a0 (0+(ln ([40]:List UInt8)))) 41) > 0 then (zq (fr a0 (0+(ln ([40]:List UInt8)))) 41) else 0))+(ln ([41]:List UInt8)))+(ln ([124]:List UInt8)))≠(ln a0)->
(qb a0 5)/\
 True))/\
(((((0+(ln ([40]:List UInt8)))+(if (zq (fr a0 (0+(ln ([40]:List UInt8)))) 41) > 0 then (zq (fr a0 (0+(ln ([40]:List UInt8)))) 41) else 0))+(ln ([41]:List UInt8)))+(ln ([124]:List UInt8)))=(ln a0)->
(True)/\
((r1_≠0->
 zj a0 0 0 0 0 false 0 false false 0 0 0 0 false 0 0 0 0 r1_))/\
(r1_=0->
 zj a0 5 0 0 0 false 0 false false ((za (sub a0 (0+(ln ([40]:List UInt8))) ((0+(ln ([40]:List UInt8)))+(if (zq (fr a0 (0+(ln ([40]:List UInt8)))) 41) > 0 then (zq (fr a0 (0+(ln ([40]:List UInt8)))) 41) else 0)))).1.1) ((za (sub a0 (0+(ln ([40]:List UInt8))) ((0+(ln ([40]:List UInt8)))+(if (zq (fr a0 (0+(ln ([40]:List UInt8)))) 41) > 0 then (zq (fr a0 (0+(ln ([40]:List UInt8)))) 41) else 0)))).1.2.1) ((za (sub a0 (0+(ln ([40]:List UInt8))) ((0+(ln ([40]:List UInt8)))+(if (zq (fr a0 (0+(ln ([40]:List UInt8)))) 41) > 0 then (zq (fr a0 (0+(ln ([40]:List UInt8)))) 41) else 0)))).1.2.2.1) ((za (sub a0 (0+(ln ([40]:List UInt8))) ((0+(ln ([40]:List UInt8)))+(if (zq (fr a0 (0+(ln ([40]:List UInt8)))) 41) > 0 then (zq (fr a0 (0+(ln ([40]:List UInt8)))) 41) else 0)))).1.2.2.2) true 0 0 0 0 0)))))/\
((preB (fr a0 (((0+(ln ([40]:List UInt8)))+(if (zq (fr a0 (0+(ln ([40]:List UInt8)))) 41) > 0 then (zq (fr a0 (0+(ln ([40]:List UInt8)))) 41) else 0))+(ln ([41]:List UInt8)))) ([124]:List UInt8))=false->
((((za (sub a0 (0+(ln ([40]:List UInt8))) ((0+(ln ([40]:List UInt8)))+(if (zq (fr a0 (0+(ln ([40]:List UInt8)))) 41) > 0 then (zq (fr a0 (0+(ln ([40]:List UInt8)))) 41) else 0)))).2)≠0->
(qb a0 5)/\
 True))/\
(((za (sub a0 (0+(ln ([40]:List UInt8))) ((0+(ln ([40]:List UInt8)))+(if (zq (fr a0 (0+(ln ([40]:List UInt8)))) 41) > 0 then (zq (fr a0 (0+(ln ([40]:List UInt8)))) 41) else 0)))).2)=0->
(((((0+(ln ([40]:List UInt8)))+(if (zq (fr a0 (0+(ln ([40]:List UInt8)))) 41) > 0 then (zq (fr a0 (0+(ln ([40]:List UInt8)))) 41) else 0))+(ln ([41]:List UInt8)))≠(ln a0)->
(qb a0 5)/\
 True))/\
((((0+(ln ([40]:List UInt8)))+(if (zq (fr a0 (0+(ln ([40]:List UInt8)))) 41) > 0 then (zq (fr a0 (0+(ln ([40]:List UInt8)))) 41) else 0))+(ln ([41]:List UInt8)))=(ln a0)->
(True)/\
((r0_≠0->
 zj a0 0 0 0 0 false 0 false false 0 0 0 0 false 0 0 0 0 r0_))/\
(r0_=0->
 zj a0 5 0 0 0 false 0 false false ((za (sub a0 (0+(ln ([40]:List UInt8))) ((0+(ln ([40]:List UInt8)))+(if (zq (fr a0 (0+(ln ([40]:List UInt8)))) 41) > 0 then (zq (fr a0 (0+(ln ([40]:List UInt8)))) 41) else 0)))).1.1) ((za (sub a0 (0+(ln ([40]:List UInt8))) ((0+(ln ([40]:List UInt8)))+(if (zq (fr a0 (0+(ln ([40]:List UInt8)))) 41) > 0 then (zq (fr a0 (0+(ln ([40]:List UInt8)))) 41) else 0)))).1.2.1) ((za (sub a0 (0+(ln ([40]:List UInt8))) ((0+(ln ([40]:List UInt8)))+(if (zq (fr a0 (0+(ln ([40]:List UInt8)))) 41) > 0 then (zq (fr a0 (0+(ln ([40]:List UInt8)))) 41) else 0)))).1.2.2.1) ((za (sub a0 (0+(ln ([40]:List UInt8))) ((0+(ln ([40]:List UInt8)))+(if (zq (fr a0 (0+(ln ([40]:List UInt8)))) 41) > 0 then (zq (fr a0 (0+(ln ([40]:List UInt8)))) 41) else 0)))).1.2.2.2) false 0 0 0 0 0))))))/\
((preB (fr a0 ((0+(ln ([40]:List UInt8)))+(if (zq (fr a0 (0+(ln ([40]:List UInt8)))) 41) > 0 then (zq (fr a0 (0+(ln ([40]:List UInt8)))) 41) else 0))) ([41]:List UInt8))=false->
((0:Int)<=((0+(ln ([40]:List UInt8)))+(if (zq (fr a0 (0+(ln ([40]:List UInt8)))) 41) > 0 then (zq (fr a0 (0+(ln ([40]:List UInt8)))) 41) else 0))/\((0+(ln ([40]:List UInt8)))+(if (zq (fr a0 (0+(ln ([40]:List UInt8)))) 41) > 0 then (zq (fr a0 (0+(ln ([40]:List UInt8)))) 41) else 0))<=ln a0)/\
(True)/\
(((preB (fr a0 ((0+(ln ([40]:List UInt8)))+(if (zq (fr a0 (0+(ln ([40]:List UInt8)))) 41) > 0 then (zq (fr a0 (0+(ln ([40]:List UInt8)))) 41) else 0))) ([124]:List UInt8))=true->
(I64 (((0+(ln ([40]:List UInt8)))+(if (zq (fr a0 (0+(ln ([40]:List UInt8)))) 41) > 0 then (zq (fr a0 (0+(ln ([40]:List UInt8)))) 41) else 0))+(ln ([124]:List UInt8))))/\
(qb a0 5)/\
 True))/\
((preB (fr a0 ((0+(ln ([40]:List UInt8)))+(if (zq (fr a0 (0+(ln ([40]:List UInt8)))) 41) > 0 then (zq (fr a0 (0+(ln ([40]:List UInt8)))) 41) else 0))) ([124]:List UInt8))=false->
(qb a0 5)/\
 True))))/\
((preB (fr a0 0) ([40]:List UInt8))=false->
(qb a0 5)/\
 True))/\
(qb a0 5->
(((0:Int)<=0/\0<=ln a0)/\
(True)/\
(((preB (fr a0 0) ([]:List UInt8))=true->
(I64 (0+(ln ([]:List UInt8))))/\
((zc a0 (0+(ln ([]:List UInt8))) (0+(ln ([]:List UInt8))))/\
(∀ x7:Int,
(zc a0 x7 (0+(ln ([]:List UInt8)))->
((x7<(ln a0)->
(Wn x7 (ln a0))/\
((48<=(bx a0 x7)->
(Wn x7 (ln a0))/\
(((bx a0 x7)<=57->
(I64 (x7+1))/\
(a0=a0)/\
(([]:List UInt8)=([]:List UInt8))/\
(zc a0 (x7+1) (0+(ln ([]:List UInt8))))/\
 zx a0 (x7+1) (0+(ln ([]:List UInt8)))<zx a0 x7 (0+(ln ([]:List UInt8)))))/\
(57<(bx a0 x7)->
(a0=a0)/\
(([]:List UInt8)=([]:List UInt8))/\
(qk a0 x7 (0+(ln ([]:List UInt8))))/\
 True)))/\
((bx a0 x7)<48->
(a0=a0)/\
(([]:List UInt8)=([]:List UInt8))/\
(qk a0 x7 (0+(ln ([]:List UInt8))))/\
 True)))/\
((ln a0)<=x7->
(a0=a0)/\
(([]:List UInt8)=([]:List UInt8))/\
(qk a0 x7 (0+(ln ([]:List UInt8))))/\
 True))))/\
(∀ x7:Int,
(qk a0 x7 (0+(ln ([]:List UInt8)))->
((0:Int)<=(0+(ln ([]:List UInt8)))/\((0+(ln ([]:List UInt8))):Int)<=x7/\x7<=ln a0)/\
((ln (sub a0 (0+(ln ([]:List UInt8))) x7)<=1000000))/\
((a0=a0)/\
((x7:Int)=x7)/\
(([]:List UInt8)=([]:List UInt8))/\
(kv a0 (!((qd (sub a0 (0+(ln ([]:List UInt8))) x7)).2)) false ((qd (sub a0 (0+(ln ([]:List UInt8))) x7)).2))/\
 True)/\
(∀ x9:Bool,
(kv a0 x9 false ((qd (sub a0 (0+(ln ([]:List UInt8))) x7)).2)->
(((0:Int)<=x7/\x7<=ln a0)/\
(True)/\
(((preB (fr a0 x7) ([47]:List UInt8))=true->
(I64 (x7+(ln ([47]:List UInt8))))/\
(a0=a0)/\
((((qd (sub a0 (0+(ln ([]:List UInt8))) x7)).1):Int)=((qd (sub a0 (0+(ln ([]:List UInt8))) x7)).1))/\
(([]:List UInt8)=([]:List UInt8))/\
(qag a0 (x7+(ln ([47]:List UInt8))) x9 x7 x9)/\
 True))/\
((preB (fr a0 x7) ([47]:List UInt8))=false->
(a0=a0)/\
((((qd (sub a0 (0+(ln ([]:List UInt8))) x7)).1):Int)=((qd (sub a0 (0+(ln ([]:List UInt8))) x7)).1))/\
(([]:List UInt8)=([]:List UInt8))/\
(qag a0 x7 true x7 x9)/\
 True))/\
(∀ x11:Int,
(∀ x12:Bool,
(qag a0 x11 x12 x7 x9->
((zc a0 x11 x11)/\
(∀ x14:Int,
(zc a0 x14 x11->
((x14<(ln a0)->
(Wn x14 (ln a0))/\
((48<=(bx a0 x14)->
(Wn x14 (ln a0))/\
(((bx a0 x14)<=57->
(I64 (x14+1))/\
(qkj a0 x12 x7 (
(zc a0 (x14+1) x11)/\
 zx a0 (x14+1) x11<zx a0 x14 x11))))/\
(57<(bx a0 x14)->
(qkj a0 x12 x7 (
(qk a0 x14 x11)/\
 True)))))/\
((bx a0 x14)<48->
(qkj a0 x12 x7 (
(qk a0 x14 x11)/\
 True)))))/\
((ln a0)<=x14->
(qkj a0 x12 x7 (
(qk a0 x14 x11)/\
 True))))))/\
(∀ x14:Int,
(qk a0 x14 x11->
((0:Int)<=x11/\(x11:Int)<=x14/\x14<=ln a0)/\
((ln (sub a0 x11 x14)<=1000000))/\
(((x12=true->
(a0=a0)/\
((x14:Int)=x14)/\
((((qd (sub a0 (0+(ln ([]:List UInt8))) x7)).1):Int)=((qd (sub a0 (0+(ln ([]:List UInt8))) x7)).1))/\
(([]:List UInt8)=([]:List UInt8))/\
(kv a0 true x12 ((qd (sub a0 x11 x14)).2))/\
 True))/\
(x12=false->
(a0=a0)/\
((x14:Int)=x14)/\
((((qd (sub a0 (0+(ln ([]:List UInt8))) x7)).1):Int)=((qd (sub a0 (0+(ln ([]:List UInt8))) x7)).1))/\
(([]:List UInt8)=([]:List UInt8))/\
(kv a0 (!((qd (sub a0 x11 x14)).2)) x12 ((qd (sub a0 x11 x14)).2))/\
 True))/\
(∀ x16:Bool,
(kv a0 x16 x12 ((qd (sub a0 x11 x14)).2)->
((x16=true->
(qb a0 6)/\
 True))/\
(x16=false->
((x14≠(ln a0)->
(qb a0 6)/\
 True))/\
(x14=(ln a0)->
(True)/\
(((zh (Sign.mk 6 0 0 0 false 0 false false 0 0 0 0 false ((qd (sub a0 (0+(ln ([]:List UInt8))) x7)).1) ((qd (sub a0 x11 x14)).1) 0 0))≠0->
 zj a0 0 0 0 0 false 0 false false 0 0 0 0 false 0 0 0 0 (zh (Sign.mk 6 0 0 0 false 0 false false 0 0 0 0 false ((qd (sub a0 (0+(ln ([]:List UInt8))) x7)).1) ((qd (sub a0 x11 x14)).1) 0 0))))/\
((zh (Sign.mk 6 0 0 0 false 0 false false 0 0 0 0 false ((qd (sub a0 (0+(ln ([]:List UInt8))) x7)).1) ((qd (sub a0 x11 x14)).1) 0 0))=0->
 zj a0 6 0 0 0 false 0 false false 0 0 0 0 false ((qd (sub a0 (0+(ln ([]:List UInt8))) x7)).1) ((qd (sub a0 x11 x14)).1) 0 0 0))))))))))))))))/\
((preB (fr a0 0) ([]:List UInt8))=false->
(qb a0 6)/\
 True))/\
(qb a0 6->
(((0:Int)<=0/\0<=ln a0)/\
(True)/\
(((preB (fr a0 0) ([64]:List UInt8))=true->
(I64 (0+(ln ([64]:List UInt8))))/\
(((0:Int)<=(0+(ln ([64]:List UInt8)))/\(0+(ln ([64]:List UInt8)))<=ln a0)/\
(True)/\
(((preB (fr a0 (0+(ln ([64]:List UInt8)))) ([67]:List UInt8))=true->
(I64 ((0+(ln ([64]:List UInt8)))+(ln ([67]:List UInt8))))/\
(a0=a0)/\
(([64]:List UInt8)=([64]:List UInt8))/\
(k6 a0 ((0+(ln ([64]:List UInt8)))+(ln ([67]:List UInt8))) false 0 (0+(ln ([64]:List UInt8))))/\
 True))/\
((preB (fr a0 (0+(ln ([64]:List UInt8)))) ([67]:List UInt8))=false->
((0:Int)<=(0+(ln ([64]:List UInt8)))/\(0+(ln ([64]:List UInt8)))<=ln a0)/\
(True)/\
(((preB (fr a0 (0+(ln ([64]:List UInt8)))) ([70]:List UInt8))=true->
(I64 ((0+(ln ([64]:List UInt8)))+(ln ([70]:List UInt8))))/\
(a0=a0)/\
(([64]:List UInt8)=([64]:List UInt8))/\
(k6 a0 ((0+(ln ([64]:List UInt8)))+(ln ([70]:List UInt8))) false 3 (0+(ln ([64]:List UInt8))))/\
 True))/\
((preB (fr a0 (0+(ln ([64]:List UInt8)))) ([70]:List UInt8))=false->
((0:Int)<=(0+(ln ([64]:List UInt8)))/\(0+(ln ([64]:List UInt8)))<=ln a0)/\
(True)/\
(((preB (fr a0 (0+(ln ([64]:List UInt8)))) ([71]:List UInt8))=true->
(I64 ((0+(ln ([64]:List UInt8)))+(ln ([71]:List UInt8))))/\
(a0=a0)/\
(([64]:List UInt8)=([64]:List UInt8))/\
(k6 a0 ((0+(ln ([64]:List UInt8)))+(ln ([71]:List UInt8))) false 4 (0+(ln ([64]:List UInt8))))/\
 True))/\
((preB (fr a0 (0+(ln ([64]:List UInt8)))) ([71]:List UInt8))=false->
(a0=a0)/\
(([64]:List UInt8)=([64]:List UInt8))/\
(k6 a0 (0+(ln ([64]:List UInt8))) true 0 (0+(ln ([64]:List UInt8))))/\
 True))))/\
(∀ x8:Int,
(∀ x9:Bool,
(∀ x10:Int,
(k6 a0 x8 x9 x10 (0+(ln ([64]:List UInt8)))->
((zc a0 x8 x8)/\
(∀ x12:Int,
(zc a0 x12 x8->
((x12<(ln a0)->
(Wn x12 (ln a0))/\
((48<=(bx a0 x12)->
(Wn x12 (ln a0))/\
(((bx a0 x12)<=57->
(I64 (x12+1))/\
(a0=a0)/\
(x9=x9)/\
((x10:Int)=x10)/\
(([64]:List UInt8)=([64]:List UInt8))/\
(zc a0 (x12+1) x8)/\
 zx a0 (x12+1) x8<zx a0 x12 x8))/\
(57<(bx a0 x12)->
(a0=a0)/\
(x9=x9)/\
((x10:Int)=x10)/\
(([64]:List UInt8)=([64]:List UInt8))/\
(qk a0 x12 x8)/\
 True)))/\
((bx a0 x12)<48->
(a0=a0)/\
(x9=x9)/\
((x10:Int)=x10)/\
(([64]:List UInt8)=([64]:List UInt8))/\
(qk a0 x12 x8)/\
 True)))/\
((ln a0)<=x12->
(a0=a0)/\
(x9=x9)/\
((x10:Int)=x10)/\
(([64]:List UInt8)=([64]:List UInt8))/\
(qk a0 x12 x8)/\
 True))))/\
(∀ x12:Int,
(qk a0 x12 x8->
((0:Int)<=x8/\(x8:Int)<=x12/\x12<=ln a0)/\
((ln (sub a0 x8 x12)<=1000000))/\
(((x9=true->
(a0=a0)/\
((x12:Int)=x12)/\
((x10:Int)=x10)/\
(([64]:List UInt8)=([64]:List UInt8))/\
(kv a0 true x9 ((qd (sub a0 x8 x12)).2))/\
 True))/\
(x9=false->
(a0=a0)/\
((x12:Int)=x12)/\
((x10:Int)=x10)/\
(([64]:List UInt8)=([64]:List UInt8))/\
(kv a0 (!((qd (sub a0 x8 x12)).2)) x9 ((qd (sub a0 x8 x12)).2))/\
 True))/\
(∀ x14:Bool,
(kv a0 x14 x9 ((qd (sub a0 x8 x12)).2)->
((x14=true->
(qb a0 7)/\
 True))/\
(x14=false->
((x12≠(ln a0)->
(qb a0 7)/\
 True))/\
(x12=(ln a0)->
(True)/\
(((zh (Sign.mk 7 0 0 0 false 0 false false 0 0 0 0 false 0 0 x10 ((qd (sub a0 x8 x12)).1)))≠0->
 zj a0 0 0 0 0 false 0 false false 0 0 0 0 false 0 0 0 0 (zh (Sign.mk 7 0 0 0 false 0 false false 0 0 0 0 false 0 0 x10 ((qd (sub a0 x8 x12)).1)))))/\
((zh (Sign.mk 7 0 0 0 false 0 false false 0 0 0 0 false 0 0 x10 ((qd (sub a0 x8 x12)).1)))=0->
 zj a0 7 0 0 0 false 0 false false 0 0 0 0 false 0 0 x10 ((qd (sub a0 x8 x12)).1) 0)))))))))))))/\
((preB (fr a0 0) ([64]:List UInt8))=false->
(qb a0 7)/\
 True))/\
(qb a0 7->
(((0:Int)<=0/\0<=ln a0)/\
(True)/\
(((preB (fr a0 0) ([38]:List UInt8))=true->
(I64 (0+(ln ([38]:List UInt8))))/\
((zc a0 (0+(ln ([38]:List UInt8))) (0+(ln ([38]:List UInt8))))/\
(∀ x9:Int,
(zc a0 x9 (0+(ln ([38]:List UInt8)))->
((x9<(ln a0)->
(Wn x9 (ln a0))/\
((48<=(bx a0 x9)->
(Wn x9 (ln a0))/\
(((bx a0 x9)<=57->
(I64 (x9+1))/\
(a0=a0)/\
(([38]:List UInt8)=([38]:List UInt8))/\
(zc a0 (x9+1) (0+(ln ([38]:List UInt8))))/\
 zx a0 (x9+1) (0+(ln ([38]:List UInt8)))<zx a0 x9 (0+(ln ([38]:List UInt8)))))/\
(57<(bx a0 x9)->
(a0=a0)/\
(([38]:List UInt8)=([38]:List UInt8))/\
(qk a0 x9 (0+(ln ([38]:List UInt8))))/\
 True)))/\
((bx a0 x9)<48->
(a0=a0)/\
(([38]:List UInt8)=([38]:List UInt8))/\
(qk a0 x9 (0+(ln ([38]:List UInt8))))/\
 True)))/\
((ln a0)<=x9->
(a0=a0)/\
(([38]:List UInt8)=([38]:List UInt8))/\
(qk a0 x9 (0+(ln ([38]:List UInt8))))/\
 True))))/\
(∀ x9:Int,
(qk a0 x9 (0+(ln ([38]:List UInt8)))->
((0:Int)<=(0+(ln ([38]:List UInt8)))/\((0+(ln ([38]:List UInt8))):Int)<=x9/\x9<=ln a0)/\
((ln (sub a0 (0+(ln ([38]:List UInt8))) x9)<=1000000))/\
((a0=a0)/\
((x9:Int)=x9)/\
(([38]:List UInt8)=([38]:List UInt8))/\
(kv a0 (!((qd (sub a0 (0+(ln ([38]:List UInt8))) x9)).2)) false ((qd (sub a0 (0+(ln ([38]:List UInt8))) x9)).2))/\
 True)/\
(∀ x11:Bool,
(kv a0 x11 false ((qd (sub a0 (0+(ln ([38]:List UInt8))) x9)).2)->
((x11=true->
(qb a0 8)/\
 True))/\
(x11=false->
((x9≠(ln a0)->
(qb a0 8)/\
 True))/\
(x9=(ln a0)->
(True)/\
(((zh (Sign.mk 8 0 0 0 false 0 false false 0 0 0 0 false ((qd (sub a0 (0+(ln ([38]:List UInt8))) x9)).1) 0 0 0))≠0->
 zj a0 0 0 0 0 false 0 false false 0 0 0 0 false 0 0 0 0 (zh (Sign.mk 8 0 0 0 false 0 false false 0 0 0 0 false ((qd (sub a0 (0+(ln ([38]:List UInt8))) x9)).1) 0 0 0))))/\
((zh (Sign.mk 8 0 0 0 false 0 false false 0 0 0 0 false ((qd (sub a0 (0+(ln ([38]:List UInt8))) x9)).1) 0 0 0))=0->
 zj a0 8 0 0 0 false 0 false false 0 0 0 0 false ((qd (sub a0 (0+(ln ([38]:List UInt8))) x9)).1) 0 0 0 0)))))))))/\
((preB (fr a0 0) ([38]:List UInt8))=false->
(qb a0 8)/\
 True))/\
(qb a0 8->
(((0:Int)<=0/\0<=ln a0)/\
(True)/\
(((preB (fr a0 0) ([91]:List UInt8))=true->
(I64 (0+(ln ([91]:List UInt8))))/\
(((0+(ln ([91]:List UInt8)))≠(ln a0)->
(qb a0 9)/\
 True))/\
((0+(ln ([91]:List UInt8)))=(ln a0)->
(True)/\
(((zh (Sign.mk 9 0 0 0 false 0 false false 0 0 0 0 false 0 0 0 0))≠0->
 zj a0 0 0 0 0 false 0 false false 0 0 0 0 false 0 0 0 0 (zh (Sign.mk 9 0 0 0 false 0 false false 0 0 0 0 false 0 0 0 0))))/\
((zh (Sign.mk 9 0 0 0 false 0 false false 0 0 0 0 false 0 0 0 0))=0->
 zj a0 9 0 0 0 false 0 false false 0 0 0 0 false 0 0 0 0 0))))/\
((preB (fr a0 0) ([91]:List UInt8))=false->
(qb a0 9)/\
 True))/\
(qb a0 9->
(((0:Int)<=0/\0<=ln a0)/\
(True)/\
(((preB (fr a0 0) ([93]:List UInt8))=true->
(I64 (0+(ln ([93]:List UInt8))))/\
((zc a0 (0+(ln ([93]:List UInt8))) (0+(ln ([93]:List UInt8))))/\
(∀ x11:Int,
(zc a0 x11 (0+(ln ([93]:List UInt8)))->
((x11<(ln a0)->
(Wn x11 (ln a0))/\
((48<=(bx a0 x11)->
(Wn x11 (ln a0))/\
(((bx a0 x11)<=57->
(I64 (x11+1))/\
(a0=a0)/\
(([93]:List UInt8)=([93]:List UInt8))/\
(zc a0 (x11+1) (0+(ln ([93]:List UInt8))))/\
 zx a0 (x11+1) (0+(ln ([93]:List UInt8)))<zx a0 x11 (0+(ln ([93]:List UInt8)))))/\
(57<(bx a0 x11)->
(a0=a0)/\
(([93]:List UInt8)=([93]:List UInt8))/\
(qk a0 x11 (0+(ln ([93]:List UInt8))))/\
 True)))/\
((bx a0 x11)<48->
(a0=a0)/\
(([93]:List UInt8)=([93]:List UInt8))/\
(qk a0 x11 (0+(ln ([93]:List UInt8))))/\
 True)))/\
((ln a0)<=x11->
(a0=a0)/\
(([93]:List UInt8)=([93]:List UInt8))/\
(qk a0 x11 (0+(ln ([93]:List UInt8))))/\
 True))))/\
(∀ x11:Int,
(qk a0 x11 (0+(ln ([93]:List UInt8)))->
((0:Int)<=(0+(ln ([93]:List UInt8)))/\((0+(ln ([93]:List UInt8))):Int)<=x11/\x11<=ln a0)/\
((ln (sub a0 (0+(ln ([93]:List UInt8))) x11)<=1000000))/\
((a0=a0)/\
((x11:Int)=x11)/\
(([93]:List UInt8)=([93]:List UInt8))/\
(kv a0 (!((qd (sub a0 (0+(ln ([93]:List UInt8))) x11)).2)) false ((qd (sub a0 (0+(ln ([93]:List UInt8))) x11)).2))/\
 True)/\
(∀ x13:Bool,
(kv a0 x13 false ((qd (sub a0 (0+(ln ([93]:List UInt8))) x11)).2)->
((x13=true->
(qb a0 10)/\
 True))/\
(x13=false->
((x11≠(ln a0)->
(qb a0 10)/\
 True))/\
(x11=(ln a0)->
(True)/\
(((zh (Sign.mk 10 0 0 0 false 0 false false 0 0 0 0 false ((qd (sub a0 (0+(ln ([93]:List UInt8))) x11)).1) 0 0 0))≠0->
 zj a0 0 0 0 0 false 0 false false 0 0 0 0 false 0 0 0 0 (zh (Sign.mk 10 0 0 0 false 0 false false 0 0 0 0 false ((qd (sub a0 (0+(ln ([93]:List UInt8))) x11)).1) 0 0 0))))/\
((zh (Sign.mk 10 0 0 0 false 0 false false 0 0 0 0 false ((qd (sub a0 (0+(ln ([93]:List UInt8))) x11)).1) 0 0 0))=0->
 zj a0 10 0 0 0 false 0 false false 0 0 0 0 false ((qd (sub a0 (0+(ln ([93]:List UInt8))) x11)).1) 0 0 0 0)))))))))/\
((preB (fr a0 0) ([93]:List UInt8))=false->
(qb a0 10)/\
 True))/\
(qb a0 10->
(((0:Int)<=0/\0<=ln a0)/\
(True)/\
(((preB (fr a0 0) ([116,117,114,110]:List UInt8))=true->
(I64 (0+(ln ([116,117,114,110]:List UInt8))))/\
(((0+(ln ([116,117,114,110]:List UInt8)))≠(ln a0)->
(qb a0 11)/\
 True))/\
((0+(ln ([116,117,114,110]:List UInt8)))=(ln a0)->
(True)/\
(((zh (Sign.mk 11 0 0 0 false 0 false false 0 0 0 0 false 0 0 0 0))≠0->
 zj a0 0 0 0 0 false 0 false false 0 0 0 0 false 0 0 0 0 (zh (Sign.mk 11 0 0 0 false 0 false false 0 0 0 0 false 0 0 0 0))))/\
((zh (Sign.mk 11 0 0 0 false 0 false false 0 0 0 0 false 0 0 0 0))=0->
 zj a0 11 0 0 0 false 0 false false 0 0 0 0 false 0 0 0 0 0))))/\
((preB (fr a0 0) ([116,117,114,110]:List UInt8))=false->
(qb a0 11)/\
 True))/\
(qb a0 11->
(((0:Int)<=0/\0<=ln a0)/\
(True)/\
(((preB (fr a0 0) ([115,105,103]:List UInt8))=true->
(I64 (0+(ln ([115,105,103]:List UInt8))))/\
(((0+(ln ([115,105,103]:List UInt8)))≠(ln a0)->
(qb a0 12)/\
 True))/\
((0+(ln ([115,105,103]:List UInt8)))=(ln a0)->
(True)/\
(((zh (Sign.mk 12 0 0 0 false 0 false false 0 0 0 0 false 0 0 0 0))≠0->
 zj a0 0 0 0 0 false 0 false false 0 0 0 0 false 0 0 0 0 (zh (Sign.mk 12 0 0 0 false 0 false false 0 0 0 0 false 0 0 0 0))))/\
((zh (Sign.mk 12 0 0 0 false 0 false false 0 0 0 0 false 0 0 0 0))=0->
 zj a0 12 0 0 0 false 0 false false 0 0 0 0 false 0 0 0 0 0))))/\
((preB (fr a0 0) ([115,105,103]:List UInt8))=false->
(qb a0 12)/\
 True))/\
(qb a0 12->
 zj a0 0 0 0 0 false 0 false false 0 0 0 0 false 0 0 0 0 3)))))))))))))) (zh (Sign.mk 5 0 0 0 false 0 false false ((za (sub a0 (0+(ln ([40]:List UInt8))) ((0+(ln ([40]:List UInt8)))+(if (zq (fr a0 (0+(ln ([40]:List UInt8)))) 41) > 0 then (zq (fr a0 (0+(ln ([40]:List UInt8)))) 41) else 0)))).1.1) ((za (sub a0 (0+(ln ([40]:List UInt8))) ((0+(ln ([40]:List UInt8)))+(if (zq (fr a0 (0+(ln ([40]:List UInt8)))) 41) > 0 then (zq (fr a0 (0+(ln ([40]:List UInt8)))) 41) else 0)))).1.2.1) ((za (sub a0 (0+(ln ([40]:List UInt8))) ((0+(ln ([40]:List UInt8)))+(if (zq (fr a0 (0+(ln ([40]:List UInt8)))) 41) > 0 then (zq (fr a0 (0+(ln ([40]:List UInt8)))) 41) else 0)))).1.2.2.1) ((za (sub a0 (0+(ln ([40]:List UInt8))) ((0+(ln ([40]:List UInt8)))+(if (zq (fr a0 (0+(ln ([40]:List UInt8)))) 41) > 0 then (zq (fr a0 (0+(ln ([40]:List UInt8)))) 41) else 0)))).1.2.2.2) false 0 0 0 0))) (zh (Sign.mk 5 0 0 0 false 0 false false ((za (sub a0 (0+(ln ([40]:List UInt8))) ((0+(ln ([40]:List UInt8)))+(if (zq (fr a0 (0+(ln ([40]:List UInt8)))) 41) > 0 then (zq (fr a0 (0+(ln ([40]:List UInt8)))) 41) else 0)))).1.1) ((za (sub a0 (0+(ln ([40]:List UInt8))) ((0+(ln ([40]:List UInt8)))+(if (zq (fr a0 (0+(ln ([40]:List UInt8)))) 41) > 0 then (zq (fr a0 (0+(ln ([40]:List UInt8)))) 41) else 0)))).1.2.1) ((za (sub a0 (0+(ln ([40]:List UInt8))) ((0+(ln ([40]:List UInt8)))+(if (zq (fr a0 (0+(ln ([40]:List UInt8)))) 41) > 0 then (zq (fr a0 (0+(ln ([40]:List UInt8)))) 41) else 0)))).1.2.2.1) ((za (sub a0 (0+(ln ([40]:List UInt8))) ((0+(ln ([40]:List UInt8)))+(if (zq (fr a0 (0+(ln ([40]:List UInt8)))) 41) > 0 then (zq (fr a0 (0+(ln ([40]:List UInt8)))) 41) else 0)))).1.2.2.2) true 0 0 0 0))
theorem zai (a0:List UInt8):qau (qq XK (j7 q7w) (fun j ns=>match j,ns with | 0,[.s y0,.i y1,.i y2]=>jc a0 y0 y1 y2 | 1,[.i y0,.i y1]=>zc a0 y0 y1 | 2,[.i y0,.i y1]=>qk a0 y0 y1 | 3,[.b y0,.b y1,.b y2]=>kv a0 y0 y1 y2 | 4,[.b y0,.b y1,.b y2]=>qbj a0 y0 y1 y2 | 5,[.i y0,.i y1]=>z9 a0 y0 y1 | 6,[.i y0,.b y1,.i y2]=>qa1 a0 y0 y1 y2 | 7,[.i y0,.i y1,.i y2]=>zr a0 y0 y1 y2 | 8,[.i y0,.b y1,.i y2,.i y3,.b y4,.i y5,.b y6]=>qbk a0 y0 y1 y2 y3 y4 y5 y6 | 9,[.i y0,.i y1,.i y2]=>jg a0 y0 y1 y2 | 10,[.i y0,.b y1,.i y2]=>qaf a0 y0 y1 y2 | 11,[.i y0,.b y1,.i y2,.b y3]=>qag a0 y0 y1 y2 y3 | 12,[.i y0,.b y1,.i y2,.i y3]=>k6 a0 y0 y1 y2 y3 | 13,[.i y0]=>qb a0 y0 | _,_=>False) (fun j ns=>match j,ns with | 1,[.i y0,.i y1]=>zx a0 y0 y1 | 5,[.i y0,.i y1]=>qbl a0 y0 y1 | _,_=>0)) {cfg sp with ann:=qar [(113,7,.cut 0 [.one 3 (.str),.via 0 [.keep,.int .i64,.keep]] [.via 0 [.keep,.int .i64,.keep]]),(119,28,.inv 1 [.via 0 [.keep,.int .i64,.keep]] [.one 3 (.int .i64)]),(119,7,.cut 2 [.via 0 [.keep,.int .i64,.keep]] [.one 3 (.int .i64)]),(83,7,.cut 3 [.via 0 [.keep,.keep,.bool]] [.via 0 [.keep,.keep,.bool],.one 4 (.bool)]),(113,31,.cut 4 [.via 0 [.keep,.keep,.bool]] [.via 0 [.keep,.keep,.bool],.one 5 (.bool)]),(65,26,.inv 5 [.one 4 (.int .i64)] [.via 0 [.keep,.int .i64,.keep]]),(64,1,.cut 6 [.via 0 [.keep,.int .i64,.bool],.via 1 [.keep,.int .i64,.keep,.keep,.keep,.keep,.keep,.keep,.keep,.keep,.keep,.keep,.keep,.keep,.keep,.keep,.keep]] []),(66,3,.cut 7 [.via 0 [.keep,.int .i64,.keep],.via 1 [.keep,.keep,.keep,.int .i64,.keep,.keep,.keep,.keep,.keep,.keep,.keep,.keep,.keep,.keep,.keep,.keep,.keep]] [.via 0 [.keep,.int .i64,.keep]]),(72,1,.cut 8 [.via 0 [.keep,.int .i64,.bool],.via 1 [.keep,.keep,.int .i64,.int .i64,.bool,.keep,.keep,.keep,.keep,.keep,.keep,.keep,.keep,.keep,.keep,.keep,.keep]] [.via 0 [.keep,.int .i64,.bool]]),(72,26,.unroll 4),(72,3,.cut 9 [.via 0 [.keep,.int .i64,.keep],.via 1 [.keep,.keep,.keep,.keep,.keep,.int .i64,.keep,.keep,.keep,.keep,.keep,.keep,.keep,.keep,.keep,.keep,.keep]] [.via 0 [.keep,.int .i64,.keep]]),(72,7,.cut 10 [.via 0 [.keep,.int .i64,.keep],.via 1 [.keep,.keep,.keep,.keep,.keep,.keep,.bool,.keep,.keep,.keep,.keep,.keep,.keep,.keep,.keep,.keep,.keep]] [.via 0 [.keep,.int .i64,.keep]]),(82,3,.cut 11 [.via 0 [.keep,.int .i64,.bool]] [.via 0 [.keep,.int .i64,.bool]]),(85,1,.cut 12 [.via 0 [.keep,.int .i64,.bool],.via 1 [.keep,.keep,.keep,.keep,.keep,.keep,.keep,.keep,.keep,.keep,.keep,.keep,.keep,.keep,.keep,.int .i64,.keep]] [.via 0 [.keep,.int .i64,.keep]]),(12,211,.cut 13 [] [.one 10 (.int .i64)]),(12,26,.unroll 14)]} 10 12 [.str (a0)] (qv4 a0)=qsl a0:=by kernel_rfl
end Go.Proofs.YtbopmiclcimjgaaGreatDoor
