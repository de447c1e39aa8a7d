import Derived.Test.YtpdphcekmhajdaaGreatDoorCts
namespace Go.Proofs.YtpdphcekmhajdaaGreatDoor
open Go Go.E2 Go.E3
set_option maxRecDepth 100000
variable {sp:Nat->Option (List V->Heap->Option (CR×Heap))}
def zn (a0:ZB) (i:Int) (r1:Int) (j:Int) (k:Int) (l:Bool) (m:Int) (n:Bool) (o:Bool) (p:Int) (q:Int) (a:Int) (b:Int) (c:Bool) (d:Int) (e:Int) (f:Int) (g:Int) (h:Int):Prop:=
((i:Int)=(((ze a0).1).Kind))/\
((r1:Int)=(((ze a0).1).Value))/\
((j:Int)=(((ze a0).1).Place))/\
((k:Int)=(((ze a0).1).Acc))/\
(l=(((ze a0).1).Color))/\
((m:Int)=(((ze a0).1).Stem))/\
(n=(((ze a0).1).Oblique))/\
(o=(((ze a0).1).Last))/\
((p:Int)=(((ze a0).1).MensMax))/\
((q:Int)=(((ze a0).1).MensMod))/\
((a:Int)=(((ze a0).1).MensTem))/\
((b:Int)=(((ze a0).1).MensPro))/\
(c=(((ze a0).1).Stroke))/\
((d:Int)=(((ze a0).1).N))/\
((e:Int)=(((ze a0).1).D))/\
((f:Int)=(((ze a0).1).ClefStep))/\
((g:Int)=(((ze a0).1).ClefLine))/\
((h:Int)=((ze a0).2))/\
 True
def zg4:List (Nat×Ct KT):=[(30,qqq),(62,zlm),(63,zln),(91,zra),(94,zrb),(95,zrc),(61,zhr),(42,zll)]
abbrev q2h (a0:ZB):PV KT:=.tuple [.agg [.int .i64 none ((((ze a0).1).Kind)),.int .i64 none ((((ze a0).1).Value)),.int .i64 none ((((ze a0).1).Place)),.int .i64 none ((((ze a0).1).Acc)),.sb 0 false ((((ze a0).1).Color)) ((((ze a0).1).Color)=true) ((((ze a0).1).Color)=false),.int .i64 none ((((ze a0).1).Stem)),.sb 0 false ((((ze a0).1).Oblique)) ((((ze a0).1).Oblique)=true) ((((ze a0).1).Oblique)=false),.sb 0 false ((((ze a0).1).Last)) ((((ze a0).1).Last)=true) ((((ze a0).1).Last)=false),.int .i64 none ((((ze a0).1).MensMax)),.int .i64 none ((((ze a0).1).MensMod)),.int .i64 none ((((ze a0).1).MensTem)),.int .i64 none ((((ze a0).1).MensPro)),.sb 0 false ((((ze a0).1).Stroke)) ((((ze a0).1).Stroke)=true) ((((ze a0).1).Stroke)=false),.int .i64 none ((((ze a0).1).N)),.int .i64 none ((((ze a0).1).D)),.int .i64 none ((((ze a0).1).ClefStep)),.int .i64 none ((((ze a0).1).ClefLine))],.int .i64 none (((ze a0).2))]
abbrev qkn (v0:ZB) (v1:Bool) (v2:Int) (p:Prop):Prop:=
(v0=v0)/\
(v1=v1)/\
((v2:Int)=v2)/\
(([]:ZB)=([]:ZB))/\
 p
abbrev qok (v0:ZB) (v1:Bool) (v2:Int) (v3:ZB) (v4:Int) (v5:Int) (p:Prop):Prop:=
(v0=v0)/\
(v1=v1)/\
((v2:Int)=v2)/\
((((qbo (v3++(sub v0 v4 v5))).1):Int)=((qbo (v3++(sub v0 v4 v5))).1))/\
(([]:ZB)=([]:ZB))/\
 p
abbrev qg6 (v0:ZB) (p:Prop):Prop:=
(v0=v0)/\
(([116]:ZB)=([116]:ZB))/\
 p
abbrev qol (v0:ZB) (v1:Bool) (v2:ZB) (v3:Int) (v4:Int) (p:Prop):Prop:=
(v0=v0)/\
(v1=v1)/\
((((qbo (v2++(sub v0 v3 v4))).1):Int)=((qbo (v2++(sub v0 v3 v4))).1))/\
(([116]:ZB)=([116]:ZB))/\
 p
abbrev qom (v0:ZB) (v1:Bool) (v2:Int) (v3:Int) (v4:Bool) (p:Prop):Prop:=
(v0=v0)/\
(v1=v1)/\
((v2:Int)=v2)/\
((v3:Int)=v3)/\
(v4=v4)/\
(([116]:ZB)=([116]:ZB))/\
 p
abbrev qon (v0:ZB) (v1:Bool) (v2:Int) (p:Prop):Prop:=
(v0=v0)/\
(v1=v1)/\
((((zb (sub v0 (0+(ln ([]:ZB))) v2)).1):Int)=((zb (sub v0 (0+(ln ([]:ZB))) v2)).1))/\
(([]:ZB)=([]:ZB))/\
 p
abbrev qxt (a0:ZB):Prop:=
 let i:=0+(ln ([40]:ZB));
 let j:=0+(ln ([116]:ZB));
 let g:=0+(ln ([114]:ZB));
 let d:=0+(ln ([93]:ZB));
 let e:=0+(ln ([38]:ZB));
 let b:=0+(ln ([64]:ZB));
 let a:=0+(ln ([]:ZB));
 let h:=i+(if (qru (fr a0 i) 41) > 0 then (qru (fr a0 i) 41) else 0);
 let l:=h+(ln ([41]:ZB));
 let f:=qhp (sub a0 i h);
(λo:Int=>
(λp:Int=>
((qc a0 0)/\
 True)/\
(qc a0 0->
(((0:Int)<=0/\0<=ln a0)/\
(True)/\
(((preB (fr a0 0) ([]:ZB))=true->
(I64 a)/\
((kf a0 0 a)/\
(∀ x2:Int,
 let n:=sub ([88,76,66,83,77,81,70,90]:ZB) x2 (x2+1);
(kf a0 x2 a->
((x2<8->
(I64 (x2+1))/\
((0:Int)<=x2/\(x2:Int)<=(x2+1)/\(x2+1)<=ln ([88,76,66,83,77,81,70,90]:ZB))/\
((0:Int)<=a/\a<=ln a0)/\
(True)/\
(((preB (fr a0 a) n)=true->
(I64 (a+(ln n)))/\
(I64 (x2+1))/\
(a0=a0)/\
(([]:ZB)=([]:ZB))/\
(qca a0 (a+(ln n)) false (x2+1))/\
 True))/\
((preB (fr a0 a) n)=false->
(I64 (x2+1))/\
(a0=a0)/\
((a:Int)=a)/\
(([]:ZB)=([]:ZB))/\
(kf a0 (x2+1) a)/\
 qcx a0 (x2+1) a<qcx a0 x2 a)))/\
(8<=x2->
(a0=a0)/\
(([]:ZB)=([]:ZB))/\
(qca a0 a true 0)/\
 True))))/\
(∀ x2:Int,
(∀ x3:Bool,
(∀ x4:Int,
(qca a0 x2 x3 x4->
(((0:Int)<=x2/\x2<=ln a0)/\
(True)/\
(((preB (fr a0 x2) ([45]:ZB))=true->
(I64 (x2+(ln ([45]:ZB))))/\
(qkn a0 x3 x4 (
(jt a0 ([45]:ZB) (x2+(ln ([45]:ZB))) x2)/\
 True))))/\
((preB (fr a0 x2) ([45]:ZB))=false->
(qkn a0 x3 x4 (
(jt a0 ([]:ZB) x2 x2)/\
 True))))/\
(∀ x6:ZB,
(∀ x7:Int,
(jt a0 x6 x7 x2->
((zg a0 x7 x7)/\
(∀ x9:Int,
(zg a0 x9 x7->
((x9<(ln a0)->
(Wn x9 (ln a0))/\
((48<=(bx a0 x9)->
(Wn x9 (ln a0))/\
(((bx a0 x9)<=57->
(I64 (x9+1))/\
(qkn a0 x3 x4 (
(zg a0 (x9+1) x7)/\
 z7 a0 (x9+1) x7<z7 a0 x9 x7))))/\
(57<(bx a0 x9)->
(qkn a0 x3 x4 (
(qf a0 x9 x7)/\
 True)))))/\
((bx a0 x9)<48->
(qkn a0 x3 x4 (
(qf a0 x9 x7)/\
 True)))))/\
((ln a0)<=x9->
(qkn a0 x3 x4 (
(qf a0 x9 x7)/\
 True))))))/\
(∀ x9:Int,
 let k:=qbo (x6++(sub a0 x7 x9));
(qf a0 x9 x7->
((0:Int)<=x7/\(x7:Int)<=x9/\x9<=ln a0)/\
(qp (List.length x6+List.length (sub a0 x7 x9)))/\
((ln (x6++(sub a0 x7 x9))<=1000000))/\
(((x3=true->
(a0=a0)/\
((x9:Int)=x9)/\
((x4:Int)=x4)/\
(([]:ZB)=([]:ZB))/\
(qcv a0 true x3 (k.2))/\
 True))/\
(x3=false->
(a0=a0)/\
((x9:Int)=x9)/\
((x4:Int)=x4)/\
(([]:ZB)=([]:ZB))/\
(qcv a0 (!(k.2)) x3 (k.2))/\
 True))/\
(∀ x11:Bool,
(qcv a0 x11 x3 (k.2)->
(((0:Int)<=x9/\x9<=ln a0)/\
(True)/\
(((preB (fr a0 x9) ([98]:ZB))=true->
(I64 (x9+(ln ([98]:ZB))))/\
(qok a0 x11 x4 x6 x7 x9 (
(zx a0 (x9+(ln ([98]:ZB))) (-1) x9)/\
 True))))/\
((preB (fr a0 x9) ([98]:ZB))=false->
((0:Int)<=x9/\x9<=ln a0)/\
(True)/\
(((preB (fr a0 x9) ([35]:ZB))=true->
(I64 (x9+(ln ([35]:ZB))))/\
(qok a0 x11 x4 x6 x7 x9 (
(zx a0 (x9+(ln ([35]:ZB))) 1 x9)/\
 True))))/\
((preB (fr a0 x9) ([35]:ZB))=false->
((0:Int)<=x9/\x9<=ln a0)/\
(True)/\
(((preB (fr a0 x9) ([110]:ZB))=true->
(I64 (x9+(ln ([110]:ZB))))/\
(qok a0 x11 x4 x6 x7 x9 (
(zx a0 (x9+(ln ([110]:ZB))) 2 x9)/\
 True))))/\
((preB (fr a0 x9) ([110]:ZB))=false->
(qok a0 x11 x4 x6 x7 x9 (
(zx a0 x9 0 x9)/\
 True))))))/\
(∀ x13:Int,
(∀ x14:Int,
(zx a0 x13 x14 x9->
((0:Int)<=x13/\x13<=ln a0)/\
(True)/\
(((preB (fr a0 x13) ([42]:ZB))=true->
(I64 (x13+(ln ([42]:ZB))))/\
((x11=true->
(qc a0 1)/\
 True))/\
(x11=false->
(((x13+(ln ([42]:ZB)))≠(ln a0)->
(qc a0 1)/\
 True))/\
((x13+(ln ([42]:ZB)))=(ln a0)->
(True)/\
(((kh (Sign.mk 1 x4 (k.1) x14 true 0 false false 0 0 0 0 false 0 0 0 0))≠0->
 zn a0 0 0 0 0 false 0 false false 0 0 0 0 false 0 0 0 0 (kh (Sign.mk 1 x4 (k.1) x14 true 0 false false 0 0 0 0 false 0 0 0 0))))/\
((kh (Sign.mk 1 x4 (k.1) x14 true 0 false false 0 0 0 0 false 0 0 0 0))=0->
 zn a0 1 x4 (k.1) x14 true 0 false false 0 0 0 0 false 0 0 0 0 0)))))/\
((preB (fr a0 x13) ([42]:ZB))=false->
((x11=true->
(qc a0 1)/\
 True))/\
(x11=false->
((x13≠(ln a0)->
(qc a0 1)/\
 True))/\
(x13=(ln a0)->
(True)/\
(((kh (Sign.mk 1 x4 (k.1) x14 false 0 false false 0 0 0 0 false 0 0 0 0))≠0->
 zn a0 0 0 0 0 false 0 false false 0 0 0 0 false 0 0 0 0 (kh (Sign.mk 1 x4 (k.1) x14 false 0 false false 0 0 0 0 false 0 0 0 0))))/\
((kh (Sign.mk 1 x4 (k.1) x14 false 0 false false 0 0 0 0 false 0 0 0 0))=0->
 zn a0 1 x4 (k.1) x14 false 0 false false 0 0 0 0 false 0 0 0 0 0))))))))))))))))))))/\
((preB (fr a0 0) ([]:ZB))=false->
(qc a0 1)/\
 True))/\
(qc a0 1->
(((0:Int)<=0/\0<=ln a0)/\
(True)/\
(((preB (fr a0 0) ([114]:ZB))=true->
(I64 g)/\
(kf a0 0 g)/\
(∀ x3:Int,
 let m:=sub ([88,76,66,83,77,81,70,90]:ZB) x3 (x3+1);
(kf a0 x3 g->
((x3<8->
(I64 (x3+1))/\
((0:Int)<=x3/\(x3:Int)<=(x3+1)/\(x3+1)<=ln ([88,76,66,83,77,81,70,90]:ZB))/\
((0:Int)<=g/\g<=ln a0)/\
(True)/\
(((preB (fr a0 g) m)=true->
(I64 (g+(ln m)))/\
(I64 (x3+1))/\
(((g+(ln m))≠(ln a0)->
(qc a0 2)/\
 True))/\
((g+(ln m))=(ln a0)->
(True)/\
(((kh (Sign.mk 2 (x3+1) 0 0 false 0 false false 0 0 0 0 false 0 0 0 0))≠0->
 zn a0 0 0 0 0 false 0 false false 0 0 0 0 false 0 0 0 0 (kh (Sign.mk 2 (x3+1) 0 0 false 0 false false 0 0 0 0 false 0 0 0 0))))/\
((kh (Sign.mk 2 (x3+1) 0 0 false 0 false false 0 0 0 0 false 0 0 0 0))=0->
 zn a0 2 (x3+1) 0 0 false 0 false false 0 0 0 0 false 0 0 0 0 0))))/\
((preB (fr a0 g) m)=false->
(I64 (x3+1))/\
(a0=a0)/\
((g:Int)=g)/\
(([114]:ZB)=([114]:ZB))/\
(kf a0 (x3+1) g)/\
 qcx a0 (x3+1) g<qcx a0 x3 g)))/\
(8<=x3->
(qc a0 2)/\
 True)))))/\
((preB (fr a0 0) ([114]:ZB))=false->
(qc a0 2)/\
 True))/\
(qc a0 2->
(((0:Int)<=0/\0<=ln a0)/\
(True)/\
(((preB (fr a0 0) ([46]:ZB))=true->
(I64 (0+(ln ([46]:ZB))))/\
(((0+(ln ([46]:ZB)))≠(ln a0)->
(qc a0 3)/\
 True))/\
((0+(ln ([46]:ZB)))=(ln a0)->
(True)/\
(((kh (Sign.mk 3 0 0 0 false 0 false false 0 0 0 0 false 0 0 0 0))≠0->
 zn a0 0 0 0 0 false 0 false false 0 0 0 0 false 0 0 0 0 (kh (Sign.mk 3 0 0 0 false 0 false false 0 0 0 0 false 0 0 0 0))))/\
((kh (Sign.mk 3 0 0 0 false 0 false false 0 0 0 0 false 0 0 0 0))=0->
 zn a0 3 0 0 0 false 0 false false 0 0 0 0 false 0 0 0 0 0))))/\
((preB (fr a0 0) ([46]:ZB))=false->
(qc a0 3)/\
 True))/\
(qc a0 3->
(((0:Int)<=0/\0<=ln a0)/\
(True)/\
(((preB (fr a0 0) ([116]:ZB))=true->
(I64 j)/\
((((0:Int)<=j/\j<=ln a0)/\
(True)/\
(((preB (fr a0 j) ([45]:ZB))=true->
(I64 (j+(ln ([45]:ZB))))/\
(qg6 a0 (
(jt a0 ([45]:ZB) (j+(ln ([45]:ZB))) j)/\
 True))))/\
((preB (fr a0 j) ([45]:ZB))=false->
(qg6 a0 (
(jt a0 ([]:ZB) j j)/\
 True))))/\
(∀ x5:ZB,
(∀ x6:Int,
(jt a0 x5 x6 j->
((zg a0 x6 x6)/\
(∀ x8:Int,
(zg a0 x8 x6->
((x8<(ln a0)->
(Wn x8 (ln a0))/\
((48<=(bx a0 x8)->
(Wn x8 (ln a0))/\
(((bx a0 x8)<=57->
(I64 (x8+1))/\
(qg6 a0 (
(zg a0 (x8+1) x6)/\
 z7 a0 (x8+1) x6<z7 a0 x8 x6))))/\
(57<(bx a0 x8)->
(qg6 a0 (
(qf a0 x8 x6)/\
 True)))))/\
((bx a0 x8)<48->
(qg6 a0 (
(qf a0 x8 x6)/\
 True)))))/\
((ln a0)<=x8->
(qg6 a0 (
(qf a0 x8 x6)/\
 True))))))/\
(∀ x8:Int,
(qf a0 x8 x6->
((0:Int)<=x6/\(x6:Int)<=x8/\x8<=ln a0)/\
(qp (List.length x5+List.length (sub a0 x6 x8)))/\
((ln (x5++(sub a0 x6 x8))<=1000000))/\
((a0=a0)/\
((x8:Int)=x8)/\
(([116]:ZB)=([116]:ZB))/\
(qcv a0 (!((qbo (x5++(sub a0 x6 x8))).2)) false ((qbo (x5++(sub a0 x6 x8))).2))/\
 True)/\
(∀ x10:Bool,
(qcv a0 x10 false ((qbo (x5++(sub a0 x6 x8))).2)->
(((0:Int)<=x8/\x8<=ln a0)/\
(True)/\
(((preB (fr a0 x8) ([98]:ZB))=true->
(I64 (x8+(ln ([98]:ZB))))/\
(qol a0 x10 x5 x6 x8 (
(zx a0 (x8+(ln ([98]:ZB))) (-1) x8)/\
 True))))/\
((preB (fr a0 x8) ([98]:ZB))=false->
((0:Int)<=x8/\x8<=ln a0)/\
(True)/\
(((preB (fr a0 x8) ([35]:ZB))=true->
(I64 (x8+(ln ([35]:ZB))))/\
(qol a0 x10 x5 x6 x8 (
(zx a0 (x8+(ln ([35]:ZB))) 1 x8)/\
 True))))/\
((preB (fr a0 x8) ([35]:ZB))=false->
((0:Int)<=x8/\x8<=ln a0)/\
(True)/\
(((preB (fr a0 x8) ([110]:ZB))=true->
(I64 (x8+(ln ([110]:ZB))))/\
(qol a0 x10 x5 x6 x8 (
(zx a0 (x8+(ln ([110]:ZB))) 2 x8)/\
 True))))/\
((preB (fr a0 x8) ([110]:ZB))=false->
(qol a0 x10 x5 x6 x8 (
(zx a0 x8 0 x8)/\
 True))))))/\
(∀ x12:Int,
(∀ x13:Int,
(zx a0 x12 x13 x8->
((0:Int)<=x12/\x12<=ln a0)/\
(True)/\
(((preB (fr a0 x12) ([42]:ZB))=true->
(I64 (x12+(ln ([42]:ZB))))/\
(qg6 a0 (
(qcw a0 (x12+(ln ([42]:ZB))) x10 ((qbo (x5++(sub a0 x6 x8))).1) x13 true j false)/\
 True))))/\
((preB (fr a0 x12) ([42]:ZB))=false->
(qg6 a0 (
(qcw a0 x12 x10 ((qbo (x5++(sub a0 x6 x8))).1) x13 false j false)/\
 True))))))))))))))/\
(∀ x5:Int,
(∀ x6:Bool,
(∀ x7:Int,
(∀ x8:Int,
(∀ x9:Bool,
(qcw a0 x5 x6 x7 x8 x9 j false->
(((0:Int)<=1/\(1:Int)<=2/\2<=ln ([32,94,118,62]:ZB))/\
((0:Int)<=x5/\x5<=ln a0)/\
(True)/\
(((preB (fr a0 x5) (sub ([32,94,118,62]:ZB) 1 2))=true->
(I64 (x5+(ln (sub ([32,94,118,62]:ZB) 1 2))))/\
(qom a0 x6 x7 x8 x9 (
(j5 a0 (x5+(ln (sub ([32,94,118,62]:ZB) 1 2))) 1 x5)/\
 True))))/\
((preB (fr a0 x5) (sub ([32,94,118,62]:ZB) 1 2))=false->
((0:Int)<=2/\(2:Int)<=3/\3<=ln ([32,94,118,62]:ZB))/\
((0:Int)<=x5/\x5<=ln a0)/\
(True)/\
(((preB (fr a0 x5) (sub ([32,94,118,62]:ZB) 2 3))=true->
(I64 (x5+(ln (sub ([32,94,118,62]:ZB) 2 3))))/\
(qom a0 x6 x7 x8 x9 (
(j5 a0 (x5+(ln (sub ([32,94,118,62]:ZB) 2 3))) 2 x5)/\
 True))))/\
((preB (fr a0 x5) (sub ([32,94,118,62]:ZB) 2 3))=false->
((0:Int)<=3/\(3:Int)<=4/\4<=ln ([32,94,118,62]:ZB))/\
((0:Int)<=x5/\x5<=ln a0)/\
(True)/\
(((preB (fr a0 x5) (sub ([32,94,118,62]:ZB) 3 4))=true->
(I64 (x5+(ln (sub ([32,94,118,62]:ZB) 3 4))))/\
(qom a0 x6 x7 x8 x9 (
(j5 a0 (x5+(ln (sub ([32,94,118,62]:ZB) 3 4))) 3 x5)/\
 True))))/\
((preB (fr a0 x5) (sub ([32,94,118,62]:ZB) 3 4))=false->
(qom a0 x6 x7 x8 x9 (
(j5 a0 x5 0 x5)/\
 True))))))/\
(∀ x11:Int,
(∀ x12:Int,
(j5 a0 x11 x12 x5->
(((0:Int)<=x11/\x11<=ln a0)/\
(True)/\
(((preB (fr a0 x11) ([126]:ZB))=true->
(I64 (x11+(ln ([126]:ZB))))/\
(a0=a0)/\
(x6=x6)/\
((x7:Int)=x7)/\
((x8:Int)=x8)/\
(x9=x9)/\
((x12:Int)=x12)/\
(([116]:ZB)=([116]:ZB))/\
(qbd a0 (x11+(ln ([126]:ZB))) true x11)/\
 True))/\
((preB (fr a0 x11) ([126]:ZB))=false->
(a0=a0)/\
(x6=x6)/\
((x7:Int)=x7)/\
((x8:Int)=x8)/\
(x9=x9)/\
((x12:Int)=x12)/\
(([116]:ZB)=([116]:ZB))/\
(qbd a0 x11 false x11)/\
 True))/\
(∀ x14:Int,
(∀ x15:Bool,
(qbd a0 x14 x15 x11->
((0:Int)<=x14/\x14<=ln a0)/\
(True)/\
(((preB (fr a0 x14) ([33]:ZB))=true->
(I64 (x14+(ln ([33]:ZB))))/\
((x6=true->
(qc a0 4)/\
 True))/\
(x6=false->
(((x14+(ln ([33]:ZB)))≠(ln a0)->
(qc a0 4)/\
 True))/\
((x14+(ln ([33]:ZB)))=(ln a0)->
(True)/\
(((kh (Sign.mk 4 0 x7 x8 x9 x12 x15 true 0 0 0 0 false 0 0 0 0))≠0->
 zn a0 0 0 0 0 false 0 false false 0 0 0 0 false 0 0 0 0 (kh (Sign.mk 4 0 x7 x8 x9 x12 x15 true 0 0 0 0 false 0 0 0 0))))/\
((kh (Sign.mk 4 0 x7 x8 x9 x12 x15 true 0 0 0 0 false 0 0 0 0))=0->
 zn a0 4 0 x7 x8 x9 x12 x15 true 0 0 0 0 false 0 0 0 0 0)))))/\
((preB (fr a0 x14) ([33]:ZB))=false->
((x6=true->
(qc a0 4)/\
 True))/\
(x6=false->
((x14≠(ln a0)->
(qc a0 4)/\
 True))/\
(x14=(ln a0)->
(True)/\
(((kh (Sign.mk 4 0 x7 x8 x9 x12 x15 false 0 0 0 0 false 0 0 0 0))≠0->
 zn a0 0 0 0 0 false 0 false false 0 0 0 0 false 0 0 0 0 (kh (Sign.mk 4 0 x7 x8 x9 x12 x15 false 0 0 0 0 false 0 0 0 0))))/\
((kh (Sign.mk 4 0 x7 x8 x9 x12 x15 false 0 0 0 0 false 0 0 0 0))=0->
 zn a0 4 0 x7 x8 x9 x12 x15 false 0 0 0 0 false 0 0 0 0 0))))))))))))))))))/\
((preB (fr a0 0) ([116]:ZB))=false->
(qc a0 4)/\
 True))/\
(qc a0 4->
(((0:Int)<=0/\0<=ln a0)/\
(True)/\
(((preB (fr a0 0) ([40]:ZB))=true->
(I64 i)/\
((0:Int)<=i/\i<=ln a0)/\
((U8 41))/\
(I64 h)/\
((0:Int)<=i/\(i:Int)<=h/\h<=ln a0)/\
(True)/\
(I64 h)/\
((0:Int)<=h/\h<=ln a0)/\
(True)/\
(((preB (fr a0 h) ([41]:ZB))=true->
(I64 l)/\
((0:Int)<=l/\l<=ln a0)/\
(True)/\
(((preB (fr a0 l) ([124]:ZB))=true->
(I64 (l+(ln ([124]:ZB))))/\
(((f.2)≠0->
(qc a0 5)/\
 True))/\
((f.2)=0->
(((l+(ln ([124]:ZB)))≠(ln a0)->
(qc a0 5)/\
 True))/\
((l+(ln ([124]:ZB)))=(ln a0)->
(True)/\
((o≠0->
 zn a0 0 0 0 0 false 0 false false 0 0 0 0 false 0 0 0 0 o))/\
(o=0->
 zn a0 5 0 0 0 false 0 false false (f.1.1) (f.1.2.1) (f.1.2.2.1) (f.1.2.2.2) true 0 0 0 0 0)))))/\
((preB (fr a0 l) ([124]:ZB))=false->
(((f.2)≠0->
(qc a0 5)/\
 True))/\
((f.2)=0->
((l≠(ln a0)->
(qc a0 5)/\
 True))/\
(l=(ln a0)->
(True)/\
((p≠0->
 zn a0 0 0 0 0 false 0 false false 0 0 0 0 false 0 0 0 0 p))/\
(p=0->
 zn a0 5 0 0 0 false 0 false false (f.1.1) (f.1.2.1) (f.1.2.2.1) (f.1.2.2.2) false 0 0 0 0 0))))))/\
((preB (fr a0 h) ([41]:ZB))=false->
((0:Int)<=h/\h<=ln a0)/\
(True)/\
(((preB (fr a0 h) ([124]:ZB))=true->
(I64 (h+(ln ([124]:ZB))))/\
(qc a0 5)/\
 True))/\
((preB (fr a0 h) ([124]:ZB))=false->
(qc a0 5)/\
 True))))/\
((preB (fr a0 0) ([40]:ZB))=false->
(qc a0 5)/\
 True))/\
(qc a0 5->
(((0:Int)<=0/\0<=ln a0)/\
(True)/\
(((preB (fr a0 0) ([]:ZB))=true->
(I64 a)/\
((zg a0 a a)/\
(∀ x7:Int,
(zg a0 x7 a->
((x7<(ln a0)->
(Wn x7 (ln a0))/\
((48<=(bx a0 x7)->
(Wn x7 (ln a0))/\
(((bx a0 x7)<=57->
(I64 (x7+1))/\
(a0=a0)/\
(([]:ZB)=([]:ZB))/\
(zg a0 (x7+1) a)/\
 z7 a0 (x7+1) a<z7 a0 x7 a))/\
(57<(bx a0 x7)->
(a0=a0)/\
(([]:ZB)=([]:ZB))/\
(qf a0 x7 a)/\
 True)))/\
((bx a0 x7)<48->
(a0=a0)/\
(([]:ZB)=([]:ZB))/\
(qf a0 x7 a)/\
 True)))/\
((ln a0)<=x7->
(a0=a0)/\
(([]:ZB)=([]:ZB))/\
(qf a0 x7 a)/\
 True))))/\
(∀ x7:Int,
 let c:=zb (sub a0 a x7);
(qf a0 x7 a->
((0:Int)<=a/\(a:Int)<=x7/\x7<=ln a0)/\
((ln (sub a0 a x7)<=1000000))/\
((a0=a0)/\
((x7:Int)=x7)/\
(([]:ZB)=([]:ZB))/\
(jh a0 (!(c.2)) false (c.2))/\
 True)/\
(∀ x9:Bool,
(jh a0 x9 false (c.2)->
(((0:Int)<=x7/\x7<=ln a0)/\
(True)/\
(((preB (fr a0 x7) ([47]:ZB))=true->
(I64 (x7+(ln ([47]:ZB))))/\
(a0=a0)/\
(((c.1):Int)=(c.1))/\
(([]:ZB)=([]:ZB))/\
(qbe a0 (x7+(ln ([47]:ZB))) x9 x7 x9)/\
 True))/\
((preB (fr a0 x7) ([47]:ZB))=false->
(a0=a0)/\
(((c.1):Int)=(c.1))/\
(([]:ZB)=([]:ZB))/\
(qbe a0 x7 true x7 x9)/\
 True))/\
(∀ x11:Int,
(∀ x12:Bool,
(qbe a0 x11 x12 x7 x9->
((zg a0 x11 x11)/\
(∀ x14:Int,
(zg a0 x14 x11->
((x14<(ln a0)->
(Wn x14 (ln a0))/\
((48<=(bx a0 x14)->
(Wn x14 (ln a0))/\
(((bx a0 x14)<=57->
(I64 (x14+1))/\
(qon a0 x12 x7 (
(zg a0 (x14+1) x11)/\
 z7 a0 (x14+1) x11<z7 a0 x14 x11))))/\
(57<(bx a0 x14)->
(qon a0 x12 x7 (
(qf a0 x14 x11)/\
 True)))))/\
((bx a0 x14)<48->
(qon a0 x12 x7 (
(qf a0 x14 x11)/\
 True)))))/\
((ln a0)<=x14->
(qon a0 x12 x7 (
(qf a0 x14 x11)/\
 True))))))/\
(∀ x14:Int,
(qf a0 x14 x11->
((0:Int)<=x11/\(x11:Int)<=x14/\x14<=ln a0)/\
((ln (sub a0 x11 x14)<=1000000))/\
(((x12=true->
(a0=a0)/\
((x14:Int)=x14)/\
(((c.1):Int)=(c.1))/\
(([]:ZB)=([]:ZB))/\
(jh a0 true x12 ((zb (sub a0 x11 x14)).2))/\
 True))/\
(x12=false->
(a0=a0)/\
((x14:Int)=x14)/\
(((c.1):Int)=(c.1))/\
(([]:ZB)=([]:ZB))/\
(jh a0 (!((zb (sub a0 x11 x14)).2)) x12 ((zb (sub a0 x11 x14)).2))/\
 True))/\
(∀ x16:Bool,
(jh a0 x16 x12 ((zb (sub a0 x11 x14)).2)->
((x16=true->
(qc a0 6)/\
 True))/\
(x16=false->
((x14≠(ln a0)->
(qc a0 6)/\
 True))/\
(x14=(ln a0)->
(True)/\
(((kh (Sign.mk 6 0 0 0 false 0 false false 0 0 0 0 false (c.1) ((zb (sub a0 x11 x14)).1) 0 0))≠0->
 zn a0 0 0 0 0 false 0 false false 0 0 0 0 false 0 0 0 0 (kh (Sign.mk 6 0 0 0 false 0 false false 0 0 0 0 false (c.1) ((zb (sub a0 x11 x14)).1) 0 0))))/\
((kh (Sign.mk 6 0 0 0 false 0 false false 0 0 0 0 false (c.1) ((zb (sub a0 x11 x14)).1) 0 0))=0->
 zn a0 6 0 0 0 false 0 false false 0 0 0 0 false (c.1) ((zb (sub a0 x11 x14)).1) 0 0 0))))))))))))))))/\
((preB (fr a0 0) ([]:ZB))=false->
(qc a0 6)/\
 True))/\
(qc a0 6->
(((0:Int)<=0/\0<=ln a0)/\
(True)/\
(((preB (fr a0 0) ([64]:ZB))=true->
(I64 b)/\
(((0:Int)<=b/\b<=ln a0)/\
(True)/\
(((preB (fr a0 b) ([67]:ZB))=true->
(I64 (b+(ln ([67]:ZB))))/\
(a0=a0)/\
(([64]:ZB)=([64]:ZB))/\
(jl a0 (b+(ln ([67]:ZB))) false 0 b)/\
 True))/\
((preB (fr a0 b) ([67]:ZB))=false->
((0:Int)<=b/\b<=ln a0)/\
(True)/\
(((preB (fr a0 b) ([70]:ZB))=true->
(I64 (b+(ln ([70]:ZB))))/\
(a0=a0)/\
(([64]:ZB)=([64]:ZB))/\
(jl a0 (b+(ln ([70]:ZB))) false 3 b)/\
 True))/\
((preB (fr a0 b) ([70]:ZB))=false->
((0:Int)<=b/\b<=ln a0)/\
(True)/\
(((preB (fr a0 b) ([71]:ZB))=true->
(I64 (b+(ln ([71]:ZB))))/\
(a0=a0)/\
(([64]:ZB)=([64]:ZB))/\
(jl a0 (b+(ln ([71]:ZB))) false 4 b)/\
 True))/\
((preB (fr a0 b) ([71]:ZB))=false->
(a0=a0)/\
(([64]:ZB)=([64]:ZB))/\
(jl a0 b true 0 b)/\
 True))))/\
(∀ x8:Int,
(∀ x9:Bool,
(∀ x10:Int,
(jl a0 x8 x9 x10 b->
((zg a0 x8 x8)/\
(∀ x12:Int,
(zg a0 x12 x8->
((x12<(ln a0)->
(Wn x12 (ln a0))/\
((48<=(bx a0 x12)->
(Wn x12 (ln a0))/\
(((bx a0 x12)<=57->
(I64 (x12+1))/\
(a0=a0)/\
(x9=x9)/\
((x10:Int)=x10)/\
(([64]:ZB)=([64]:ZB))/\
(zg a0 (x12+1) x8)/\
 z7 a0 (x12+1) x8<z7 a0 x12 x8))/\
(57<(bx a0 x12)->
(a0=a0)/\
(x9=x9)/\
((x10:Int)=x10)/\
(([64]:ZB)=([64]:ZB))/\
(qf a0 x12 x8)/\
 True)))/\
((bx a0 x12)<48->
(a0=a0)/\
(x9=x9)/\
((x10:Int)=x10)/\
(([64]:ZB)=([64]:ZB))/\
(qf a0 x12 x8)/\
 True)))/\
((ln a0)<=x12->
(a0=a0)/\
(x9=x9)/\
((x10:Int)=x10)/\
(([64]:ZB)=([64]:ZB))/\
(qf a0 x12 x8)/\
 True))))/\
(∀ x12:Int,
(qf a0 x12 x8->
((0:Int)<=x8/\(x8:Int)<=x12/\x12<=ln a0)/\
((ln (sub a0 x8 x12)<=1000000))/\
(((x9=true->
(a0=a0)/\
((x12:Int)=x12)/\
((x10:Int)=x10)/\
(([64]:ZB)=([64]:ZB))/\
(jh a0 true x9 ((zb (sub a0 x8 x12)).2))/\
 True))/\
(x9=false->
(a0=a0)/\
((x12:Int)=x12)/\
((x10:Int)=x10)/\
(([64]:ZB)=([64]:ZB))/\
(jh a0 (!((zb (sub a0 x8 x12)).2)) x9 ((zb (sub a0 x8 x12)).2))/\
 True))/\
(∀ x14:Bool,
(jh a0 x14 x9 ((zb (sub a0 x8 x12)).2)->
((x14=true->
(qc a0 7)/\
 True))/\
(x14=false->
((x12≠(ln a0)->
(qc a0 7)/\
 True))/\
(x12=(ln a0)->
(True)/\
(((kh (Sign.mk 7 0 0 0 false 0 false false 0 0 0 0 false 0 0 x10 ((zb (sub a0 x8 x12)).1)))≠0->
 zn a0 0 0 0 0 false 0 false false 0 0 0 0 false 0 0 0 0 (kh (Sign.mk 7 0 0 0 false 0 false false 0 0 0 0 false 0 0 x10 ((zb (sub a0 x8 x12)).1)))))/\
((kh (Sign.mk 7 0 0 0 false 0 false false 0 0 0 0 false 0 0 x10 ((zb (sub a0 x8 x12)).1)))=0->
 zn a0 7 0 0 0 false 0 false false 0 0 0 0 false 0 0 x10 ((zb (sub a0 x8 x12)).1) 0)))))))))))))/\
((preB (fr a0 0) ([64]:ZB))=false->
(qc a0 7)/\
 True))/\
(qc a0 7->
(((0:Int)<=0/\0<=ln a0)/\
(True)/\
(((preB (fr a0 0) ([38]:ZB))=true->
(I64 e)/\
((zg a0 e e)/\
(∀ x9:Int,
(zg a0 x9 e->
((x9<(ln a0)->
(Wn x9 (ln a0))/\
((48<=(bx a0 x9)->
(Wn x9 (ln a0))/\
(((bx a0 x9)<=57->
(I64 (x9+1))/\
(a0=a0)/\
(([38]:ZB)=([38]:ZB))/\
(zg a0 (x9+1) e)/\
 z7 a0 (x9+1) e<z7 a0 x9 e))/\
(57<(bx a0 x9)->
(a0=a0)/\
(([38]:ZB)=([38]:ZB))/\
(qf a0 x9 e)/\
 True)))/\
((bx a0 x9)<48->
(a0=a0)/\
(([38]:ZB)=([38]:ZB))/\
(qf a0 x9 e)/\
 True)))/\
((ln a0)<=x9->
(a0=a0)/\
(([38]:ZB)=([38]:ZB))/\
(qf a0 x9 e)/\
 True))))/\
(∀ x9:Int,
(qf a0 x9 e->
((0:Int)<=e/\(e:Int)<=x9/\x9<=ln a0)/\
((ln (sub a0 e x9)<=1000000))/\
((a0=a0)/\
((x9:Int)=x9)/\
(([38]:ZB)=([38]:ZB))/\
(jh a0 (!((zb (sub a0 e x9)).2)) false ((zb (sub a0 e x9)).2))/\
 True)/\
(∀ x11:Bool,
(jh a0 x11 false ((zb (sub a0 e x9)).2)->
((x11=true->
(qc a0 8)/\
 True))/\
(x11=false->
((x9≠(ln a0)->
(qc a0 8)/\
 True))/\
(x9=(ln a0)->
(True)/\
(((kh (Sign.mk 8 0 0 0 false 0 false false 0 0 0 0 false ((zb (sub a0 e x9)).1) 0 0 0))≠0->
 zn a0 0 0 0 0 false 0 false false 0 0 0 0 false 0 0 0 0 (kh (Sign.mk 8 0 0 0 false 0 false false 0 0 0 0 false ((zb (sub a0 e x9)).1) 0 0 0))))/\
((kh (Sign.mk 8 0 0 0 false 0 false false 0 0 0 0 false ((zb (sub a0 e x9)).1) 0 0 0))=0->
 zn a0 8 0 0 0 false 0 false false 0 0 0 0 false ((zb (sub a0 e x9)).1) 0 0 0 0)))))))))/\
((preB (fr a0 0) ([38]:ZB))=false->
(qc a0 8)/\
 True))/\
(qc a0 8->
(((0:Int)<=0/\0<=ln a0)/\
(True)/\
(((preB (fr a0 0) ([91]:ZB))=true->
(I64 (0+(ln ([91]:ZB))))/\
(((0+(ln ([91]:ZB)))≠(ln a0)->
(qc a0 9)/\
 True))/\
((0+(ln ([91]:ZB)))=(ln a0)->
(True)/\
(((kh (Sign.mk 9 0 0 0 false 0 false false 0 0 0 0 false 0 0 0 0))≠0->
 zn a0 0 0 0 0 false 0 false false 0 0 0 0 false 0 0 0 0 (kh (Sign.mk 9 0 0 0 false 0 false false 0 0 0 0 false 0 0 0 0))))/\
((kh (Sign.mk 9 0 0 0 false 0 false false 0 0 0 0 false 0 0 0 0))=0->
 zn a0 9 0 0 0 false 0 false false 0 0 0 0 false 0 0 0 0 0))))/\
((preB (fr a0 0) ([91]:ZB))=false->
(qc a0 9)/\
 True))/\
(qc a0 9->
(((0:Int)<=0/\0<=ln a0)/\
(True)/\
(((preB (fr a0 0) ([93]:ZB))=true->
(I64 d)/\
((zg a0 d d)/\
(∀ x11:Int,
(zg a0 x11 d->
((x11<(ln a0)->
(Wn x11 (ln a0))/\
((48<=(bx a0 x11)->
(Wn x11 (ln a0))/\
(((bx a0 x11)<=57->
(I64 (x11+1))/\
(a0=a0)/\
(([93]:ZB)=([93]:ZB))/\
(zg a0 (x11+1) d)/\
 z7 a0 (x11+1) d<z7 a0 x11 d))/\
(57<(bx a0 x11)->
(a0=a0)/\
(([93]:ZB)=([93]:ZB))/\
(qf a0 x11 d)/\
 True)))/\
((bx a0 x11)<48->
(a0=a0)/\
(([93]:ZB)=([93]:ZB))/\
(qf a0 x11 d)/\
 True)))/\
((ln a0)<=x11->
(a0=a0)/\
(([93]:ZB)=([93]:ZB))/\
(qf a0 x11 d)/\
 True))))/\
(∀ x11:Int,
(qf a0 x11 d->
((0:Int)<=d/\(d:Int)<=x11/\x11<=ln a0)/\
((ln (sub a0 d x11)<=1000000))/\
((a0=a0)/\
((x11:Int)=x11)/\
(([93]:ZB)=([93]:ZB))/\
(jh a0 (!((zb (sub a0 d x11)).2)) false ((zb (sub a0 d x11)).2))/\
 True)/\
(∀ x13:Bool,
(jh a0 x13 false ((zb (sub a0 d x11)).2)->
((x13=true->
(qc a0 10)/\
 True))/\
(x13=false->
((x11≠(ln a0)->
(qc a0 10)/\
 True))/\
(x11=(ln a0)->
(True)/\
(((kh (Sign.mk 10 0 0 0 false 0 false false 0 0 0 0 false ((zb (sub a0 d x11)).1) 0 0 0))≠0->
 zn a0 0 0 0 0 false 0 false false 0 0 0 0 false 0 0 0 0 (kh (Sign.mk 10 0 0 0 false 0 false false 0 0 0 0 false ((zb (sub a0 d x11)).1) 0 0 0))))/\
((kh (Sign.mk 10 0 0 0 false 0 false false 0 0 0 0 false ((zb (sub a0 d x11)).1) 0 0 0))=0->
 zn a0 10 0 0 0 false 0 false false 0 0 0 0 false ((zb (sub a0 d x11)).1) 0 0 0 0)))))))))/\
((preB (fr a0 0) ([93]:ZB))=false->
(qc a0 10)/\
 True))/\
(qc a0 10->
(((0:Int)<=0/\0<=ln a0)/\
(True)/\
(((preB (fr a0 0) ([116,117,114,110]:ZB))=true->
(I64 (0+(ln ([116,117,114,110]:ZB))))/\
(((0+(ln ([116,117,114,110]:ZB)))≠(ln a0)->
(qc a0 11)/\
 True))/\
((0+(ln ([116,117,114,110]:ZB)))=(ln a0)->
(True)/\
(((kh (Sign.mk 11 0 0 0 false 0 false false 0 0 0 0 false 0 0 0 0))≠0->
 zn a0 0 0 0 0 false 0 false false 0 0 0 0 false 0 0 0 0 (kh (Sign.mk 11 0 0 0 false 0 false false 0 0 0 0 false 0 0 0 0))))/\
((kh (Sign.mk 11 0 0 0 false 0 false false 0 0 0 0 false 0 0 0 0))=0->
 zn a0 11 0 0 0 false 0 false false 0 0 0 0 false 0 0 0 0 0))))/\
((preB (fr a0 0) ([116,117,114,110]:ZB))=false->
(qc a0 11)/\
 True))/\
(qc a0 11->
(((0:Int)<=0/\0<=ln a0)/\
(True)/\
(((preB (fr a0 0) ([115,105,103]:ZB))=true->
(I64 (0+(ln ([115,105,103]:ZB))))/\
(((0+(ln ([115,105,103]:ZB)))≠(ln a0)->
(qc a0 12)/\
 True))/\
((0+(ln ([115,105,103]:ZB)))=(ln a0)->
(True)/\
(((kh (Sign.mk 12 0 0 0 false 0 false false 0 0 0 0 false 0 0 0 0))≠0->
 zn a0 0 0 0 0 false 0 false false 0 0 0 0 false 0 0 0 0 (kh (Sign.mk 12 0 0 0 false 0 false false 0 0 0 0 false 0 0 0 0))))/\
((kh (Sign.mk 12 0 0 0 false 0 false false 0 0 0 0 false 0 0 0 0))=0->
 zn a0 12 0 0 0 false 0 false false 0 0 0 0 false 0 0 0 0 0))))/\
((preB (fr a0 0) ([115,105,103]:ZB))=false->
(qc a0 12)/\
 True))/\
(qc a0 12->
 zn a0 0 0 0 0 false 0 false false 0 0 0 0 false 0 0 0 0 3)))))))))))))) (kh (Sign.mk 5 0 0 0 false 0 false false (f.1.1) (f.1.2.1) (f.1.2.2.1) (f.1.2.2.2) false 0 0 0 0))) (kh (Sign.mk 5 0 0 0 false 0 false false (f.1.1) (f.1.2.1) (f.1.2.2.1) (f.1.2.2.2) true 0 0 0 0))
theorem zko (a0:ZB):qad (ql XK (ji zg4) (λj ns=>match j,ns with | 0,[.s a,.i c,.i d]=>jt a0 a c d | 1,[.i a,.i c]=>zg a0 a c | 2,[.i a,.i c]=>qf a0 a c | 3,[.b a,.b c,.b d]=>jh a0 a c d | 4,[.b a,.b c,.b d]=>qcv a0 a c d | 5,[.i a,.i c]=>kf a0 a c | 6,[.i a,.b c,.i d]=>qca a0 a c d | 7,[.i a,.i c,.i d]=>zx a0 a c d | 8,[.i a,.b c,.i d,.i e,.b f,.i g,.b h]=>qcw a0 a c d e f g h | 9,[.i a,.i c,.i d]=>j5 a0 a c d | 10,[.i a,.b c,.i d]=>qbd a0 a c d | 11,[.i a,.b c,.i d,.b e]=>qbe a0 a c d e | 12,[.i a,.b c,.i d,.i e]=>jl a0 a c d e | 13,[.i a]=>qc a0 a | _,_=>False) (λj ns=>match j,ns with | 1,[.i a,.i c]=>z7 a0 a c | 5,[.i a,.i c]=>qcx a0 a c | _,_=>0)) {cfg sp with ann:=j4 [(121,7,.cut 0 [.one 3 (.str),.via 0 [.keep,.int .i64,.keep]] [.via 0 [.keep,.int .i64,.keep]]),(125,28,.inv 1 [.via 0 [.keep,.int .i64,.keep]] [.one 3 (.int .i64)]),(125,7,.cut 2 [.via 0 [.keep,.int .i64,.keep]] [.one 3 (.int .i64)]),(102,7,.cut 3 [.via 0 [.keep,.keep,.bool]] [.via 0 [.keep,.keep,.bool],.one 4 (.bool)]),(121,31,.cut 4 [.via 0 [.keep,.keep,.bool]] [.via 0 [.keep,.keep,.bool],.one 5 (.bool)]),(82,26,.inv 5 [.one 4 (.int .i64)] [.via 0 [.keep,.int .i64,.keep]]),(81,1,.cut 6 [.via 0 [.keep,.int .i64,.bool],.via 1 [.keep,.int .i64,.keep,.keep,.keep,.keep,.keep,.keep,.keep,.keep,.keep,.keep,.keep,.keep,.keep,.keep,.keep]] []),(83,3,.cut 7 [.via 0 [.keep,.int .i64,.keep],.via 1 [.keep,.keep,.keep,.int .i64,.keep,.keep,.keep,.keep,.keep,.keep,.keep,.keep,.keep,.keep,.keep,.keep,.keep]] [.via 0 [.keep,.int .i64,.keep]]),(89,1,.cut 8 [.via 0 [.keep,.int .i64,.bool],.via 1 [.keep,.keep,.int .i64,.int .i64,.bool,.keep,.keep,.keep,.keep,.keep,.keep,.keep,.keep,.keep,.keep,.keep,.keep]] [.via 0 [.keep,.int .i64,.bool]]),(89,26,.unroll 4),(89,3,.cut 9 [.via 0 [.keep,.int .i64,.keep],.via 1 [.keep,.keep,.keep,.keep,.keep,.int .i64,.keep,.keep,.keep,.keep,.keep,.keep,.keep,.keep,.keep,.keep,.keep]] [.via 0 [.keep,.int .i64,.keep]]),(89,7,.cut 10 [.via 0 [.keep,.int .i64,.keep],.via 1 [.keep,.keep,.keep,.keep,.keep,.keep,.bool,.keep,.keep,.keep,.keep,.keep,.keep,.keep,.keep,.keep,.keep]] [.via 0 [.keep,.int .i64,.keep]]),(101,3,.cut 11 [.via 0 [.keep,.int .i64,.bool]] [.via 0 [.keep,.int .i64,.bool]]),(104,1,.cut 12 [.via 0 [.keep,.int .i64,.bool],.via 1 [.keep,.keep,.keep,.keep,.keep,.keep,.keep,.keep,.keep,.keep,.keep,.keep,.keep,.keep,.keep,.int .i64,.keep]] [.via 0 [.keep,.int .i64,.keep]]),(64,211,.cut 13 [] [.one 10 (.int .i64)]),(64,26,.unroll 14)],born:=λ_=>false} 10 64 [.str (a0)] (q2h a0)=qxt a0:=by kernel_rfl
variable {sp:Nat->Option (List V->Heap->Option (CR×Heap))}
def zkj:List (Nat×Ct KT):=[(67,zq8)]
abbrev q7h (a0:Int) (g:Int) (a2:Int) (a3:Int) (a4:Bool) (a5:Int) (h:Bool) (i:Bool) (j:Int) (a9:Int) (a:Int) (b:Int) (a12:Bool) (c:Int) (d:Int) (e:Int) (f:Int):PV KT:=.int .i64 none ((kh (Sign.mk a0 g a2 a3 a4 a5 h i j a9 a b a12 c d e f)))
abbrev q4w (a0:Int) (j:Int) (a2:Int) (a3:Int) (a4:Bool) (a5:Int) (c:Bool) (d:Bool) (k:Int) (a9:Int) (h:Int) (i:Int) (a12:Bool) (b:Int) (g:Int) (f:Int) (e:Int):Prop:=
(λa:Int=>
((a0<1->
((8:Int)=a)/\
 True))/\
(1<=a0->
((12<a0->
((8:Int)=a)/\
 True))/\
(a0<=12->
(Wn a0 13)/\
(((a0:Int)=0->
(((a0≠a0∨(j≠0∨(a2≠0∨(a3≠0∨(a4≠false∨(a5≠0∨(c≠false∨(d≠false∨(k≠0∨(a9≠0∨(h≠0∨(i≠0∨(a12≠false∨(b≠0∨(g≠0∨(f≠0∨e≠0))))))))))))))))->
((3:Int)=a)/\
 True))/\
((a0=a0/\(j=0/\(a2=0/\(a3=0/\(a4=false/\(a5=0/\(c=false/\(d=false/\(k=0/\(a9=0/\(h=0/\(i=0/\(a12=false/\(b=0/\(g=0/\(f=0/\e=0))))))))))))))))->
((a0=8->
((0<=b->
((2<b->
((2:Int)=a)/\
 True))/\
(b<=2->
((a0=10->
((2<=b->
((4<b->
((2:Int)=a)/\
 True))/\
(b<=4->
((c=true->
((d=true->
((3:Int)=a)/\
 True))/\
(d=false->
((0:Int)=a)/\
 True)))/\
(c=false->
((0:Int)=a)/\
 True))))/\
(b<2->
((2:Int)=a)/\
 True)))/\
(a0≠10->
((c=true->
((d=true->
((3:Int)=a)/\
 True))/\
(d=false->
((0:Int)=a)/\
 True)))/\
(c=false->
((0:Int)=a)/\
 True)))))/\
(b<0->
((2:Int)=a)/\
 True)))/\
(a0≠8->
((a0=10->
((2<=b->
((4<b->
((2:Int)=a)/\
 True))/\
(b<=4->
((c=true->
((d=true->
((3:Int)=a)/\
 True))/\
(d=false->
((0:Int)=a)/\
 True)))/\
(c=false->
((0:Int)=a)/\
 True))))/\
(b<2->
((2:Int)=a)/\
 True)))/\
(a0≠10->
((c=true->
((d=true->
((3:Int)=a)/\
 True))/\
(d=false->
((0:Int)=a)/\
 True)))/\
(c=false->
((0:Int)=a)/\
 True))))))/\
(((a0:Int)=1->
(((a0≠a0∨(j≠j∨(a2≠a2∨(a3≠a3∨(a4≠a4∨(a5≠0∨(c≠false∨(d≠false∨(k≠0∨(a9≠0∨(h≠0∨(i≠0∨(a12≠false∨(b≠0∨(g≠0∨(f≠0∨e≠0))))))))))))))))->
((3:Int)=a)/\
 True))/\
((a0=a0/\(j=j/\(a2=a2/\(a3=a3/\(a4=a4/\(a5=0/\(c=false/\(d=false/\(k=0/\(a9=0/\(h=0/\(i=0/\(a12=false/\(b=0/\(g=0/\(f=0/\e=0))))))))))))))))->
((1<=j->
((8<j->
((2:Int)=a)/\
 True))/\
(j<=8->
(((-4)<=a2->
((12<a2->
((2:Int)=a)/\
 True))/\
(a2<=12->
(((-1)<=a3->
((2<a3->
((2:Int)=a)/\
 True))/\
(a3<=2->
((a0=8->
((0<=b->
((2<b->
((2:Int)=a)/\
 True))/\
(b<=2->
((a0=10->
((2<=b->
((4<b->
((2:Int)=a)/\
 True))/\
(b<=4->
((c=true->
((d=true->
((3:Int)=a)/\
 True))/\
(d=false->
((0:Int)=a)/\
 True)))/\
(c=false->
((0:Int)=a)/\
 True))))/\
(b<2->
((2:Int)=a)/\
 True)))/\
(a0≠10->
((c=true->
((d=true->
((3:Int)=a)/\
 True))/\
(d=false->
((0:Int)=a)/\
 True)))/\
(c=false->
((0:Int)=a)/\
 True)))))/\
(b<0->
((2:Int)=a)/\
 True)))/\
(a0≠8->
((a0=10->
((2<=b->
((4<b->
((2:Int)=a)/\
 True))/\
(b<=4->
((c=true->
((d=true->
((3:Int)=a)/\
 True))/\
(d=false->
((0:Int)=a)/\
 True)))/\
(c=false->
((0:Int)=a)/\
 True))))/\
(b<2->
((2:Int)=a)/\
 True)))/\
(a0≠10->
((c=true->
((d=true->
((3:Int)=a)/\
 True))/\
(d=false->
((0:Int)=a)/\
 True)))/\
(c=false->
((0:Int)=a)/\
 True))))))/\
(a3<(-1)->
((2:Int)=a)/\
 True))))/\
(a2<(-4)->
((2:Int)=a)/\
 True))))/\
(j<1->
((2:Int)=a)/\
 True))))/\
(((a0:Int)=2->
(((a0≠a0∨(j≠j∨(a2≠0∨(a3≠0∨(a4≠false∨(a5≠0∨(c≠false∨(d≠false∨(k≠0∨(a9≠0∨(h≠0∨(i≠0∨(a12≠false∨(b≠0∨(g≠0∨(f≠0∨e≠0))))))))))))))))->
((3:Int)=a)/\
 True))/\
((a0=a0/\(j=j/\(a2=0/\(a3=0/\(a4=false/\(a5=0/\(c=false/\(d=false/\(k=0/\(a9=0/\(h=0/\(i=0/\(a12=false/\(b=0/\(g=0/\(f=0/\e=0))))))))))))))))->
((1<=j->
((8<j->
((2:Int)=a)/\
 True))/\
(j<=8->
((a0=8->
((0<=b->
((2<b->
((2:Int)=a)/\
 True))/\
(b<=2->
((a0=10->
((2<=b->
((4<b->
((2:Int)=a)/\
 True))/\
(b<=4->
((c=true->
((d=true->
((3:Int)=a)/\
 True))/\
(d=false->
((0:Int)=a)/\
 True)))/\
(c=false->
((0:Int)=a)/\
 True))))/\
(b<2->
((2:Int)=a)/\
 True)))/\
(a0≠10->
((c=true->
((d=true->
((3:Int)=a)/\
 True))/\
(d=false->
((0:Int)=a)/\
 True)))/\
(c=false->
((0:Int)=a)/\
 True)))))/\
(b<0->
((2:Int)=a)/\
 True)))/\
(a0≠8->
((a0=10->
((2<=b->
((4<b->
((2:Int)=a)/\
 True))/\
(b<=4->
((c=true->
((d=true->
((3:Int)=a)/\
 True))/\
(d=false->
((0:Int)=a)/\
 True)))/\
(c=false->
((0:Int)=a)/\
 True))))/\
(b<2->
((2:Int)=a)/\
 True)))/\
(a0≠10->
((c=true->
((d=true->
((3:Int)=a)/\
 True))/\
(d=false->
((0:Int)=a)/\
 True)))/\
(c=false->
((0:Int)=a)/\
 True))))))/\
(j<1->
((2:Int)=a)/\
 True))))/\
(((a0:Int)=3->
(((a0≠a0∨(j≠0∨(a2≠0∨(a3≠0∨(a4≠false∨(a5≠0∨(c≠false∨(d≠false∨(k≠0∨(a9≠0∨(h≠0∨(i≠0∨(a12≠false∨(b≠0∨(g≠0∨(f≠0∨e≠0))))))))))))))))->
((3:Int)=a)/\
 True))/\
((a0=a0/\(j=0/\(a2=0/\(a3=0/\(a4=false/\(a5=0/\(c=false/\(d=false/\(k=0/\(a9=0/\(h=0/\(i=0/\(a12=false/\(b=0/\(g=0/\(f=0/\e=0))))))))))))))))->
((a0=8->
((0<=b->
((2<b->
((2:Int)=a)/\
 True))/\
(b<=2->
((a0=10->
((2<=b->
((4<b->
((2:Int)=a)/\
 True))/\
(b<=4->
((c=true->
((d=true->
((3:Int)=a)/\
 True))/\
(d=false->
((0:Int)=a)/\
 True)))/\
(c=false->
((0:Int)=a)/\
 True))))/\
(b<2->
((2:Int)=a)/\
 True)))/\
(a0≠10->
((c=true->
((d=true->
((3:Int)=a)/\
 True))/\
(d=false->
((0:Int)=a)/\
 True)))/\
(c=false->
((0:Int)=a)/\
 True)))))/\
(b<0->
((2:Int)=a)/\
 True)))/\
(a0≠8->
((a0=10->
((2<=b->
((4<b->
((2:Int)=a)/\
 True))/\
(b<=4->
((c=true->
((d=true->
((3:Int)=a)/\
 True))/\
(d=false->
((0:Int)=a)/\
 True)))/\
(c=false->
((0:Int)=a)/\
 True))))/\
(b<2->
((2:Int)=a)/\
 True)))/\
(a0≠10->
((c=true->
((d=true->
((3:Int)=a)/\
 True))/\
(d=false->
((0:Int)=a)/\
 True)))/\
(c=false->
((0:Int)=a)/\
 True))))))/\
(((a0:Int)=4->
(((a0≠a0∨(j≠0∨(a2≠a2∨(a3≠a3∨(a4≠a4∨(a5≠a5∨(c≠c∨(d≠d∨(k≠0∨(a9≠0∨(h≠0∨(i≠0∨(a12≠false∨(b≠0∨(g≠0∨(f≠0∨e≠0))))))))))))))))->
((3:Int)=a)/\
 True))/\
((a0=a0/\(j=0/\(a2=a2/\(a3=a3/\(a4=a4/\(a5=a5/\(c=c/\(d=d/\(k=0/\(a9=0/\(h=0/\(i=0/\(a12=false/\(b=0/\(g=0/\(f=0/\e=0))))))))))))))))->
(((-4)<=a2->
((12<a2->
((2:Int)=a)/\
 True))/\
(a2<=12->
(((-1)<=a3->
((2<a3->
((2:Int)=a)/\
 True))/\
(a3<=2->
((0<=a5->
((3<a5->
((2:Int)=a)/\
 True))/\
(a5<=3->
((a0=8->
((0<=b->
((2<b->
((2:Int)=a)/\
 True))/\
(b<=2->
((a0=10->
((2<=b->
((4<b->
((2:Int)=a)/\
 True))/\
(b<=4->
((c=true->
((d=true->
((3:Int)=a)/\
 True))/\
(d=false->
((0:Int)=a)/\
 True)))/\
(c=false->
((0:Int)=a)/\
 True))))/\
(b<2->
((2:Int)=a)/\
 True)))/\
(a0≠10->
((c=true->
((d=true->
((3:Int)=a)/\
 True))/\
(d=false->
((0:Int)=a)/\
 True)))/\
(c=false->
((0:Int)=a)/\
 True)))))/\
(b<0->
((2:Int)=a)/\
 True)))/\
(a0≠8->
((a0=10->
((2<=b->
((4<b->
((2:Int)=a)/\
 True))/\
(b<=4->
((c=true->
((d=true->
((3:Int)=a)/\
 True))/\
(d=false->
((0:Int)=a)/\
 True)))/\
(c=false->
((0:Int)=a)/\
 True))))/\
(b<2->
((2:Int)=a)/\
 True)))/\
(a0≠10->
((c=true->
((d=true->
((3:Int)=a)/\
 True))/\
(d=false->
((0:Int)=a)/\
 True)))/\
(c=false->
((0:Int)=a)/\
 True))))))/\
(a5<0->
((2:Int)=a)/\
 True))))/\
(a3<(-1)->
((2:Int)=a)/\
 True))))/\
(a2<(-4)->
((2:Int)=a)/\
 True))))/\
(((a0:Int)=5->
(((a0≠a0∨(j≠0∨(a2≠0∨(a3≠0∨(a4≠false∨(a5≠0∨(c≠false∨(d≠false∨(k≠k∨(a9≠a9∨(h≠h∨(i≠i∨(a12≠a12∨(b≠0∨(g≠0∨(f≠0∨e≠0))))))))))))))))->
((3:Int)=a)/\
 True))/\
((a0=a0/\(j=0/\(a2=0/\(a3=0/\(a4=false/\(a5=0/\(c=false/\(d=false/\(k=k/\(a9=a9/\(h=h/\(i=i/\(a12=a12/\(b=0/\(g=0/\(f=0/\e=0))))))))))))))))->
(True)/\
(((qe0 k a9 h i)≠0->
((12:Int)=a)/\
 True))/\
((qe0 k a9 h i)=0->
((a0=8->
((0<=b->
((2<b->
((2:Int)=a)/\
 True))/\
(b<=2->
((a0=10->
((2<=b->
((4<b->
((2:Int)=a)/\
 True))/\
(b<=4->
((c=true->
((d=true->
((3:Int)=a)/\
 True))/\
(d=false->
((0:Int)=a)/\
 True)))/\
(c=false->
((0:Int)=a)/\
 True))))/\
(b<2->
((2:Int)=a)/\
 True)))/\
(a0≠10->
((c=true->
((d=true->
((3:Int)=a)/\
 True))/\
(d=false->
((0:Int)=a)/\
 True)))/\
(c=false->
((0:Int)=a)/\
 True)))))/\
(b<0->
((2:Int)=a)/\
 True)))/\
(a0≠8->
((a0=10->
((2<=b->
((4<b->
((2:Int)=a)/\
 True))/\
(b<=4->
((c=true->
((d=true->
((3:Int)=a)/\
 True))/\
(d=false->
((0:Int)=a)/\
 True)))/\
(c=false->
((0:Int)=a)/\
 True))))/\
(b<2->
((2:Int)=a)/\
 True)))/\
(a0≠10->
((c=true->
((d=true->
((3:Int)=a)/\
 True))/\
(d=false->
((0:Int)=a)/\
 True)))/\
(c=false->
((0:Int)=a)/\
 True)))))))/\
(((a0:Int)=6->
(((a0≠a0∨(j≠0∨(a2≠0∨(a3≠0∨(a4≠false∨(a5≠0∨(c≠false∨(d≠false∨(k≠0∨(a9≠0∨(h≠0∨(i≠0∨(a12≠false∨(b≠b∨(g≠g∨(f≠0∨e≠0))))))))))))))))->
((3:Int)=a)/\
 True))/\
((a0=a0/\(j=0/\(a2=0/\(a3=0/\(a4=false/\(a5=0/\(c=false/\(d=false/\(k=0/\(a9=0/\(h=0/\(i=0/\(a12=false/\(b=b/\(g=g/\(f=0/\e=0))))))))))))))))->
((1<=b->
((100<b->
((2:Int)=a)/\
 True))/\
(b<=100->
((1<=g->
((100<g->
((2:Int)=a)/\
 True))/\
(g<=100->
((a0=8->
((0<=b->
((2<b->
((2:Int)=a)/\
 True))/\
(b<=2->
((a0=10->
((2<=b->
((4<b->
((2:Int)=a)/\
 True))/\
(b<=4->
((c=true->
((d=true->
((3:Int)=a)/\
 True))/\
(d=false->
((0:Int)=a)/\
 True)))/\
(c=false->
((0:Int)=a)/\
 True))))/\
(b<2->
((2:Int)=a)/\
 True)))/\
(a0≠10->
((c=true->
((d=true->
((3:Int)=a)/\
 True))/\
(d=false->
((0:Int)=a)/\
 True)))/\
(c=false->
((0:Int)=a)/\
 True)))))/\
(b<0->
((2:Int)=a)/\
 True)))/\
(a0≠8->
((a0=10->
((2<=b->
((4<b->
((2:Int)=a)/\
 True))/\
(b<=4->
((c=true->
((d=true->
((3:Int)=a)/\
 True))/\
(d=false->
((0:Int)=a)/\
 True)))/\
(c=false->
((0:Int)=a)/\
 True))))/\
(b<2->
((2:Int)=a)/\
 True)))/\
(a0≠10->
((c=true->
((d=true->
((3:Int)=a)/\
 True))/\
(d=false->
((0:Int)=a)/\
 True)))/\
(c=false->
((0:Int)=a)/\
 True))))))/\
(g<1->
((2:Int)=a)/\
 True))))/\
(b<1->
((2:Int)=a)/\
 True))))/\
(((a0:Int)=7->
(((a0≠a0∨(j≠0∨(a2≠0∨(a3≠0∨(a4≠false∨(a5≠0∨(c≠false∨(d≠false∨(k≠0∨(a9≠0∨(h≠0∨(i≠0∨(a12≠false∨(b≠0∨(g≠0∨(f≠f∨e≠e))))))))))))))))->
((3:Int)=a)/\
 True))/\
((a0=a0/\(j=0/\(a2=0/\(a3=0/\(a4=false/\(a5=0/\(c=false/\(d=false/\(k=0/\(a9=0/\(h=0/\(i=0/\(a12=false/\(b=0/\(g=0/\(f=f/\e=e))))))))))))))))->
((f≠0->
((f≠3->
((f≠4->
((2:Int)=a)/\
 True))/\
(f=4->
((1<=e->
((5<e->
((2:Int)=a)/\
 True))/\
(e<=5->
((a0=8->
((0<=b->
((2<b->
((2:Int)=a)/\
 True))/\
(b<=2->
((a0=10->
((2<=b->
((4<b->
((2:Int)=a)/\
 True))/\
(b<=4->
((c=true->
((d=true->
((3:Int)=a)/\
 True))/\
(d=false->
((0:Int)=a)/\
 True)))/\
(c=false->
((0:Int)=a)/\
 True))))/\
(b<2->
((2:Int)=a)/\
 True)))/\
(a0≠10->
((c=true->
((d=true->
((3:Int)=a)/\
 True))/\
(d=false->
((0:Int)=a)/\
 True)))/\
(c=false->
((0:Int)=a)/\
 True)))))/\
(b<0->
((2:Int)=a)/\
 True)))/\
(a0≠8->
((a0=10->
((2<=b->
((4<b->
((2:Int)=a)/\
 True))/\
(b<=4->
((c=true->
((d=true->
((3:Int)=a)/\
 True))/\
(d=false->
((0:Int)=a)/\
 True)))/\
(c=false->
((0:Int)=a)/\
 True))))/\
(b<2->
((2:Int)=a)/\
 True)))/\
(a0≠10->
((c=true->
((d=true->
((3:Int)=a)/\
 True))/\
(d=false->
((0:Int)=a)/\
 True)))/\
(c=false->
((0:Int)=a)/\
 True))))))/\
(e<1->
((2:Int)=a)/\
 True))))/\
(f=3->
((1<=e->
((5<e->
((2:Int)=a)/\
 True))/\
(e<=5->
((a0=8->
((0<=b->
((2<b->
((2:Int)=a)/\
 True))/\
(b<=2->
((a0=10->
((2<=b->
((4<b->
((2:Int)=a)/\
 True))/\
(b<=4->
((c=true->
((d=true->
((3:Int)=a)/\
 True))/\
(d=false->
((0:Int)=a)/\
 True)))/\
(c=false->
((0:Int)=a)/\
 True))))/\
(b<2->
((2:Int)=a)/\
 True)))/\
(a0≠10->
((c=true->
((d=true->
((3:Int)=a)/\
 True))/\
(d=false->
((0:Int)=a)/\
 True)))/\
(c=false->
((0:Int)=a)/\
 True)))))/\
(b<0->
((2:Int)=a)/\
 True)))/\
(a0≠8->
((a0=10->
((2<=b->
((4<b->
((2:Int)=a)/\
 True))/\
(b<=4->
((c=true->
((d=true->
((3:Int)=a)/\
 True))/\
(d=false->
((0:Int)=a)/\
 True)))/\
(c=false->
((0:Int)=a)/\
 True))))/\
(b<2->
((2:Int)=a)/\
 True)))/\
(a0≠10->
((c=true->
((d=true->
((3:Int)=a)/\
 True))/\
(d=false->
((0:Int)=a)/\
 True)))/\
(c=false->
((0:Int)=a)/\
 True))))))/\
(e<1->
((2:Int)=a)/\
 True))))/\
(f=0->
((1<=e->
((5<e->
((2:Int)=a)/\
 True))/\
(e<=5->
((a0=8->
((0<=b->
((2<b->
((2:Int)=a)/\
 True))/\
(b<=2->
((a0=10->
((2<=b->
((4<b->
((2:Int)=a)/\
 True))/\
(b<=4->
((c=true->
((d=true->
((3:Int)=a)/\
 True))/\
(d=false->
((0:Int)=a)/\
 True)))/\
(c=false->
((0:Int)=a)/\
 True))))/\
(b<2->
((2:Int)=a)/\
 True)))/\
(a0≠10->
((c=true->
((d=true->
((3:Int)=a)/\
 True))/\
(d=false->
((0:Int)=a)/\
 True)))/\
(c=false->
((0:Int)=a)/\
 True)))))/\
(b<0->
((2:Int)=a)/\
 True)))/\
(a0≠8->
((a0=10->
((2<=b->
((4<b->
((2:Int)=a)/\
 True))/\
(b<=4->
((c=true->
((d=true->
((3:Int)=a)/\
 True))/\
(d=false->
((0:Int)=a)/\
 True)))/\
(c=false->
((0:Int)=a)/\
 True))))/\
(b<2->
((2:Int)=a)/\
 True)))/\
(a0≠10->
((c=true->
((d=true->
((3:Int)=a)/\
 True))/\
(d=false->
((0:Int)=a)/\
 True)))/\
(c=false->
((0:Int)=a)/\
 True))))))/\
(e<1->
((2:Int)=a)/\
 True)))))/\
(((a0:Int)=8->
(((a0≠a0∨(j≠0∨(a2≠0∨(a3≠0∨(a4≠false∨(a5≠0∨(c≠false∨(d≠false∨(k≠0∨(a9≠0∨(h≠0∨(i≠0∨(a12≠false∨(b≠b∨(g≠0∨(f≠0∨e≠0))))))))))))))))->
((3:Int)=a)/\
 True))/\
((a0=a0/\(j=0/\(a2=0/\(a3=0/\(a4=false/\(a5=0/\(c=false/\(d=false/\(k=0/\(a9=0/\(h=0/\(i=0/\(a12=false/\(b=b/\(g=0/\(f=0/\e=0))))))))))))))))->
((a0=8->
((0<=b->
((2<b->
((2:Int)=a)/\
 True))/\
(b<=2->
((a0=10->
((2<=b->
((4<b->
((2:Int)=a)/\
 True))/\
(b<=4->
((c=true->
((d=true->
((3:Int)=a)/\
 True))/\
(d=false->
((0:Int)=a)/\
 True)))/\
(c=false->
((0:Int)=a)/\
 True))))/\
(b<2->
((2:Int)=a)/\
 True)))/\
(a0≠10->
((c=true->
((d=true->
((3:Int)=a)/\
 True))/\
(d=false->
((0:Int)=a)/\
 True)))/\
(c=false->
((0:Int)=a)/\
 True)))))/\
(b<0->
((2:Int)=a)/\
 True)))/\
(a0≠8->
((a0=10->
((2<=b->
((4<b->
((2:Int)=a)/\
 True))/\
(b<=4->
((c=true->
((d=true->
((3:Int)=a)/\
 True))/\
(d=false->
((0:Int)=a)/\
 True)))/\
(c=false->
((0:Int)=a)/\
 True))))/\
(b<2->
((2:Int)=a)/\
 True)))/\
(a0≠10->
((c=true->
((d=true->
((3:Int)=a)/\
 True))/\
(d=false->
((0:Int)=a)/\
 True)))/\
(c=false->
((0:Int)=a)/\
 True))))))/\
(((a0:Int)=9->
(((a0≠a0∨(j≠0∨(a2≠0∨(a3≠0∨(a4≠false∨(a5≠0∨(c≠false∨(d≠false∨(k≠0∨(a9≠0∨(h≠0∨(i≠0∨(a12≠false∨(b≠0∨(g≠0∨(f≠0∨e≠0))))))))))))))))->
((3:Int)=a)/\
 True))/\
((a0=a0/\(j=0/\(a2=0/\(a3=0/\(a4=false/\(a5=0/\(c=false/\(d=false/\(k=0/\(a9=0/\(h=0/\(i=0/\(a12=false/\(b=0/\(g=0/\(f=0/\e=0))))))))))))))))->
((a0=8->
((0<=b->
((2<b->
((2:Int)=a)/\
 True))/\
(b<=2->
((a0=10->
((2<=b->
((4<b->
((2:Int)=a)/\
 True))/\
(b<=4->
((c=true->
((d=true->
((3:Int)=a)/\
 True))/\
(d=false->
((0:Int)=a)/\
 True)))/\
(c=false->
((0:Int)=a)/\
 True))))/\
(b<2->
((2:Int)=a)/\
 True)))/\
(a0≠10->
((c=true->
((d=true->
((3:Int)=a)/\
 True))/\
(d=false->
((0:Int)=a)/\
 True)))/\
(c=false->
((0:Int)=a)/\
 True)))))/\
(b<0->
((2:Int)=a)/\
 True)))/\
(a0≠8->
((a0=10->
((2<=b->
((4<b->
((2:Int)=a)/\
 True))/\
(b<=4->
((c=true->
((d=true->
((3:Int)=a)/\
 True))/\
(d=false->
((0:Int)=a)/\
 True)))/\
(c=false->
((0:Int)=a)/\
 True))))/\
(b<2->
((2:Int)=a)/\
 True)))/\
(a0≠10->
((c=true->
((d=true->
((3:Int)=a)/\
 True))/\
(d=false->
((0:Int)=a)/\
 True)))/\
(c=false->
((0:Int)=a)/\
 True))))))/\
(((a0:Int)=10->
(((a0≠a0∨(j≠0∨(a2≠0∨(a3≠0∨(a4≠false∨(a5≠0∨(c≠false∨(d≠false∨(k≠0∨(a9≠0∨(h≠0∨(i≠0∨(a12≠false∨(b≠b∨(g≠0∨(f≠0∨e≠0))))))))))))))))->
((3:Int)=a)/\
 True))/\
((a0=a0/\(j=0/\(a2=0/\(a3=0/\(a4=false/\(a5=0/\(c=false/\(d=false/\(k=0/\(a9=0/\(h=0/\(i=0/\(a12=false/\(b=b/\(g=0/\(f=0/\e=0))))))))))))))))->
((a0=8->
((0<=b->
((2<b->
((2:Int)=a)/\
 True))/\
(b<=2->
((a0=10->
((2<=b->
((4<b->
((2:Int)=a)/\
 True))/\
(b<=4->
((c=true->
((d=true->
((3:Int)=a)/\
 True))/\
(d=false->
((0:Int)=a)/\
 True)))/\
(c=false->
((0:Int)=a)/\
 True))))/\
(b<2->
((2:Int)=a)/\
 True)))/\
(a0≠10->
((c=true->
((d=true->
((3:Int)=a)/\
 True))/\
(d=false->
((0:Int)=a)/\
 True)))/\
(c=false->
((0:Int)=a)/\
 True)))))/\
(b<0->
((2:Int)=a)/\
 True)))/\
(a0≠8->
((a0=10->
((2<=b->
((4<b->
((2:Int)=a)/\
 True))/\
(b<=4->
((c=true->
((d=true->
((3:Int)=a)/\
 True))/\
(d=false->
((0:Int)=a)/\
 True)))/\
(c=false->
((0:Int)=a)/\
 True))))/\
(b<2->
((2:Int)=a)/\
 True)))/\
(a0≠10->
((c=true->
((d=true->
((3:Int)=a)/\
 True))/\
(d=false->
((0:Int)=a)/\
 True)))/\
(c=false->
((0:Int)=a)/\
 True))))))/\
(((a0:Int)=11->
(((a0≠a0∨(j≠0∨(a2≠0∨(a3≠0∨(a4≠false∨(a5≠0∨(c≠false∨(d≠false∨(k≠0∨(a9≠0∨(h≠0∨(i≠0∨(a12≠false∨(b≠0∨(g≠0∨(f≠0∨e≠0))))))))))))))))->
((3:Int)=a)/\
 True))/\
((a0=a0/\(j=0/\(a2=0/\(a3=0/\(a4=false/\(a5=0/\(c=false/\(d=false/\(k=0/\(a9=0/\(h=0/\(i=0/\(a12=false/\(b=0/\(g=0/\(f=0/\e=0))))))))))))))))->
((a0=8->
((0<=b->
((2<b->
((2:Int)=a)/\
 True))/\
(b<=2->
((a0=10->
((2<=b->
((4<b->
((2:Int)=a)/\
 True))/\
(b<=4->
((c=true->
((d=true->
((3:Int)=a)/\
 True))/\
(d=false->
((0:Int)=a)/\
 True)))/\
(c=false->
((0:Int)=a)/\
 True))))/\
(b<2->
((2:Int)=a)/\
 True)))/\
(a0≠10->
((c=true->
((d=true->
((3:Int)=a)/\
 True))/\
(d=false->
((0:Int)=a)/\
 True)))/\
(c=false->
((0:Int)=a)/\
 True)))))/\
(b<0->
((2:Int)=a)/\
 True)))/\
(a0≠8->
((a0=10->
((2<=b->
((4<b->
((2:Int)=a)/\
 True))/\
(b<=4->
((c=true->
((d=true->
((3:Int)=a)/\
 True))/\
(d=false->
((0:Int)=a)/\
 True)))/\
(c=false->
((0:Int)=a)/\
 True))))/\
(b<2->
((2:Int)=a)/\
 True)))/\
(a0≠10->
((c=true->
((d=true->
((3:Int)=a)/\
 True))/\
(d=false->
((0:Int)=a)/\
 True)))/\
(c=false->
((0:Int)=a)/\
 True))))))/\
(((a0:Int)=12->
(((a0≠a0∨(j≠0∨(a2≠0∨(a3≠0∨(a4≠false∨(a5≠0∨(c≠false∨(d≠false∨(k≠0∨(a9≠0∨(h≠0∨(i≠0∨(a12≠false∨(b≠0∨(g≠0∨(f≠0∨e≠0))))))))))))))))->
((3:Int)=a)/\
 True))/\
((a0=a0/\(j=0/\(a2=0/\(a3=0/\(a4=false/\(a5=0/\(c=false/\(d=false/\(k=0/\(a9=0/\(h=0/\(i=0/\(a12=false/\(b=0/\(g=0/\(f=0/\e=0))))))))))))))))->
((a0=8->
((0<=b->
((2<b->
((2:Int)=a)/\
 True))/\
(b<=2->
((a0=10->
((2<=b->
((4<b->
((2:Int)=a)/\
 True))/\
(b<=4->
((c=true->
((d=true->
((3:Int)=a)/\
 True))/\
(d=false->
((0:Int)=a)/\
 True)))/\
(c=false->
((0:Int)=a)/\
 True))))/\
(b<2->
((2:Int)=a)/\
 True)))/\
(a0≠10->
((c=true->
((d=true->
((3:Int)=a)/\
 True))/\
(d=false->
((0:Int)=a)/\
 True)))/\
(c=false->
((0:Int)=a)/\
 True)))))/\
(b<0->
((2:Int)=a)/\
 True)))/\
(a0≠8->
((a0=10->
((2<=b->
((4<b->
((2:Int)=a)/\
 True))/\
(b<=4->
((c=true->
((d=true->
((3:Int)=a)/\
 True))/\
(d=false->
((0:Int)=a)/\
 True)))/\
(c=false->
((0:Int)=a)/\
 True))))/\
(b<2->
((2:Int)=a)/\
 True)))/\
(a0≠10->
((c=true->
((d=true->
((3:Int)=a)/\
 True))/\
(d=false->
((0:Int)=a)/\
 True)))/\
(c=false->
((0:Int)=a)/\
 True))))))/\
 True))) (kh (Sign.mk a0 j a2 a3 a4 a5 c d k a9 h i a12 b g f e))
theorem zqa (a0:Int) (i:Int) (a2:Int) (a3:Int) (a4:Bool) (a5:Int) (g:Bool) (h:Bool) (j:Int) (a9:Int) (a:Int) (b:Int) (a12:Bool) (c:Int) (d:Int) (e:Int) (f:Int):qad (ql XK (ji zkj) (λ_ _=>False) (λ_ _=>0)) {cfg sp with ann:=j4 [],born:=λ_=>false} 6 42 [.agg [.int .i64 none (a0),.int .i64 none (i),.int .i64 none (a2),.int .i64 none (a3),.sb 0 false (a4) (a4=true) (a4=false),.int .i64 none (a5),.sb 0 false (g) (g=true) (g=false),.sb 0 false (h) (h=true) (h=false),.int .i64 none (j),.int .i64 none (a9),.int .i64 none (a),.int .i64 none (b),.sb 0 false (a12) (a12=true) (a12=false),.int .i64 none (c),.int .i64 none (d),.int .i64 none (e),.int .i64 none (f)]] (q7h a0 i a2 a3 a4 a5 g h j a9 a b a12 c d e f)=q4w a0 i a2 a3 a4 a5 g h j a9 a b a12 c d e f:=by kernel_rfl
end Go.Proofs.YtpdphcekmhajdaaGreatDoor
