import Derived.Test.YtpgchdcifbaioaaGreatDoorCts
namespace Go.Proofs.YtpgchdcifbaioaaGreatDoor
open Go Go.E2 Go.E3
set_option maxRecDepth 100000
variable {sp:Nat->Option (List V->Heap->Option (CR×Heap))}
def zq (a0:ZB) (i:Int) (j:Int) (k:Int) (l:Int) (m:Bool) (n:Int) (o:Bool) (p:Bool) (q:Int) (r:Int) (a:Int) (b:Int) (c:Bool) (d:Int) (e:Int) (f:Int) (g:Int) (h:Int):Prop:=
((i:Int)=(((zl a0).1).Kind))/\
((j:Int)=(((zl a0).1).Value))/\
((k:Int)=(((zl a0).1).Place))/\
((l:Int)=(((zl a0).1).Acc))/\
(m=(((zl a0).1).Color))/\
((n:Int)=(((zl a0).1).Stem))/\
(o=(((zl a0).1).Oblique))/\
(p=(((zl a0).1).Last))/\
((q:Int)=(((zl a0).1).MensMax))/\
((r:Int)=(((zl a0).1).MensMod))/\
((a:Int)=(((zl a0).1).MensTem))/\
((b:Int)=(((zl a0).1).MensPro))/\
(c=(((zl a0).1).Stroke))/\
((d:Int)=(((zl a0).1).N))/\
((e:Int)=(((zl a0).1).D))/\
((f:Int)=(((zl a0).1).ClefStep))/\
((g:Int)=(((zl a0).1).ClefLine))/\
((h:Int)=((zl a0).2))/\
 True
def zmc:List (Nat×Ct KT):=[(17,qrx),(64,zss),(65,zst),(91,zy7),(94,zy8),(95,zy9),(63,zm8),(45,zsq)]
abbrev q5m (a0:ZB):PV KT:=.tuple [.agg [.int .i64 none ((((zl a0).1).Kind)),.int .i64 none ((((zl a0).1).Value)),.int .i64 none ((((zl a0).1).Place)),.int .i64 none ((((zl a0).1).Acc)),.sb 0 false ((((zl a0).1).Color)) ((((zl a0).1).Color)=true) ((((zl a0).1).Color)=false),.int .i64 none ((((zl a0).1).Stem)),.sb 0 false ((((zl a0).1).Oblique)) ((((zl a0).1).Oblique)=true) ((((zl a0).1).Oblique)=false),.sb 0 false ((((zl a0).1).Last)) ((((zl a0).1).Last)=true) ((((zl a0).1).Last)=false),.int .i64 none ((((zl a0).1).MensMax)),.int .i64 none ((((zl a0).1).MensMod)),.int .i64 none ((((zl a0).1).MensTem)),.int .i64 none ((((zl a0).1).MensPro)),.sb 0 false ((((zl a0).1).Stroke)) ((((zl a0).1).Stroke)=true) ((((zl a0).1).Stroke)=false),.int .i64 none ((((zl a0).1).N)),.int .i64 none ((((zl a0).1).D)),.int .i64 none ((((zl a0).1).ClefStep)),.int .i64 none ((((zl a0).1).ClefLine))],.int .i64 none (((zl a0).2))]
abbrev qlo (v0:ZB) (v1:Bool) (v2:Int) (p:Prop):Prop:=
(v0=v0)/\
(v1=v1)/\
((v2:Int)=v2)/\
(([]:ZB)=([]:ZB))/\
 p
abbrev qpw (v0:ZB) (v1:Bool) (v2:Int) (v3:ZB) (v4:Int) (v5:Int) (p:Prop):Prop:=
(v0=v0)/\
(v1=v1)/\
((v2:Int)=v2)/\
((((qan (v3++(sub v0 v4 v5))).1):Int)=((qan (v3++(sub v0 v4 v5))).1))/\
(([]:ZB)=([]:ZB))/\
 p
abbrev qhs (v0:ZB) (p:Prop):Prop:=
(v0=v0)/\
(([116]:ZB)=([116]:ZB))/\
 p
abbrev qpx (v0:ZB) (v1:Bool) (v2:ZB) (v3:Int) (v4:Int) (p:Prop):Prop:=
(v0=v0)/\
(v1=v1)/\
((((qan (v2++(sub v0 v3 v4))).1):Int)=((qan (v2++(sub v0 v3 v4))).1))/\
(([116]:ZB)=([116]:ZB))/\
 p
abbrev qpy (v0:ZB) (v1:Bool) (v2:Int) (v3:Int) (v4:Bool) (p:Prop):Prop:=
(v0=v0)/\
(v1=v1)/\
((v2:Int)=v2)/\
((v3:Int)=v3)/\
(v4=v4)/\
(([116]:ZB)=([116]:ZB))/\
 p
abbrev qpz (v0:ZB) (v1:Bool) (v2:Int) (p:Prop):Prop:=
(v0=v0)/\
(v1=v1)/\
((((qz (sub v0 (0+(ln ([]:ZB))) v2)).1):Int)=((qz (sub v0 (0+(ln ([]:ZB))) v2)).1))/\
(([]:ZB)=([]:ZB))/\
 p
abbrev q0d (a0:ZB):Prop:=
 let s:=preB (fr a0 0) ([]:ZB);
 let t:=sub ([32,94,118,62]:ZB) 3 4;
 let u:=sub ([32,94,118,62]:ZB) 2 3;
 let v:=sub ([32,94,118,62]:ZB) 1 2;
 let i:=0+(ln ([40]:ZB));
 let j:=0+(ln ([116]:ZB));
 let e:=0+(ln ([114]:ZB));
 let f:=0+(ln ([93]:ZB));
 let g:=0+(ln ([38]:ZB));
 let b:=0+(ln ([64]:ZB));
 let a:=0+(ln ([]:ZB));
 let h:=i+(if (qtf (fr a0 i) 41) > 0 then (qtf (fr a0 i) 41) else 0);
 let p:=h+(ln ([41]:ZB));
 let d:=qab (sub a0 i h);
(λx:Int=>
(λy:Int=>
((qc a0 0)/\
 True)/\
(qc a0 0->
(((0:Int)<=0/\0<=ln a0)/\
(True)/\
((s=true->
(I64 a)/\
((jg a0 0 a)/\
(∀ x2:Int,
 let w:=sub ([88,76,66,83,77,81,70,90]:ZB) x2 (x2+1);
(jg a0 x2 a->
((x2<8->
(I64 (x2+1))/\
((0:Int)<=x2/\(x2:Int)<=(x2+1)/\(x2+1)<=ln ([88,76,66,83,77,81,70,90]:ZB))/\
((0:Int)<=a/\a<=ln a0)/\
(True)/\
(((preB (fr a0 a) w)=true->
(I64 (a+(ln w)))/\
(I64 (x2+1))/\
(a0=a0)/\
(([]:ZB)=([]:ZB))/\
(qcx a0 (a+(ln w)) false (x2+1))/\
 True))/\
((preB (fr a0 a) w)=false->
(I64 (x2+1))/\
(a0=a0)/\
((a:Int)=a)/\
(([]:ZB)=([]:ZB))/\
(jg a0 (x2+1) a)/\
 qdl a0 (x2+1) a<qdl a0 x2 a)))/\
(8<=x2->
(a0=a0)/\
(([]:ZB)=([]:ZB))/\
(qcx a0 a true 0)/\
 True))))/\
(∀ x2:Int,
(∀ x3:Bool,
(∀ x4:Int,
(qcx a0 x2 x3 x4->
(((0:Int)<=x2/\x2<=ln a0)/\
(True)/\
(((preB (fr a0 x2) ([45]:ZB))=true->
(I64 (x2+(ln ([45]:ZB))))/\
(qlo a0 x3 x4 (
(qal a0 ([45]:ZB) (x2+(ln ([45]:ZB))) x2)/\
 True))))/\
((preB (fr a0 x2) ([45]:ZB))=false->
(qlo a0 x3 x4 (
(qal a0 ([]:ZB) x2 x2)/\
 True))))/\
(∀ x6:ZB,
(∀ x7:Int,
(qal a0 x6 x7 x2->
((zj a0 x7 x7)/\
(∀ x9:Int,
(zj a0 x9 x7->
((x9<(ln a0)->
(Wn x9 (ln a0))/\
((48<=(bx a0 x9)->
(Wn x9 (ln a0))/\
(((bx a0 x9)<=57->
(I64 (x9+1))/\
(qlo a0 x3 x4 (
(zj a0 (x9+1) x7)/\
 ku a0 (x9+1) x7<ku a0 x9 x7))))/\
(57<(bx a0 x9)->
(qlo a0 x3 x4 (
(qp a0 x9 x7)/\
 True)))))/\
((bx a0 x9)<48->
(qlo a0 x3 x4 (
(qp a0 x9 x7)/\
 True)))))/\
((ln a0)<=x9->
(qlo a0 x3 x4 (
(qp a0 x9 x7)/\
 True))))))/\
(∀ x9:Int,
 let m:=qan (x6++(sub a0 x7 x9));
(qp a0 x9 x7->
((0:Int)<=x7/\(x7:Int)<=x9/\x9<=ln a0)/\
(qh (List.length x6+List.length (sub a0 x7 x9)))/\
((ln (x6++(sub a0 x7 x9))<=1000000))/\
(((x3=true->
(a0=a0)/\
((x9:Int)=x9)/\
((x4:Int)=x4)/\
(([]:ZB)=([]:ZB))/\
(qdj a0 true x3 (m.2))/\
 True))/\
(x3=false->
(a0=a0)/\
((x9:Int)=x9)/\
((x4:Int)=x4)/\
(([]:ZB)=([]:ZB))/\
(qdj a0 (!(m.2)) x3 (m.2))/\
 True))/\
(∀ x11:Bool,
(qdj a0 x11 x3 (m.2)->
(((0:Int)<=x9/\x9<=ln a0)/\
(True)/\
(((preB (fr a0 x9) ([98]:ZB))=true->
(I64 (x9+(ln ([98]:ZB))))/\
(qpw a0 x11 x4 x6 x7 x9 (
(kg a0 (x9+(ln ([98]:ZB))) (-1) x9)/\
 True))))/\
((preB (fr a0 x9) ([98]:ZB))=false->
((0:Int)<=x9/\x9<=ln a0)/\
(True)/\
(((preB (fr a0 x9) ([35]:ZB))=true->
(I64 (x9+(ln ([35]:ZB))))/\
(qpw a0 x11 x4 x6 x7 x9 (
(kg a0 (x9+(ln ([35]:ZB))) 1 x9)/\
 True))))/\
((preB (fr a0 x9) ([35]:ZB))=false->
((0:Int)<=x9/\x9<=ln a0)/\
(True)/\
(((preB (fr a0 x9) ([110]:ZB))=true->
(I64 (x9+(ln ([110]:ZB))))/\
(qpw a0 x11 x4 x6 x7 x9 (
(kg a0 (x9+(ln ([110]:ZB))) 2 x9)/\
 True))))/\
((preB (fr a0 x9) ([110]:ZB))=false->
(qpw a0 x11 x4 x6 x7 x9 (
(kg a0 x9 0 x9)/\
 True))))))/\
(∀ x13:Int,
(∀ x14:Int,
(kg a0 x13 x14 x9->
((0:Int)<=x13/\x13<=ln a0)/\
(True)/\
(((preB (fr a0 x13) ([42]:ZB))=true->
(I64 (x13+(ln ([42]:ZB))))/\
((x11=true->
(qc a0 1)/\
 True))/\
(x11=false->
(((x13+(ln ([42]:ZB)))≠(ln a0)->
(qc a0 1)/\
 True))/\
((x13+(ln ([42]:ZB)))=(ln a0)->
(True)/\
(((zg (Sign.mk 1 x4 (m.1) x14 true 0 false false 0 0 0 0 false 0 0 0 0))≠0->
 zq a0 0 0 0 0 false 0 false false 0 0 0 0 false 0 0 0 0 (zg (Sign.mk 1 x4 (m.1) x14 true 0 false false 0 0 0 0 false 0 0 0 0))))/\
((zg (Sign.mk 1 x4 (m.1) x14 true 0 false false 0 0 0 0 false 0 0 0 0))=0->
 zq a0 1 x4 (m.1) x14 true 0 false false 0 0 0 0 false 0 0 0 0 0)))))/\
((preB (fr a0 x13) ([42]:ZB))=false->
((x11=true->
(qc a0 1)/\
 True))/\
(x11=false->
((x13≠(ln a0)->
(qc a0 1)/\
 True))/\
(x13=(ln a0)->
(True)/\
(((zg (Sign.mk 1 x4 (m.1) x14 false 0 false false 0 0 0 0 false 0 0 0 0))≠0->
 zq a0 0 0 0 0 false 0 false false 0 0 0 0 false 0 0 0 0 (zg (Sign.mk 1 x4 (m.1) x14 false 0 false false 0 0 0 0 false 0 0 0 0))))/\
((zg (Sign.mk 1 x4 (m.1) x14 false 0 false false 0 0 0 0 false 0 0 0 0))=0->
 zq a0 1 x4 (m.1) x14 false 0 false false 0 0 0 0 false 0 0 0 0 0))))))))))))))))))))/\
(s=false->
(qc a0 1)/\
 True))/\
(qc a0 1->
(((0:Int)<=0/\0<=ln a0)/\
(True)/\
(((preB (fr a0 0) ([114]:ZB))=true->
(I64 e)/\
(jg a0 0 e)/\
(∀ x3:Int,
 let q:=sub ([88,76,66,83,77,81,70,90]:ZB) x3 (x3+1);
(jg a0 x3 e->
((x3<8->
(I64 (x3+1))/\
((0:Int)<=x3/\(x3:Int)<=(x3+1)/\(x3+1)<=ln ([88,76,66,83,77,81,70,90]:ZB))/\
((0:Int)<=e/\e<=ln a0)/\
(True)/\
(((preB (fr a0 e) q)=true->
(I64 (e+(ln q)))/\
(I64 (x3+1))/\
(((e+(ln q))≠(ln a0)->
(qc a0 2)/\
 True))/\
((e+(ln q))=(ln a0)->
(True)/\
(((zg (Sign.mk 2 (x3+1) 0 0 false 0 false false 0 0 0 0 false 0 0 0 0))≠0->
 zq a0 0 0 0 0 false 0 false false 0 0 0 0 false 0 0 0 0 (zg (Sign.mk 2 (x3+1) 0 0 false 0 false false 0 0 0 0 false 0 0 0 0))))/\
((zg (Sign.mk 2 (x3+1) 0 0 false 0 false false 0 0 0 0 false 0 0 0 0))=0->
 zq a0 2 (x3+1) 0 0 false 0 false false 0 0 0 0 false 0 0 0 0 0))))/\
((preB (fr a0 e) q)=false->
(I64 (x3+1))/\
(a0=a0)/\
((e:Int)=e)/\
(([114]:ZB)=([114]:ZB))/\
(jg a0 (x3+1) e)/\
 qdl a0 (x3+1) e<qdl a0 x3 e)))/\
(8<=x3->
(qc a0 2)/\
 True)))))/\
((preB (fr a0 0) ([114]:ZB))=false->
(qc a0 2)/\
 True))/\
(qc a0 2->
(((0:Int)<=0/\0<=ln a0)/\
(True)/\
(((preB (fr a0 0) ([46]:ZB))=true->
(I64 (0+(ln ([46]:ZB))))/\
(((0+(ln ([46]:ZB)))≠(ln a0)->
(qc a0 3)/\
 True))/\
((0+(ln ([46]:ZB)))=(ln a0)->
(True)/\
(((zg (Sign.mk 3 0 0 0 false 0 false false 0 0 0 0 false 0 0 0 0))≠0->
 zq a0 0 0 0 0 false 0 false false 0 0 0 0 false 0 0 0 0 (zg (Sign.mk 3 0 0 0 false 0 false false 0 0 0 0 false 0 0 0 0))))/\
((zg (Sign.mk 3 0 0 0 false 0 false false 0 0 0 0 false 0 0 0 0))=0->
 zq a0 3 0 0 0 false 0 false false 0 0 0 0 false 0 0 0 0 0))))/\
((preB (fr a0 0) ([46]:ZB))=false->
(qc a0 3)/\
 True))/\
(qc a0 3->
(((0:Int)<=0/\0<=ln a0)/\
(True)/\
(((preB (fr a0 0) ([116]:ZB))=true->
(I64 j)/\
((((0:Int)<=j/\j<=ln a0)/\
(True)/\
(((preB (fr a0 j) ([45]:ZB))=true->
(I64 (j+(ln ([45]:ZB))))/\
(qhs a0 (
(qal a0 ([45]:ZB) (j+(ln ([45]:ZB))) j)/\
 True))))/\
((preB (fr a0 j) ([45]:ZB))=false->
(qhs a0 (
(qal a0 ([]:ZB) j j)/\
 True))))/\
(∀ x5:ZB,
(∀ x6:Int,
(qal a0 x5 x6 j->
((zj a0 x6 x6)/\
(∀ x8:Int,
(zj a0 x8 x6->
((x8<(ln a0)->
(Wn x8 (ln a0))/\
((48<=(bx a0 x8)->
(Wn x8 (ln a0))/\
(((bx a0 x8)<=57->
(I64 (x8+1))/\
(qhs a0 (
(zj a0 (x8+1) x6)/\
 ku a0 (x8+1) x6<ku a0 x8 x6))))/\
(57<(bx a0 x8)->
(qhs a0 (
(qp a0 x8 x6)/\
 True)))))/\
((bx a0 x8)<48->
(qhs a0 (
(qp a0 x8 x6)/\
 True)))))/\
((ln a0)<=x8->
(qhs a0 (
(qp a0 x8 x6)/\
 True))))))/\
(∀ x8:Int,
 let r:=qan (x5++(sub a0 x6 x8));
(qp a0 x8 x6->
((0:Int)<=x6/\(x6:Int)<=x8/\x8<=ln a0)/\
(qh (List.length x5+List.length (sub a0 x6 x8)))/\
((ln (x5++(sub a0 x6 x8))<=1000000))/\
((a0=a0)/\
((x8:Int)=x8)/\
(([116]:ZB)=([116]:ZB))/\
(qdj a0 (!(r.2)) false (r.2))/\
 True)/\
(∀ x10:Bool,
(qdj a0 x10 false (r.2)->
(((0:Int)<=x8/\x8<=ln a0)/\
(True)/\
(((preB (fr a0 x8) ([98]:ZB))=true->
(I64 (x8+(ln ([98]:ZB))))/\
(qpx a0 x10 x5 x6 x8 (
(kg a0 (x8+(ln ([98]:ZB))) (-1) x8)/\
 True))))/\
((preB (fr a0 x8) ([98]:ZB))=false->
((0:Int)<=x8/\x8<=ln a0)/\
(True)/\
(((preB (fr a0 x8) ([35]:ZB))=true->
(I64 (x8+(ln ([35]:ZB))))/\
(qpx a0 x10 x5 x6 x8 (
(kg a0 (x8+(ln ([35]:ZB))) 1 x8)/\
 True))))/\
((preB (fr a0 x8) ([35]:ZB))=false->
((0:Int)<=x8/\x8<=ln a0)/\
(True)/\
(((preB (fr a0 x8) ([110]:ZB))=true->
(I64 (x8+(ln ([110]:ZB))))/\
(qpx a0 x10 x5 x6 x8 (
(kg a0 (x8+(ln ([110]:ZB))) 2 x8)/\
 True))))/\
((preB (fr a0 x8) ([110]:ZB))=false->
(qpx a0 x10 x5 x6 x8 (
(kg a0 x8 0 x8)/\
 True))))))/\
(∀ x12:Int,
(∀ x13:Int,
(kg a0 x12 x13 x8->
((0:Int)<=x12/\x12<=ln a0)/\
(True)/\
(((preB (fr a0 x12) ([42]:ZB))=true->
(I64 (x12+(ln ([42]:ZB))))/\
(qhs a0 (
(qdk a0 (x12+(ln ([42]:ZB))) x10 (r.1) x13 true j false)/\
 True))))/\
((preB (fr a0 x12) ([42]:ZB))=false->
(qhs a0 (
(qdk a0 x12 x10 (r.1) x13 false j false)/\
 True))))))))))))))/\
(∀ x5:Int,
(∀ x6:Bool,
(∀ x7:Int,
(∀ x8:Int,
(∀ x9:Bool,
(qdk a0 x5 x6 x7 x8 x9 j false->
(((0:Int)<=1/\(1:Int)<=2/\2<=ln ([32,94,118,62]:ZB))/\
((0:Int)<=x5/\x5<=ln a0)/\
(True)/\
(((preB (fr a0 x5) v)=true->
(I64 (x5+(ln v)))/\
(qpy a0 x6 x7 x8 x9 (
(qaw a0 (x5+(ln v)) 1 x5)/\
 True))))/\
((preB (fr a0 x5) v)=false->
((0:Int)<=2/\(2:Int)<=3/\3<=ln ([32,94,118,62]:ZB))/\
((0:Int)<=x5/\x5<=ln a0)/\
(True)/\
(((preB (fr a0 x5) u)=true->
(I64 (x5+(ln u)))/\
(qpy a0 x6 x7 x8 x9 (
(qaw a0 (x5+(ln u)) 2 x5)/\
 True))))/\
((preB (fr a0 x5) u)=false->
((0:Int)<=3/\(3:Int)<=4/\4<=ln ([32,94,118,62]:ZB))/\
((0:Int)<=x5/\x5<=ln a0)/\
(True)/\
(((preB (fr a0 x5) t)=true->
(I64 (x5+(ln t)))/\
(qpy a0 x6 x7 x8 x9 (
(qaw a0 (x5+(ln t)) 3 x5)/\
 True))))/\
((preB (fr a0 x5) t)=false->
(qpy a0 x6 x7 x8 x9 (
(qaw a0 x5 0 x5)/\
 True))))))/\
(∀ x11:Int,
(∀ x12:Int,
(qaw a0 x11 x12 x5->
(((0:Int)<=x11/\x11<=ln a0)/\
(True)/\
(((preB (fr a0 x11) ([126]:ZB))=true->
(I64 (x11+(ln ([126]:ZB))))/\
(a0=a0)/\
(x6=x6)/\
((x7:Int)=x7)/\
((x8:Int)=x8)/\
(x9=x9)/\
((x12:Int)=x12)/\
(([116]:ZB)=([116]:ZB))/\
(qbt a0 (x11+(ln ([126]:ZB))) true x11)/\
 True))/\
((preB (fr a0 x11) ([126]:ZB))=false->
(a0=a0)/\
(x6=x6)/\
((x7:Int)=x7)/\
((x8:Int)=x8)/\
(x9=x9)/\
((x12:Int)=x12)/\
(([116]:ZB)=([116]:ZB))/\
(qbt a0 x11 false x11)/\
 True))/\
(∀ x14:Int,
(∀ x15:Bool,
(qbt a0 x14 x15 x11->
((0:Int)<=x14/\x14<=ln a0)/\
(True)/\
(((preB (fr a0 x14) ([33]:ZB))=true->
(I64 (x14+(ln ([33]:ZB))))/\
((x6=true->
(qc a0 4)/\
 True))/\
(x6=false->
(((x14+(ln ([33]:ZB)))≠(ln a0)->
(qc a0 4)/\
 True))/\
((x14+(ln ([33]:ZB)))=(ln a0)->
(True)/\
(((zg (Sign.mk 4 0 x7 x8 x9 x12 x15 true 0 0 0 0 false 0 0 0 0))≠0->
 zq a0 0 0 0 0 false 0 false false 0 0 0 0 false 0 0 0 0 (zg (Sign.mk 4 0 x7 x8 x9 x12 x15 true 0 0 0 0 false 0 0 0 0))))/\
((zg (Sign.mk 4 0 x7 x8 x9 x12 x15 true 0 0 0 0 false 0 0 0 0))=0->
 zq a0 4 0 x7 x8 x9 x12 x15 true 0 0 0 0 false 0 0 0 0 0)))))/\
((preB (fr a0 x14) ([33]:ZB))=false->
((x6=true->
(qc a0 4)/\
 True))/\
(x6=false->
((x14≠(ln a0)->
(qc a0 4)/\
 True))/\
(x14=(ln a0)->
(True)/\
(((zg (Sign.mk 4 0 x7 x8 x9 x12 x15 false 0 0 0 0 false 0 0 0 0))≠0->
 zq a0 0 0 0 0 false 0 false false 0 0 0 0 false 0 0 0 0 (zg (Sign.mk 4 0 x7 x8 x9 x12 x15 false 0 0 0 0 false 0 0 0 0))))/\
((zg (Sign.mk 4 0 x7 x8 x9 x12 x15 false 0 0 0 0 false 0 0 0 0))=0->
 zq a0 4 0 x7 x8 x9 x12 x15 false 0 0 0 0 false 0 0 0 0 0))))))))))))))))))/\
((preB (fr a0 0) ([116]:ZB))=false->
(qc a0 4)/\
 True))/\
(qc a0 4->
(((0:Int)<=0/\0<=ln a0)/\
(True)/\
(((preB (fr a0 0) ([40]:ZB))=true->
(I64 i)/\
((0:Int)<=i/\i<=ln a0)/\
((U8 41))/\
(I64 h)/\
((0:Int)<=i/\(i:Int)<=h/\h<=ln a0)/\
(True)/\
(I64 h)/\
((0:Int)<=h/\h<=ln a0)/\
(True)/\
(((preB (fr a0 h) ([41]:ZB))=true->
(I64 p)/\
((0:Int)<=p/\p<=ln a0)/\
(True)/\
(((preB (fr a0 p) ([124]:ZB))=true->
(I64 (p+(ln ([124]:ZB))))/\
(((d.2)≠0->
(qc a0 5)/\
 True))/\
((d.2)=0->
(((p+(ln ([124]:ZB)))≠(ln a0)->
(qc a0 5)/\
 True))/\
((p+(ln ([124]:ZB)))=(ln a0)->
(True)/\
((x≠0->
 zq a0 0 0 0 0 false 0 false false 0 0 0 0 false 0 0 0 0 x))/\
(x=0->
 zq a0 5 0 0 0 false 0 false false (d.1.1) (d.1.2.1) (d.1.2.2.1) (d.1.2.2.2) true 0 0 0 0 0)))))/\
((preB (fr a0 p) ([124]:ZB))=false->
(((d.2)≠0->
(qc a0 5)/\
 True))/\
((d.2)=0->
((p≠(ln a0)->
(qc a0 5)/\
 True))/\
(p=(ln a0)->
(True)/\
((y≠0->
 zq a0 0 0 0 0 false 0 false false 0 0 0 0 false 0 0 0 0 y))/\
(y=0->
 zq a0 5 0 0 0 false 0 false false (d.1.1) (d.1.2.1) (d.1.2.2.1) (d.1.2.2.2) false 0 0 0 0 0))))))/\
((preB (fr a0 h) ([41]:ZB))=false->
((0:Int)<=h/\h<=ln a0)/\
(True)/\
(((preB (fr a0 h) ([124]:ZB))=true->
(I64 (h+(ln ([124]:ZB))))/\
(qc a0 5)/\
 True))/\
((preB (fr a0 h) ([124]:ZB))=false->
(qc a0 5)/\
 True))))/\
((preB (fr a0 0) ([40]:ZB))=false->
(qc a0 5)/\
 True))/\
(qc a0 5->
(((0:Int)<=0/\0<=ln a0)/\
(True)/\
((s=true->
(I64 a)/\
((zj a0 a a)/\
(∀ x7:Int,
(zj a0 x7 a->
((x7<(ln a0)->
(Wn x7 (ln a0))/\
((48<=(bx a0 x7)->
(Wn x7 (ln a0))/\
(((bx a0 x7)<=57->
(I64 (x7+1))/\
(a0=a0)/\
(([]:ZB)=([]:ZB))/\
(zj a0 (x7+1) a)/\
 ku a0 (x7+1) a<ku a0 x7 a))/\
(57<(bx a0 x7)->
(a0=a0)/\
(([]:ZB)=([]:ZB))/\
(qp a0 x7 a)/\
 True)))/\
((bx a0 x7)<48->
(a0=a0)/\
(([]:ZB)=([]:ZB))/\
(qp a0 x7 a)/\
 True)))/\
((ln a0)<=x7->
(a0=a0)/\
(([]:ZB)=([]:ZB))/\
(qp a0 x7 a)/\
 True))))/\
(∀ x7:Int,
 let c:=qz (sub a0 a x7);
(qp a0 x7 a->
((0:Int)<=a/\(a:Int)<=x7/\x7<=ln a0)/\
((ln (sub a0 a x7)<=1000000))/\
((a0=a0)/\
((x7:Int)=x7)/\
(([]:ZB)=([]:ZB))/\
(qac a0 (!(c.2)) false (c.2))/\
 True)/\
(∀ x9:Bool,
(qac a0 x9 false (c.2)->
(((0:Int)<=x7/\x7<=ln a0)/\
(True)/\
(((preB (fr a0 x7) ([47]:ZB))=true->
(I64 (x7+(ln ([47]:ZB))))/\
(a0=a0)/\
(((c.1):Int)=(c.1))/\
(([]:ZB)=([]:ZB))/\
(qbu a0 (x7+(ln ([47]:ZB))) x9 x7 x9)/\
 True))/\
((preB (fr a0 x7) ([47]:ZB))=false->
(a0=a0)/\
(((c.1):Int)=(c.1))/\
(([]:ZB)=([]:ZB))/\
(qbu a0 x7 true x7 x9)/\
 True))/\
(∀ x11:Int,
(∀ x12:Bool,
(qbu a0 x11 x12 x7 x9->
((zj a0 x11 x11)/\
(∀ x14:Int,
(zj a0 x14 x11->
((x14<(ln a0)->
(Wn x14 (ln a0))/\
((48<=(bx a0 x14)->
(Wn x14 (ln a0))/\
(((bx a0 x14)<=57->
(I64 (x14+1))/\
(qpz a0 x12 x7 (
(zj a0 (x14+1) x11)/\
 ku a0 (x14+1) x11<ku a0 x14 x11))))/\
(57<(bx a0 x14)->
(qpz a0 x12 x7 (
(qp a0 x14 x11)/\
 True)))))/\
((bx a0 x14)<48->
(qpz a0 x12 x7 (
(qp a0 x14 x11)/\
 True)))))/\
((ln a0)<=x14->
(qpz a0 x12 x7 (
(qp a0 x14 x11)/\
 True))))))/\
(∀ x14:Int,
 let k:=qz (sub a0 x11 x14);
(qp a0 x14 x11->
((0:Int)<=x11/\(x11:Int)<=x14/\x14<=ln a0)/\
((ln (sub a0 x11 x14)<=1000000))/\
(((x12=true->
(a0=a0)/\
((x14:Int)=x14)/\
(((c.1):Int)=(c.1))/\
(([]:ZB)=([]:ZB))/\
(qac a0 true x12 (k.2))/\
 True))/\
(x12=false->
(a0=a0)/\
((x14:Int)=x14)/\
(((c.1):Int)=(c.1))/\
(([]:ZB)=([]:ZB))/\
(qac a0 (!(k.2)) x12 (k.2))/\
 True))/\
(∀ x16:Bool,
(qac a0 x16 x12 (k.2)->
((x16=true->
(qc a0 6)/\
 True))/\
(x16=false->
((x14≠(ln a0)->
(qc a0 6)/\
 True))/\
(x14=(ln a0)->
(True)/\
(((zg (Sign.mk 6 0 0 0 false 0 false false 0 0 0 0 false (c.1) (k.1) 0 0))≠0->
 zq a0 0 0 0 0 false 0 false false 0 0 0 0 false 0 0 0 0 (zg (Sign.mk 6 0 0 0 false 0 false false 0 0 0 0 false (c.1) (k.1) 0 0))))/\
((zg (Sign.mk 6 0 0 0 false 0 false false 0 0 0 0 false (c.1) (k.1) 0 0))=0->
 zq a0 6 0 0 0 false 0 false false 0 0 0 0 false (c.1) (k.1) 0 0 0))))))))))))))))/\
(s=false->
(qc a0 6)/\
 True))/\
(qc a0 6->
(((0:Int)<=0/\0<=ln a0)/\
(True)/\
(((preB (fr a0 0) ([64]:ZB))=true->
(I64 b)/\
(((0:Int)<=b/\b<=ln a0)/\
(True)/\
(((preB (fr a0 b) ([67]:ZB))=true->
(I64 (b+(ln ([67]:ZB))))/\
(a0=a0)/\
(([64]:ZB)=([64]:ZB))/\
(qaf a0 (b+(ln ([67]:ZB))) false 0 b)/\
 True))/\
((preB (fr a0 b) ([67]:ZB))=false->
((0:Int)<=b/\b<=ln a0)/\
(True)/\
(((preB (fr a0 b) ([70]:ZB))=true->
(I64 (b+(ln ([70]:ZB))))/\
(a0=a0)/\
(([64]:ZB)=([64]:ZB))/\
(qaf a0 (b+(ln ([70]:ZB))) false 3 b)/\
 True))/\
((preB (fr a0 b) ([70]:ZB))=false->
((0:Int)<=b/\b<=ln a0)/\
(True)/\
(((preB (fr a0 b) ([71]:ZB))=true->
(I64 (b+(ln ([71]:ZB))))/\
(a0=a0)/\
(([64]:ZB)=([64]:ZB))/\
(qaf a0 (b+(ln ([71]:ZB))) false 4 b)/\
 True))/\
((preB (fr a0 b) ([71]:ZB))=false->
(a0=a0)/\
(([64]:ZB)=([64]:ZB))/\
(qaf a0 b true 0 b)/\
 True))))/\
(∀ x8:Int,
(∀ x9:Bool,
(∀ x10:Int,
(qaf a0 x8 x9 x10 b->
((zj a0 x8 x8)/\
(∀ x12:Int,
(zj a0 x12 x8->
((x12<(ln a0)->
(Wn x12 (ln a0))/\
((48<=(bx a0 x12)->
(Wn x12 (ln a0))/\
(((bx a0 x12)<=57->
(I64 (x12+1))/\
(a0=a0)/\
(x9=x9)/\
((x10:Int)=x10)/\
(([64]:ZB)=([64]:ZB))/\
(zj a0 (x12+1) x8)/\
 ku a0 (x12+1) x8<ku a0 x12 x8))/\
(57<(bx a0 x12)->
(a0=a0)/\
(x9=x9)/\
((x10:Int)=x10)/\
(([64]:ZB)=([64]:ZB))/\
(qp a0 x12 x8)/\
 True)))/\
((bx a0 x12)<48->
(a0=a0)/\
(x9=x9)/\
((x10:Int)=x10)/\
(([64]:ZB)=([64]:ZB))/\
(qp a0 x12 x8)/\
 True)))/\
((ln a0)<=x12->
(a0=a0)/\
(x9=x9)/\
((x10:Int)=x10)/\
(([64]:ZB)=([64]:ZB))/\
(qp a0 x12 x8)/\
 True))))/\
(∀ x12:Int,
 let l:=qz (sub a0 x8 x12);
(qp a0 x12 x8->
((0:Int)<=x8/\(x8:Int)<=x12/\x12<=ln a0)/\
((ln (sub a0 x8 x12)<=1000000))/\
(((x9=true->
(a0=a0)/\
((x12:Int)=x12)/\
((x10:Int)=x10)/\
(([64]:ZB)=([64]:ZB))/\
(qac a0 true x9 (l.2))/\
 True))/\
(x9=false->
(a0=a0)/\
((x12:Int)=x12)/\
((x10:Int)=x10)/\
(([64]:ZB)=([64]:ZB))/\
(qac a0 (!(l.2)) x9 (l.2))/\
 True))/\
(∀ x14:Bool,
(qac a0 x14 x9 (l.2)->
((x14=true->
(qc a0 7)/\
 True))/\
(x14=false->
((x12≠(ln a0)->
(qc a0 7)/\
 True))/\
(x12=(ln a0)->
(True)/\
(((zg (Sign.mk 7 0 0 0 false 0 false false 0 0 0 0 false 0 0 x10 (l.1)))≠0->
 zq a0 0 0 0 0 false 0 false false 0 0 0 0 false 0 0 0 0 (zg (Sign.mk 7 0 0 0 false 0 false false 0 0 0 0 false 0 0 x10 (l.1)))))/\
((zg (Sign.mk 7 0 0 0 false 0 false false 0 0 0 0 false 0 0 x10 (l.1)))=0->
 zq a0 7 0 0 0 false 0 false false 0 0 0 0 false 0 0 x10 (l.1) 0)))))))))))))/\
((preB (fr a0 0) ([64]:ZB))=false->
(qc a0 7)/\
 True))/\
(qc a0 7->
(((0:Int)<=0/\0<=ln a0)/\
(True)/\
(((preB (fr a0 0) ([38]:ZB))=true->
(I64 g)/\
((zj a0 g g)/\
(∀ x9:Int,
(zj a0 x9 g->
((x9<(ln a0)->
(Wn x9 (ln a0))/\
((48<=(bx a0 x9)->
(Wn x9 (ln a0))/\
(((bx a0 x9)<=57->
(I64 (x9+1))/\
(a0=a0)/\
(([38]:ZB)=([38]:ZB))/\
(zj a0 (x9+1) g)/\
 ku a0 (x9+1) g<ku a0 x9 g))/\
(57<(bx a0 x9)->
(a0=a0)/\
(([38]:ZB)=([38]:ZB))/\
(qp a0 x9 g)/\
 True)))/\
((bx a0 x9)<48->
(a0=a0)/\
(([38]:ZB)=([38]:ZB))/\
(qp a0 x9 g)/\
 True)))/\
((ln a0)<=x9->
(a0=a0)/\
(([38]:ZB)=([38]:ZB))/\
(qp a0 x9 g)/\
 True))))/\
(∀ x9:Int,
 let n:=qz (sub a0 g x9);
(qp a0 x9 g->
((0:Int)<=g/\(g:Int)<=x9/\x9<=ln a0)/\
((ln (sub a0 g x9)<=1000000))/\
((a0=a0)/\
((x9:Int)=x9)/\
(([38]:ZB)=([38]:ZB))/\
(qac a0 (!(n.2)) false (n.2))/\
 True)/\
(∀ x11:Bool,
(qac a0 x11 false (n.2)->
((x11=true->
(qc a0 8)/\
 True))/\
(x11=false->
((x9≠(ln a0)->
(qc a0 8)/\
 True))/\
(x9=(ln a0)->
(True)/\
(((zg (Sign.mk 8 0 0 0 false 0 false false 0 0 0 0 false (n.1) 0 0 0))≠0->
 zq a0 0 0 0 0 false 0 false false 0 0 0 0 false 0 0 0 0 (zg (Sign.mk 8 0 0 0 false 0 false false 0 0 0 0 false (n.1) 0 0 0))))/\
((zg (Sign.mk 8 0 0 0 false 0 false false 0 0 0 0 false (n.1) 0 0 0))=0->
 zq a0 8 0 0 0 false 0 false false 0 0 0 0 false (n.1) 0 0 0 0)))))))))/\
((preB (fr a0 0) ([38]:ZB))=false->
(qc a0 8)/\
 True))/\
(qc a0 8->
(((0:Int)<=0/\0<=ln a0)/\
(True)/\
(((preB (fr a0 0) ([91]:ZB))=true->
(I64 (0+(ln ([91]:ZB))))/\
(((0+(ln ([91]:ZB)))≠(ln a0)->
(qc a0 9)/\
 True))/\
((0+(ln ([91]:ZB)))=(ln a0)->
(True)/\
(((zg (Sign.mk 9 0 0 0 false 0 false false 0 0 0 0 false 0 0 0 0))≠0->
 zq a0 0 0 0 0 false 0 false false 0 0 0 0 false 0 0 0 0 (zg (Sign.mk 9 0 0 0 false 0 false false 0 0 0 0 false 0 0 0 0))))/\
((zg (Sign.mk 9 0 0 0 false 0 false false 0 0 0 0 false 0 0 0 0))=0->
 zq a0 9 0 0 0 false 0 false false 0 0 0 0 false 0 0 0 0 0))))/\
((preB (fr a0 0) ([91]:ZB))=false->
(qc a0 9)/\
 True))/\
(qc a0 9->
(((0:Int)<=0/\0<=ln a0)/\
(True)/\
(((preB (fr a0 0) ([93]:ZB))=true->
(I64 f)/\
((zj a0 f f)/\
(∀ x11:Int,
(zj a0 x11 f->
((x11<(ln a0)->
(Wn x11 (ln a0))/\
((48<=(bx a0 x11)->
(Wn x11 (ln a0))/\
(((bx a0 x11)<=57->
(I64 (x11+1))/\
(a0=a0)/\
(([93]:ZB)=([93]:ZB))/\
(zj a0 (x11+1) f)/\
 ku a0 (x11+1) f<ku a0 x11 f))/\
(57<(bx a0 x11)->
(a0=a0)/\
(([93]:ZB)=([93]:ZB))/\
(qp a0 x11 f)/\
 True)))/\
((bx a0 x11)<48->
(a0=a0)/\
(([93]:ZB)=([93]:ZB))/\
(qp a0 x11 f)/\
 True)))/\
((ln a0)<=x11->
(a0=a0)/\
(([93]:ZB)=([93]:ZB))/\
(qp a0 x11 f)/\
 True))))/\
(∀ x11:Int,
 let o:=qz (sub a0 f x11);
(qp a0 x11 f->
((0:Int)<=f/\(f:Int)<=x11/\x11<=ln a0)/\
((ln (sub a0 f x11)<=1000000))/\
((a0=a0)/\
((x11:Int)=x11)/\
(([93]:ZB)=([93]:ZB))/\
(qac a0 (!(o.2)) false (o.2))/\
 True)/\
(∀ x13:Bool,
(qac a0 x13 false (o.2)->
((x13=true->
(qc a0 10)/\
 True))/\
(x13=false->
((x11≠(ln a0)->
(qc a0 10)/\
 True))/\
(x11=(ln a0)->
(True)/\
(((zg (Sign.mk 10 0 0 0 false 0 false false 0 0 0 0 false (o.1) 0 0 0))≠0->
 zq a0 0 0 0 0 false 0 false false 0 0 0 0 false 0 0 0 0 (zg (Sign.mk 10 0 0 0 false 0 false false 0 0 0 0 false (o.1) 0 0 0))))/\
((zg (Sign.mk 10 0 0 0 false 0 false false 0 0 0 0 false (o.1) 0 0 0))=0->
 zq a0 10 0 0 0 false 0 false false 0 0 0 0 false (o.1) 0 0 0 0)))))))))/\
((preB (fr a0 0) ([93]:ZB))=false->
(qc a0 10)/\
 True))/\
(qc a0 10->
(((0:Int)<=0/\0<=ln a0)/\
(True)/\
(((preB (fr a0 0) ([116,117,114,110]:ZB))=true->
(I64 (0+(ln ([116,117,114,110]:ZB))))/\
(((0+(ln ([116,117,114,110]:ZB)))≠(ln a0)->
(qc a0 11)/\
 True))/\
((0+(ln ([116,117,114,110]:ZB)))=(ln a0)->
(True)/\
(((zg (Sign.mk 11 0 0 0 false 0 false false 0 0 0 0 false 0 0 0 0))≠0->
 zq a0 0 0 0 0 false 0 false false 0 0 0 0 false 0 0 0 0 (zg (Sign.mk 11 0 0 0 false 0 false false 0 0 0 0 false 0 0 0 0))))/\
((zg (Sign.mk 11 0 0 0 false 0 false false 0 0 0 0 false 0 0 0 0))=0->
 zq a0 11 0 0 0 false 0 false false 0 0 0 0 false 0 0 0 0 0))))/\
((preB (fr a0 0) ([116,117,114,110]:ZB))=false->
(qc a0 11)/\
 True))/\
(qc a0 11->
(((0:Int)<=0/\0<=ln a0)/\
(True)/\
(((preB (fr a0 0) ([115,105,103]:ZB))=true->
(I64 (0+(ln ([115,105,103]:ZB))))/\
(((0+(ln ([115,105,103]:ZB)))≠(ln a0)->
(qc a0 12)/\
 True))/\
((0+(ln ([115,105,103]:ZB)))=(ln a0)->
(True)/\
(((zg (Sign.mk 12 0 0 0 false 0 false false 0 0 0 0 false 0 0 0 0))≠0->
 zq a0 0 0 0 0 false 0 false false 0 0 0 0 false 0 0 0 0 (zg (Sign.mk 12 0 0 0 false 0 false false 0 0 0 0 false 0 0 0 0))))/\
((zg (Sign.mk 12 0 0 0 false 0 false false 0 0 0 0 false 0 0 0 0))=0->
 zq a0 12 0 0 0 false 0 false false 0 0 0 0 false 0 0 0 0 0))))/\
((preB (fr a0 0) ([115,105,103]:ZB))=false->
(qc a0 12)/\
 True))/\
(qc a0 12->
 zq a0 0 0 0 0 false 0 false false 0 0 0 0 false 0 0 0 0 3)))))))))))))) (zg (Sign.mk 5 0 0 0 false 0 false false (d.1.1) (d.1.2.1) (d.1.2.2.1) (d.1.2.2.2) false 0 0 0 0))) (zg (Sign.mk 5 0 0 0 false 0 false false (d.1.1) (d.1.2.1) (d.1.2.2.1) (d.1.2.2.2) true 0 0 0 0))
theorem zqx (a0:ZB):zy (qo XK (zt zmc) (λj ns=>match j,ns with | 0,[.s a,.i c,.i d]=>qal a0 a c d | 1,[.i a,.i c]=>zj a0 a c | 2,[.i a,.i c]=>qp a0 a c | 3,[.b a,.b c,.b d]=>qac a0 a c d | 4,[.b a,.b c,.b d]=>qdj a0 a c d | 5,[.i a,.i c]=>jg a0 a c | 6,[.i a,.b c,.i d]=>qcx a0 a c d | 7,[.i a,.i c,.i d]=>kg a0 a c d | 8,[.i a,.b c,.i d,.i e,.b f,.i g,.b h]=>qdk a0 a c d e f g h | 9,[.i a,.i c,.i d]=>qaw a0 a c d | 10,[.i a,.b c,.i d]=>qbt a0 a c d | 11,[.i a,.b c,.i d,.b e]=>qbu a0 a c d e | 12,[.i a,.b c,.i d,.i e]=>qaf a0 a c d e | 13,[.i a]=>qc a0 a | _,_=>False) (λj ns=>match j,ns with | 1,[.i a,.i c]=>ku a0 a c | 5,[.i a,.i c]=>qdl a0 a c | _,_=>0)) {cfg sp with ann:=zw [(134,7,.cut 0 [.one 3 (.str),.via 0 [.keep,.int .i64,.keep]] [.via 0 [.keep,.int .i64,.keep]]),(138,28,.inv 1 [.via 0 [.keep,.int .i64,.keep]] [.one 3 (.int .i64)]),(138,7,.cut 2 [.via 0 [.keep,.int .i64,.keep]] [.one 3 (.int .i64)]),(102,7,.cut 3 [.via 0 [.keep,.keep,.bool]] [.via 0 [.keep,.keep,.bool],.one 4 (.bool)]),(134,31,.cut 4 [.via 0 [.keep,.keep,.bool]] [.via 0 [.keep,.keep,.bool],.one 5 (.bool)]),(82,26,.inv 5 [.one 4 (.int .i64)] [.via 0 [.keep,.int .i64,.keep]]),(81,1,.cut 6 [.via 0 [.keep,.int .i64,.bool],.via 1 [.keep,.int .i64,.keep,.keep,.keep,.keep,.keep,.keep,.keep,.keep,.keep,.keep,.keep,.keep,.keep,.keep,.keep]] []),(83,3,.cut 7 [.via 0 [.keep,.int .i64,.keep],.via 1 [.keep,.keep,.keep,.int .i64,.keep,.keep,.keep,.keep,.keep,.keep,.keep,.keep,.keep,.keep,.keep,.keep,.keep]] [.via 0 [.keep,.int .i64,.keep]]),(89,1,.cut 8 [.via 0 [.keep,.int .i64,.bool],.via 1 [.keep,.keep,.int .i64,.int .i64,.bool,.keep,.keep,.keep,.keep,.keep,.keep,.keep,.keep,.keep,.keep,.keep,.keep]] [.via 0 [.keep,.int .i64,.bool]]),(89,26,.unroll 4),(89,3,.cut 9 [.via 0 [.keep,.int .i64,.keep],.via 1 [.keep,.keep,.keep,.keep,.keep,.int .i64,.keep,.keep,.keep,.keep,.keep,.keep,.keep,.keep,.keep,.keep,.keep]] [.via 0 [.keep,.int .i64,.keep]]),(89,7,.cut 10 [.via 0 [.keep,.int .i64,.keep],.via 1 [.keep,.keep,.keep,.keep,.keep,.keep,.bool,.keep,.keep,.keep,.keep,.keep,.keep,.keep,.keep,.keep,.keep]] [.via 0 [.keep,.int .i64,.keep]]),(101,3,.cut 11 [.via 0 [.keep,.int .i64,.bool]] [.via 0 [.keep,.int .i64,.bool]]),(104,1,.cut 12 [.via 0 [.keep,.int .i64,.bool],.via 1 [.keep,.keep,.keep,.keep,.keep,.keep,.keep,.keep,.keep,.keep,.keep,.keep,.keep,.keep,.keep,.int .i64,.keep]] [.via 0 [.keep,.int .i64,.keep]]),(66,211,.cut 13 [] [.one 10 (.int .i64)]),(66,26,.unroll 14)],born:=λ_=>false} 10 66 [.str (a0)] (q5m a0)=q0d a0:=by kernel_rfl
variable {sp:Nat->Option (List V->Heap->Option (CR×Heap))}
def zqk:List (Nat×Ct KT):=[(76,zy6)]
abbrev za1 (a0:Int) (g:Int) (a2:Int) (a3:Int) (a4:Bool) (a5:Int) (h:Bool) (i:Bool) (j:Int) (a9:Int) (a:Int) (b:Int) (a12:Bool) (c:Int) (d:Int) (e:Int) (f:Int):PV KT:=.int .i64 none ((zg (Sign.mk a0 g a2 a3 a4 a5 h i j a9 a b a12 c d e f)))
abbrev q8e (c:Bool) (b:Bool) (a:Int):Prop:=
((c=true->
((b=true->
((3:Int)=a)/\
 True))/\
(b=false->
((0:Int)=a)/\
 True)))
abbrev zi6 (a0:Int) (a:Int) (b:Int) (c:Bool) (d:Bool):Prop:=
((a0=10->
((2<=a->
((4<a->
((2:Int)=b)/\
 True))/\
(a<=4->
(q8e c d b)/\
(c=false->
((0:Int)=b)/\
 True))))/\
(a<2->
((2:Int)=b)/\
 True)))
abbrev qtz (a0:Int) (h:Int) (a2:Int) (a3:Int) (a4:Bool) (a5:Int) (i:Bool) (j:Bool) (k:Int) (a9:Int) (a:Int) (b:Int) (a12:Bool) (c:Int) (d:Int) (e:Int) (f:Int) (g:Int):Prop:=
(((a0≠a0∨(h≠0∨(a2≠0∨(a3≠0∨(a4≠false∨(a5≠0∨(i≠false∨(j≠false∨(k≠0∨(a9≠0∨(a≠0∨(b≠0∨(a12≠false∨(c≠0∨(d≠0∨(e≠0∨f≠0))))))))))))))))->
((3:Int)=g)/\
 True))
abbrev qkj (a0:Int) (b:Int) (a:Int) (c:Bool) (d:Bool):Prop:=
(a0≠8->
(zi6 a0 b a c d)/\
(a0≠10->
(q8e c d a)/\
(c=false->
((0:Int)=a)/\
 True)))
abbrev qki (a0:Int) (a:Int) (b:Int) (c:Bool) (d:Bool):Prop:=
((a0=8->
((0<=a->
((2<a->
((2:Int)=b)/\
 True))/\
(a<=2->
(zi6 a0 a b c d)/\
(a0≠10->
(q8e c d b)/\
(c=false->
((0:Int)=b)/\
 True)))))/\
(a<0->
((2:Int)=b)/\
 True)))
abbrev q8f (a:Int) (b:Int) (a0:Int) (c:Int) (d:Bool) (e:Bool):Prop:=
((1<=a->
((5<a->
((2:Int)=b)/\
 True))/\
(a<=5->
(qki a0 c b d e)/\
(qkj a0 c b d e))))
abbrev qt0 (a0:Int) (j:Int) (a2:Int) (a3:Int) (a4:Bool) (a5:Int) (c:Bool) (d:Bool) (k:Int) (a9:Int) (e:Int) (f:Int) (a12:Bool) (a:Int) (g:Int) (h:Int) (i:Int) (b:Int):Prop:=
((a0=a0/\(j=0/\(a2=0/\(a3=0/\(a4=false/\(a5=0/\(c=false/\(d=false/\(k=0/\(a9=0/\(e=0/\(f=0/\(a12=false/\(a=0/\(g=0/\(h=0/\i=0))))))))))))))))->
(qki a0 a b c d)/\
(qkj a0 a b c d))
abbrev q8d (a0:Int) (j:Int) (a2:Int) (a3:Int) (a4:Bool) (a5:Int) (h:Bool) (i:Bool) (k:Int) (a9:Int) (f:Int) (g:Int) (a12:Bool) (b:Int) (e:Int) (c:Int) (d:Int):Prop:=
(λa:Int=>
((a0<1->
((8:Int)=a)/\
 True))/\
(1<=a0->
((12<a0->
((8:Int)=a)/\
 True))/\
(a0<=12->
(Wn a0 13)/\
(((a0:Int)=0->
(qtz a0 j a2 a3 a4 a5 h i k a9 f g a12 b e c d a)/\
(qt0 a0 j a2 a3 a4 a5 h i k a9 f g a12 b e c d a)))/\
(((a0:Int)=1->
(((a0≠a0∨(j≠j∨(a2≠a2∨(a3≠a3∨(a4≠a4∨(a5≠0∨(h≠false∨(i≠false∨(k≠0∨(a9≠0∨(f≠0∨(g≠0∨(a12≠false∨(b≠0∨(e≠0∨(c≠0∨d≠0))))))))))))))))->
((3:Int)=a)/\
 True))/\
((a0=a0/\(j=j/\(a2=a2/\(a3=a3/\(a4=a4/\(a5=0/\(h=false/\(i=false/\(k=0/\(a9=0/\(f=0/\(g=0/\(a12=false/\(b=0/\(e=0/\(c=0/\d=0))))))))))))))))->
((1<=j->
((8<j->
((2:Int)=a)/\
 True))/\
(j<=8->
(((-4)<=a2->
((12<a2->
((2:Int)=a)/\
 True))/\
(a2<=12->
(((-1)<=a3->
((2<a3->
((2:Int)=a)/\
 True))/\
(a3<=2->
(qki a0 b a h i)/\
(qkj a0 b a h i))))/\
(a3<(-1)->
((2:Int)=a)/\
 True))))/\
(a2<(-4)->
((2:Int)=a)/\
 True))))/\
(j<1->
((2:Int)=a)/\
 True))))/\
(((a0:Int)=2->
(((a0≠a0∨(j≠j∨(a2≠0∨(a3≠0∨(a4≠false∨(a5≠0∨(h≠false∨(i≠false∨(k≠0∨(a9≠0∨(f≠0∨(g≠0∨(a12≠false∨(b≠0∨(e≠0∨(c≠0∨d≠0))))))))))))))))->
((3:Int)=a)/\
 True))/\
((a0=a0/\(j=j/\(a2=0/\(a3=0/\(a4=false/\(a5=0/\(h=false/\(i=false/\(k=0/\(a9=0/\(f=0/\(g=0/\(a12=false/\(b=0/\(e=0/\(c=0/\d=0))))))))))))))))->
((1<=j->
((8<j->
((2:Int)=a)/\
 True))/\
(j<=8->
(qki a0 b a h i)/\
(qkj a0 b a h i))))/\
(j<1->
((2:Int)=a)/\
 True))))/\
(((a0:Int)=3->
(qtz a0 j a2 a3 a4 a5 h i k a9 f g a12 b e c d a)/\
(qt0 a0 j a2 a3 a4 a5 h i k a9 f g a12 b e c d a)))/\
(((a0:Int)=4->
(((a0≠a0∨(j≠0∨(a2≠a2∨(a3≠a3∨(a4≠a4∨(a5≠a5∨(h≠h∨(i≠i∨(k≠0∨(a9≠0∨(f≠0∨(g≠0∨(a12≠false∨(b≠0∨(e≠0∨(c≠0∨d≠0))))))))))))))))->
((3:Int)=a)/\
 True))/\
((a0=a0/\(j=0/\(a2=a2/\(a3=a3/\(a4=a4/\(a5=a5/\(h=h/\(i=i/\(k=0/\(a9=0/\(f=0/\(g=0/\(a12=false/\(b=0/\(e=0/\(c=0/\d=0))))))))))))))))->
(((-4)<=a2->
((12<a2->
((2:Int)=a)/\
 True))/\
(a2<=12->
(((-1)<=a3->
((2<a3->
((2:Int)=a)/\
 True))/\
(a3<=2->
((0<=a5->
((3<a5->
((2:Int)=a)/\
 True))/\
(a5<=3->
(qki a0 b a h i)/\
(qkj a0 b a h i))))/\
(a5<0->
((2:Int)=a)/\
 True))))/\
(a3<(-1)->
((2:Int)=a)/\
 True))))/\
(a2<(-4)->
((2:Int)=a)/\
 True))))/\
(((a0:Int)=5->
(((a0≠a0∨(j≠0∨(a2≠0∨(a3≠0∨(a4≠false∨(a5≠0∨(h≠false∨(i≠false∨(k≠k∨(a9≠a9∨(f≠f∨(g≠g∨(a12≠a12∨(b≠0∨(e≠0∨(c≠0∨d≠0))))))))))))))))->
((3:Int)=a)/\
 True))/\
((a0=a0/\(j=0/\(a2=0/\(a3=0/\(a4=false/\(a5=0/\(h=false/\(i=false/\(k=k/\(a9=a9/\(f=f/\(g=g/\(a12=a12/\(b=0/\(e=0/\(c=0/\d=0))))))))))))))))->
(True)/\
(((qbe k a9 f g)≠0->
((12:Int)=a)/\
 True))/\
((qbe k a9 f g)=0->
(qki a0 b a h i)/\
(qkj a0 b a h i)))))/\
(((a0:Int)=6->
(((a0≠a0∨(j≠0∨(a2≠0∨(a3≠0∨(a4≠false∨(a5≠0∨(h≠false∨(i≠false∨(k≠0∨(a9≠0∨(f≠0∨(g≠0∨(a12≠false∨(b≠b∨(e≠e∨(c≠0∨d≠0))))))))))))))))->
((3:Int)=a)/\
 True))/\
((a0=a0/\(j=0/\(a2=0/\(a3=0/\(a4=false/\(a5=0/\(h=false/\(i=false/\(k=0/\(a9=0/\(f=0/\(g=0/\(a12=false/\(b=b/\(e=e/\(c=0/\d=0))))))))))))))))->
((1<=b->
((100<b->
((2:Int)=a)/\
 True))/\
(b<=100->
((1<=e->
((100<e->
((2:Int)=a)/\
 True))/\
(e<=100->
(qki a0 b a h i)/\
(qkj a0 b a h i))))/\
(e<1->
((2:Int)=a)/\
 True))))/\
(b<1->
((2:Int)=a)/\
 True))))/\
(((a0:Int)=7->
(((a0≠a0∨(j≠0∨(a2≠0∨(a3≠0∨(a4≠false∨(a5≠0∨(h≠false∨(i≠false∨(k≠0∨(a9≠0∨(f≠0∨(g≠0∨(a12≠false∨(b≠0∨(e≠0∨(c≠c∨d≠d))))))))))))))))->
((3:Int)=a)/\
 True))/\
((a0=a0/\(j=0/\(a2=0/\(a3=0/\(a4=false/\(a5=0/\(h=false/\(i=false/\(k=0/\(a9=0/\(f=0/\(g=0/\(a12=false/\(b=0/\(e=0/\(c=c/\d=d))))))))))))))))->
((c≠0->
((c≠3->
((c≠4->
((2:Int)=a)/\
 True))/\
(c=4->
(q8f d a a0 b h i)/\
(d<1->
((2:Int)=a)/\
 True))))/\
(c=3->
(q8f d a a0 b h i)/\
(d<1->
((2:Int)=a)/\
 True))))/\
(c=0->
(q8f d a a0 b h i)/\
(d<1->
((2:Int)=a)/\
 True)))))/\
(((a0:Int)=8->
(((a0≠a0∨(j≠0∨(a2≠0∨(a3≠0∨(a4≠false∨(a5≠0∨(h≠false∨(i≠false∨(k≠0∨(a9≠0∨(f≠0∨(g≠0∨(a12≠false∨(b≠b∨(e≠0∨(c≠0∨d≠0))))))))))))))))->
((3:Int)=a)/\
 True))/\
((a0=a0/\(j=0/\(a2=0/\(a3=0/\(a4=false/\(a5=0/\(h=false/\(i=false/\(k=0/\(a9=0/\(f=0/\(g=0/\(a12=false/\(b=b/\(e=0/\(c=0/\d=0))))))))))))))))->
(qki a0 b a h i)/\
(qkj a0 b a h i))))/\
(((a0:Int)=9->
(qtz a0 j a2 a3 a4 a5 h i k a9 f g a12 b e c d a)/\
(qt0 a0 j a2 a3 a4 a5 h i k a9 f g a12 b e c d a)))/\
(((a0:Int)=10->
(((a0≠a0∨(j≠0∨(a2≠0∨(a3≠0∨(a4≠false∨(a5≠0∨(h≠false∨(i≠false∨(k≠0∨(a9≠0∨(f≠0∨(g≠0∨(a12≠false∨(b≠b∨(e≠0∨(c≠0∨d≠0))))))))))))))))->
((3:Int)=a)/\
 True))/\
((a0=a0/\(j=0/\(a2=0/\(a3=0/\(a4=false/\(a5=0/\(h=false/\(i=false/\(k=0/\(a9=0/\(f=0/\(g=0/\(a12=false/\(b=b/\(e=0/\(c=0/\d=0))))))))))))))))->
(qki a0 b a h i)/\
(qkj a0 b a h i))))/\
(((a0:Int)=11->
(qtz a0 j a2 a3 a4 a5 h i k a9 f g a12 b e c d a)/\
(qt0 a0 j a2 a3 a4 a5 h i k a9 f g a12 b e c d a)))/\
(((a0:Int)=12->
(qtz a0 j a2 a3 a4 a5 h i k a9 f g a12 b e c d a)/\
(qt0 a0 j a2 a3 a4 a5 h i k a9 f g a12 b e c d a)))/\
 True))) (zg (Sign.mk a0 j a2 a3 a4 a5 h i k a9 f g a12 b e c d))
theorem zxt (a0:Int) (i:Int) (a2:Int) (a3:Int) (a4:Bool) (a5:Int) (g:Bool) (h:Bool) (j:Int) (a9:Int) (a:Int) (b:Int) (a12:Bool) (c:Int) (d:Int) (e:Int) (f:Int):zy (qo XK (zt zqk) (λ_ _=>False) (λ_ _=>0)) {cfg sp with ann:=zw [],born:=λ_=>false} 6 45 [.agg [.int .i64 none (a0),.int .i64 none (i),.int .i64 none (a2),.int .i64 none (a3),.sb 0 false (a4) (a4=true) (a4=false),.int .i64 none (a5),.sb 0 false (g) (g=true) (g=false),.sb 0 false (h) (h=true) (h=false),.int .i64 none (j),.int .i64 none (a9),.int .i64 none (a),.int .i64 none (b),.sb 0 false (a12) (a12=true) (a12=false),.int .i64 none (c),.int .i64 none (d),.int .i64 none (e),.int .i64 none (f)]] (za1 a0 i a2 a3 a4 a5 g h j a9 a b a12 c d e f)=q8d a0 i a2 a3 a4 a5 g h j a9 a b a12 c d e f:=by kernel_rfl
variable {sp:Nat->Option (List V->Heap->Option (CR×Heap))}
def qm (a0:ZB) (i:Int) (j:Int) (k:Int) (l:Int) (m:Bool) (n:Int) (o:Bool) (p:Bool) (q:Int) (r:Int) (a:Int) (b:Int) (c:Bool) (d:Int) (e:Int) (f:Int) (g:Int) (h:Int):Prop:=
((i:Int)=(((zp a0).1).Kind))/\
((j:Int)=(((zp a0).1).Value))/\
((k:Int)=(((zp a0).1).Place))/\
((l:Int)=(((zp a0).1).Acc))/\
(m=(((zp a0).1).Color))/\
((n:Int)=(((zp a0).1).Stem))/\
(o=(((zp a0).1).Oblique))/\
(p=(((zp a0).1).Last))/\
((q:Int)=(((zp a0).1).MensMax))/\
((r:Int)=(((zp a0).1).MensMod))/\
((a:Int)=(((zp a0).1).MensTem))/\
((b:Int)=(((zp a0).1).MensPro))/\
(c=(((zp a0).1).Stroke))/\
((d:Int)=(((zp a0).1).N))/\
((e:Int)=(((zp a0).1).D))/\
((f:Int)=(((zp a0).1).ClefStep))/\
((g:Int)=(((zp a0).1).ClefLine))/\
((h:Int)=((zp a0).2))/\
 True
def zmb:List (Nat×Ct KT):=[(159,zse),(172,zsm),(170,zsi),(171,zsk),(166,zjk),(165,zsg),(55,zsr)]
abbrev q5l (a0:ZB):PV KT:=.tuple [.agg [.int .i64 none ((((zp a0).1).Kind)),.int .i64 none ((((zp a0).1).Value)),.int .i64 none ((((zp a0).1).Place)),.int .i64 none ((((zp a0).1).Acc)),.sb 0 false ((((zp a0).1).Color)) ((((zp a0).1).Color)=true) ((((zp a0).1).Color)=false),.int .i64 none ((((zp a0).1).Stem)),.sb 0 false ((((zp a0).1).Oblique)) ((((zp a0).1).Oblique)=true) ((((zp a0).1).Oblique)=false),.sb 0 false ((((zp a0).1).Last)) ((((zp a0).1).Last)=true) ((((zp a0).1).Last)=false),.int .i64 none ((((zp a0).1).MensMax)),.int .i64 none ((((zp a0).1).MensMod)),.int .i64 none ((((zp a0).1).MensTem)),.int .i64 none ((((zp a0).1).MensPro)),.sb 0 false ((((zp a0).1).Stroke)) ((((zp a0).1).Stroke)=true) ((((zp a0).1).Stroke)=false),.int .i64 none ((((zp a0).1).N)),.int .i64 none ((((zp a0).1).D)),.int .i64 none ((((zp a0).1).ClefStep)),.int .i64 none ((((zp a0).1).ClefLine))],.int .i64 none (((zp a0).2))]
abbrev qjp (v0:ZB) (v1:Int) (p:Prop):Prop:=
((((qan (upto (fr v0 1) v1)).1):Int)=((qan (upto (fr v0 1) v1)).1))/\
 p
abbrev qt5 (v0:ZB) (v1:Int) (v2:Int) (v3:ZB) (p:Prop):Prop:=
((((qan (upto (fr v0 1) v1)).1):Int)=((qan (upto (fr v0 1) v1)).1))/\
((v2:Int)=v2)/\
(((zb v3 42).2)=((zb v3 42).2))/\
 p
abbrev q0c (a0:ZB):Prop:=
 let x:=bx ([94,118,62]:ZB) 2;
 let y:=bx ([94,118,62]:ZB) 1;
 let z:=bx ([94,118,62]:ZB) 0;
 let l:=ln ([(-1),1,2]:List Int);
 let g:=qz (fr a0 1);
 let b:=qgl a0 47;
 let m:=ln ([98,35,110]:ZB);
 let u:=bx ([98,35,110]:ZB) 2;
 let v:=bx ([98,35,110]:ZB) 1;
 let w:=bx ([98,35,110]:ZB) 0;
 let a:=ln (fr a0 1);
 let n:=bx (fr a0 1) (a-1);
 let r:=zb (fr a0 1) (bx ([67,70,71]:ZB) 2);
 let s:=zb (fr a0 1) (bx ([67,70,71]:ZB) 1);
 let t:=zb (fr a0 1) (bx ([67,70,71]:ZB) 0);
 let i:=upto (fr a0 1) (a-1);
 let c:=qab i;
 let h:=qab (upto i ((ln i)-1));
 let A:=zg (Sign.mk 5 0 0 0 false 0 false false (c.1.1) (c.1.2.1) (c.1.2.2.1) (c.1.2.2.2) false 0 0 0 0);
((a0=([]:ZB)->
 qm a0 0 0 0 0 false 0 false false 0 0 0 0 false 0 0 0 0 3))/\
(a0≠([]:ZB)->
((a0=([46]:ZB)->
(True)/\
(((zg (Sign.mk 3 0 0 0 false 0 false false 0 0 0 0 false 0 0 0 0))≠0->
 qm a0 0 0 0 0 false 0 false false 0 0 0 0 false 0 0 0 0 (zg (Sign.mk 3 0 0 0 false 0 false false 0 0 0 0 false 0 0 0 0))))/\
((zg (Sign.mk 3 0 0 0 false 0 false false 0 0 0 0 false 0 0 0 0))=0->
 qm a0 3 0 0 0 false 0 false false 0 0 0 0 false 0 0 0 0 0)))/\
(a0≠([46]:ZB)->
((a0=([91]:ZB)->
(True)/\
(((zg (Sign.mk 9 0 0 0 false 0 false false 0 0 0 0 false 0 0 0 0))≠0->
 qm a0 0 0 0 0 false 0 false false 0 0 0 0 false 0 0 0 0 (zg (Sign.mk 9 0 0 0 false 0 false false 0 0 0 0 false 0 0 0 0))))/\
((zg (Sign.mk 9 0 0 0 false 0 false false 0 0 0 0 false 0 0 0 0))=0->
 qm a0 9 0 0 0 false 0 false false 0 0 0 0 false 0 0 0 0 0)))/\
(a0≠([91]:ZB)->
((a0=([116,117,114,110]:ZB)->
(True)/\
(((zg (Sign.mk 11 0 0 0 false 0 false false 0 0 0 0 false 0 0 0 0))≠0->
 qm a0 0 0 0 0 false 0 false false 0 0 0 0 false 0 0 0 0 (zg (Sign.mk 11 0 0 0 false 0 false false 0 0 0 0 false 0 0 0 0))))/\
((zg (Sign.mk 11 0 0 0 false 0 false false 0 0 0 0 false 0 0 0 0))=0->
 qm a0 11 0 0 0 false 0 false false 0 0 0 0 false 0 0 0 0 0)))/\
(a0≠([116,117,114,110]:ZB)->
((a0=([115,105,103]:ZB)->
(True)/\
(((zg (Sign.mk 12 0 0 0 false 0 false false 0 0 0 0 false 0 0 0 0))≠0->
 qm a0 0 0 0 0 false 0 false false 0 0 0 0 false 0 0 0 0 (zg (Sign.mk 12 0 0 0 false 0 false false 0 0 0 0 false 0 0 0 0))))/\
((zg (Sign.mk 12 0 0 0 false 0 false false 0 0 0 0 false 0 0 0 0))=0->
 qm a0 12 0 0 0 false 0 false false 0 0 0 0 false 0 0 0 0 0)))/\
(a0≠([115,105,103]:ZB)->
(Wn 0 (ln a0))/\
(((bx a0 0)=114->
((0:Int)<=1/\1<=ln a0)/\
(True)/\
((((qao (fr a0 1)).2)≠0->
 qm a0 0 0 0 0 false 0 false false 0 0 0 0 false 0 0 0 0 3))/\
(((qao (fr a0 1)).2)=0->
(True)/\
(((zg (Sign.mk 2 ((qao (fr a0 1)).1) 0 0 false 0 false false 0 0 0 0 false 0 0 0 0))≠0->
 qm a0 0 0 0 0 false 0 false false 0 0 0 0 false 0 0 0 0 (zg (Sign.mk 2 ((qao (fr a0 1)).1) 0 0 false 0 false false 0 0 0 0 false 0 0 0 0))))/\
((zg (Sign.mk 2 ((qao (fr a0 1)).1) 0 0 false 0 false false 0 0 0 0 false 0 0 0 0))=0->
 qm a0 2 ((qao (fr a0 1)).1) 0 0 false 0 false false 0 0 0 0 false 0 0 0 0 0))))/\
((bx a0 0)≠114->
(((bx a0 0)=116->
((0:Int)<=1/\1<=ln a0)/\
((ky a0 0 (fr a0 1))/\
(∀ x7:Int,
 let j:=bx (fr a0 1) x7;
(ky a0 x7 (fr a0 1)->
((x7<a->
(Wn x7 a)/\
((48<=j->
(Wn x7 a)/\
((j<=57->
(I64 (x7+1))/\
(ky a0 (x7+1) (fr a0 1))/\
 j6 a0 (x7+1) (fr a0 1)<j6 a0 x7 (fr a0 1)))/\
(57<j->
((x7=0->
(Wn x7 a)/\
((j=45->
(I64 (x7+1))/\
(ky a0 (x7+1) (fr a0 1))/\
 j6 a0 (x7+1) (fr a0 1)<j6 a0 x7 (fr a0 1)))/\
(j≠45->
(jv a0 x7 (fr a0 1))/\
 True)))/\
(x7≠0->
(jv a0 x7 (fr a0 1))/\
 True))))/\
(j<48->
((x7=0->
(Wn x7 a)/\
((j=45->
(I64 (x7+1))/\
(ky a0 (x7+1) (fr a0 1))/\
 j6 a0 (x7+1) (fr a0 1)<j6 a0 x7 (fr a0 1)))/\
(j≠45->
(jv a0 x7 (fr a0 1))/\
 True)))/\
(x7≠0->
(jv a0 x7 (fr a0 1))/\
 True))))/\
(a<=x7->
(jv a0 x7 (fr a0 1))/\
 True))))/\
(∀ x7:Int,
 let o:=qan (upto (fr a0 1) x7);
 let d:=fr (fr a0 1) x7;
(jv a0 x7 (fr a0 1)->
((0:Int)<=x7/\x7<=ln (fr a0 1))/\
((ln (upto (fr a0 1) x7)<=1000000))/\
((0:Int)<=x7/\x7<=ln (fr a0 1))/\
(True)/\
(True)/\
(True)/\
((Wn 0 m)/\
((U8 w))/\
((((zb d w).2)=true->
(Wn 0 l)/\
(qjp a0 x7 (
(qak a0 ((zb d w).1) (ix ([(-1),1,2]:List Int) 0) d)/\
 True))))/\
(((zb d w).2)=false->
(Wn 1 m)/\
((U8 v))/\
((((zb d v).2)=true->
(Wn 1 l)/\
(qjp a0 x7 (
(qak a0 ((zb d v).1) (ix ([(-1),1,2]:List Int) 1) d)/\
 True))))/\
(((zb d v).2)=false->
(Wn 2 m)/\
((U8 u))/\
((((zb d u).2)=true->
(Wn 2 l)/\
(qjp a0 x7 (
(qak a0 ((zb d u).1) (ix ([(-1),1,2]:List Int) 2) d)/\
 True))))/\
(((zb d u).2)=false->
(qjp a0 x7 (
(qak a0 d 0 d)/\
 True))))))/\
(∀ x9:ZB,
 let e:=(zb x9 42).1;
(∀ x10:Int,
(qak a0 x9 x10 d->
((U8 42))/\
((Wn 0 (ln ([94,118,62]:ZB)))/\
((U8 z))/\
((((zb e z).2)=true->
(qt5 a0 x7 x10 x9 (
(qcw a0 ((zb e z).1) 1 e)/\
 True))))/\
(((zb e z).2)=false->
(Wn 1 (ln ([94,118,62]:ZB)))/\
((U8 y))/\
((((zb e y).2)=true->
(qt5 a0 x7 x10 x9 (
(qcw a0 ((zb e y).1) 2 e)/\
 True))))/\
(((zb e y).2)=false->
(Wn 2 (ln ([94,118,62]:ZB)))/\
((U8 x))/\
((((zb e x).2)=true->
(qt5 a0 x7 x10 x9 (
(qcw a0 ((zb e x).1) 3 e)/\
 True))))/\
(((zb e x).2)=false->
(qt5 a0 x7 x10 x9 (
(qcw a0 e 0 e)/\
 True))))))/\
(∀ x12:ZB,
 let p:=zb ((zb x12 126).1) 33;
(∀ x13:Int,
(qcw a0 x12 x13 e->
((U8 126))/\
((U8 33))/\
(((o.2)=true->
(((p.1)≠([]:ZB)->
 qm a0 0 0 0 0 false 0 false false 0 0 0 0 false 0 0 0 0 3))/\
((p.1)=([]:ZB)->
(True)/\
(((zg (Sign.mk 4 0 (o.1) x10 ((zb x9 42).2) x13 ((zb x12 126).2) (p.2) 0 0 0 0 false 0 0 0 0))≠0->
 qm a0 0 0 0 0 false 0 false false 0 0 0 0 false 0 0 0 0 (zg (Sign.mk 4 0 (o.1) x10 ((zb x9 42).2) x13 ((zb x12 126).2) (p.2) 0 0 0 0 false 0 0 0 0))))/\
((zg (Sign.mk 4 0 (o.1) x10 ((zb x9 42).2) x13 ((zb x12 126).2) (p.2) 0 0 0 0 false 0 0 0 0))=0->
 qm a0 4 0 (o.1) x10 ((zb x9 42).2) x13 ((zb x12 126).2) (p.2) 0 0 0 0 false 0 0 0 0 0))))/\
((o.2)=false->
 qm a0 0 0 0 0 false 0 false false 0 0 0 0 false 0 0 0 0 3)))))))))))/\
((bx a0 0)≠116->
(((bx a0 0)=40->
((0:Int)<=1/\1<=ln a0)/\
(((fr a0 1)≠([]:ZB)->
(I64 (a-1))/\
(Wn (a-1) a)/\
((n=124->
(I64 (a-1))/\
((0:Int)<=(a-1)/\(a-1)<=ln (fr a0 1))/\
((i=([]:ZB)->
 qm a0 0 0 0 0 false 0 false false 0 0 0 0 false 0 0 0 0 3))/\
(i≠([]:ZB)->
(I64 ((ln i)-1))/\
(Wn ((ln i)-1) (ln i))/\
(((bx i ((ln i)-1))≠41->
 qm a0 0 0 0 0 false 0 false false 0 0 0 0 false 0 0 0 0 3))/\
((bx i ((ln i)-1))=41->
(I64 ((ln i)-1))/\
((0:Int)<=((ln i)-1)/\((ln i)-1)<=ln i)/\
(True)/\
(((h.2)≠0->
 qm a0 0 0 0 0 false 0 false false 0 0 0 0 false 0 0 0 0 3))/\
((h.2)=0->
(True)/\
(((zg (Sign.mk 5 0 0 0 false 0 false false (h.1.1) (h.1.2.1) (h.1.2.2.1) (h.1.2.2.2) true 0 0 0 0))≠0->
 qm a0 0 0 0 0 false 0 false false 0 0 0 0 false 0 0 0 0 (zg (Sign.mk 5 0 0 0 false 0 false false (h.1.1) (h.1.2.1) (h.1.2.2.1) (h.1.2.2.2) true 0 0 0 0))))/\
((zg (Sign.mk 5 0 0 0 false 0 false false (h.1.1) (h.1.2.1) (h.1.2.2.1) (h.1.2.2.2) true 0 0 0 0))=0->
 qm a0 5 0 0 0 false 0 false false (h.1.1) (h.1.2.1) (h.1.2.2.1) (h.1.2.2.2) true 0 0 0 0 0))))))/\
(n≠124->
(((fr a0 1)=([]:ZB)->
 qm a0 0 0 0 0 false 0 false false 0 0 0 0 false 0 0 0 0 3))/\
((fr a0 1)≠([]:ZB)->
(I64 (a-1))/\
(Wn (a-1) a)/\
((n≠41->
 qm a0 0 0 0 0 false 0 false false 0 0 0 0 false 0 0 0 0 3))/\
(n=41->
(I64 (a-1))/\
((0:Int)<=(a-1)/\(a-1)<=ln (fr a0 1))/\
(True)/\
(((c.2)≠0->
 qm a0 0 0 0 0 false 0 false false 0 0 0 0 false 0 0 0 0 3))/\
((c.2)=0->
(True)/\
((A≠0->
 qm a0 0 0 0 0 false 0 false false 0 0 0 0 false 0 0 0 0 A))/\
(A=0->
 qm a0 5 0 0 0 false 0 false false (c.1.1) (c.1.2.1) (c.1.2.2.1) (c.1.2.2.2) false 0 0 0 0 0)))))))/\
((fr a0 1)=([]:ZB)->
(((fr a0 1)=([]:ZB)->
 qm a0 0 0 0 0 false 0 false false 0 0 0 0 false 0 0 0 0 3))/\
((fr a0 1)≠([]:ZB)->
(I64 (a-1))/\
(Wn (a-1) a)/\
((n≠41->
 qm a0 0 0 0 0 false 0 false false 0 0 0 0 false 0 0 0 0 3))/\
(n=41->
(I64 (a-1))/\
((0:Int)<=(a-1)/\(a-1)<=ln (fr a0 1))/\
(True)/\
(((c.2)≠0->
 qm a0 0 0 0 0 false 0 false false 0 0 0 0 false 0 0 0 0 3))/\
((c.2)=0->
(True)/\
((A≠0->
 qm a0 0 0 0 0 false 0 false false 0 0 0 0 false 0 0 0 0 A))/\
(A=0->
 qm a0 5 0 0 0 false 0 false false (c.1.1) (c.1.2.1) (c.1.2.2.1) (c.1.2.2.2) false 0 0 0 0 0)))))))/\
((bx a0 0)≠40->
(((bx a0 0)=64->
((0:Int)<=1/\1<=ln a0)/\
(True)/\
(True)/\
(True)/\
(Wn 0 (ln ([67,70,71]:ZB)))/\
((U8 (bx ([67,70,71]:ZB) 0)))/\
(((t.2)=true->
((ln (t.1)<=1000000))/\
(Wn 0 (ln ([0,3,4]:List Int)))/\
((((qz (t.1)).2)=false->
 qm a0 0 0 0 0 false 0 false false 0 0 0 0 false 0 0 0 0 3))/\
(((qz (t.1)).2)=true->
(True)/\
(((zg (Sign.mk 7 0 0 0 false 0 false false 0 0 0 0 false 0 0 (ix ([0,3,4]:List Int) 0) ((qz (t.1)).1)))≠0->
 qm a0 0 0 0 0 false 0 false false 0 0 0 0 false 0 0 0 0 (zg (Sign.mk 7 0 0 0 false 0 false false 0 0 0 0 false 0 0 (ix ([0,3,4]:List Int) 0) ((qz (t.1)).1)))))/\
((zg (Sign.mk 7 0 0 0 false 0 false false 0 0 0 0 false 0 0 (ix ([0,3,4]:List Int) 0) ((qz (t.1)).1)))=0->
 qm a0 7 0 0 0 false 0 false false 0 0 0 0 false 0 0 (ix ([0,3,4]:List Int) 0) ((qz (t.1)).1) 0))))/\
((t.2)=false->
(Wn 1 (ln ([67,70,71]:ZB)))/\
((U8 (bx ([67,70,71]:ZB) 1)))/\
(((s.2)=true->
((ln (s.1)<=1000000))/\
(Wn 1 (ln ([0,3,4]:List Int)))/\
((((qz (s.1)).2)=false->
 qm a0 0 0 0 0 false 0 false false 0 0 0 0 false 0 0 0 0 3))/\
(((qz (s.1)).2)=true->
(True)/\
(((zg (Sign.mk 7 0 0 0 false 0 false false 0 0 0 0 false 0 0 (ix ([0,3,4]:List Int) 1) ((qz (s.1)).1)))≠0->
 qm a0 0 0 0 0 false 0 false false 0 0 0 0 false 0 0 0 0 (zg (Sign.mk 7 0 0 0 false 0 false false 0 0 0 0 false 0 0 (ix ([0,3,4]:List Int) 1) ((qz (s.1)).1)))))/\
((zg (Sign.mk 7 0 0 0 false 0 false false 0 0 0 0 false 0 0 (ix ([0,3,4]:List Int) 1) ((qz (s.1)).1)))=0->
 qm a0 7 0 0 0 false 0 false false 0 0 0 0 false 0 0 (ix ([0,3,4]:List Int) 1) ((qz (s.1)).1) 0))))/\
((s.2)=false->
(Wn 2 (ln ([67,70,71]:ZB)))/\
((U8 (bx ([67,70,71]:ZB) 2)))/\
(((r.2)=true->
((ln (r.1)<=1000000))/\
(Wn 2 (ln ([0,3,4]:List Int)))/\
((((qz (r.1)).2)=false->
 qm a0 0 0 0 0 false 0 false false 0 0 0 0 false 0 0 0 0 3))/\
(((qz (r.1)).2)=true->
(True)/\
(((zg (Sign.mk 7 0 0 0 false 0 false false 0 0 0 0 false 0 0 (ix ([0,3,4]:List Int) 2) ((qz (r.1)).1)))≠0->
 qm a0 0 0 0 0 false 0 false false 0 0 0 0 false 0 0 0 0 (zg (Sign.mk 7 0 0 0 false 0 false false 0 0 0 0 false 0 0 (ix ([0,3,4]:List Int) 2) ((qz (r.1)).1)))))/\
((zg (Sign.mk 7 0 0 0 false 0 false false 0 0 0 0 false 0 0 (ix ([0,3,4]:List Int) 2) ((qz (r.1)).1)))=0->
 qm a0 7 0 0 0 false 0 false false 0 0 0 0 false 0 0 (ix ([0,3,4]:List Int) 2) ((qz (r.1)).1) 0))))/\
((r.2)=false->
 qm a0 0 0 0 0 false 0 false false 0 0 0 0 false 0 0 0 0 3)))))/\
((bx a0 0)≠64->
(((bx a0 0)=38->
((0:Int)<=1/\1<=ln a0)/\
((ln (fr a0 1)<=1000000))/\
(((g.2)=false->
 qm a0 0 0 0 0 false 0 false false 0 0 0 0 false 0 0 0 0 3))/\
((g.2)=true->
(True)/\
(((zg (Sign.mk 8 0 0 0 false 0 false false 0 0 0 0 false (g.1) 0 0 0))≠0->
 qm a0 0 0 0 0 false 0 false false 0 0 0 0 false 0 0 0 0 (zg (Sign.mk 8 0 0 0 false 0 false false 0 0 0 0 false (g.1) 0 0 0))))/\
((zg (Sign.mk 8 0 0 0 false 0 false false 0 0 0 0 false (g.1) 0 0 0))=0->
 qm a0 8 0 0 0 false 0 false false 0 0 0 0 false (g.1) 0 0 0 0))))/\
((bx a0 0)≠38->
(((bx a0 0)=93->
((0:Int)<=1/\1<=ln a0)/\
((ln (fr a0 1)<=1000000))/\
(((g.2)=false->
 qm a0 0 0 0 0 false 0 false false 0 0 0 0 false 0 0 0 0 3))/\
((g.2)=true->
(True)/\
(((zg (Sign.mk 10 0 0 0 false 0 false false 0 0 0 0 false (g.1) 0 0 0))≠0->
 qm a0 0 0 0 0 false 0 false false 0 0 0 0 false 0 0 0 0 (zg (Sign.mk 10 0 0 0 false 0 false false 0 0 0 0 false (g.1) 0 0 0))))/\
((zg (Sign.mk 10 0 0 0 false 0 false false 0 0 0 0 false (g.1) 0 0 0))=0->
 qm a0 10 0 0 0 false 0 false false 0 0 0 0 false (g.1) 0 0 0 0))))/\
((bx a0 0)≠93->
((0:Int)<=1/\1<=ln a0)/\
(True)/\
((((qao (upto a0 1)).2)=0->
((0:Int)<=1/\1<=ln a0)/\
((ky a0 0 (fr a0 1))/\
(∀ x12:Int,
 let k:=bx (fr a0 1) x12;
(ky a0 x12 (fr a0 1)->
((x12<a->
(Wn x12 a)/\
((48<=k->
(Wn x12 a)/\
((k<=57->
(I64 (x12+1))/\
(ky a0 (x12+1) (fr a0 1))/\
 j6 a0 (x12+1) (fr a0 1)<j6 a0 x12 (fr a0 1)))/\
(57<k->
((x12=0->
(Wn x12 a)/\
((k=45->
(I64 (x12+1))/\
(ky a0 (x12+1) (fr a0 1))/\
 j6 a0 (x12+1) (fr a0 1)<j6 a0 x12 (fr a0 1)))/\
(k≠45->
(jv a0 x12 (fr a0 1))/\
 True)))/\
(x12≠0->
(jv a0 x12 (fr a0 1))/\
 True))))/\
(k<48->
((x12=0->
(Wn x12 a)/\
((k=45->
(I64 (x12+1))/\
(ky a0 (x12+1) (fr a0 1))/\
 j6 a0 (x12+1) (fr a0 1)<j6 a0 x12 (fr a0 1)))/\
(k≠45->
(jv a0 x12 (fr a0 1))/\
 True)))/\
(x12≠0->
(jv a0 x12 (fr a0 1))/\
 True))))/\
(a<=x12->
(jv a0 x12 (fr a0 1))/\
 True))))/\
(∀ x12:Int,
 let q:=qan (upto (fr a0 1) x12);
 let f:=fr (fr a0 1) x12;
(jv a0 x12 (fr a0 1)->
((0:Int)<=x12/\x12<=ln (fr a0 1))/\
((ln (upto (fr a0 1) x12)<=1000000))/\
((0:Int)<=x12/\x12<=ln (fr a0 1))/\
(True)/\
(True)/\
(True)/\
((Wn 0 m)/\
((U8 w))/\
((((zb f w).2)=true->
(Wn 0 l)/\
(qjp a0 x12 (
(qak a0 ((zb f w).1) (ix ([(-1),1,2]:List Int) 0) f)/\
 True))))/\
(((zb f w).2)=false->
(Wn 1 m)/\
((U8 v))/\
((((zb f v).2)=true->
(Wn 1 l)/\
(qjp a0 x12 (
(qak a0 ((zb f v).1) (ix ([(-1),1,2]:List Int) 1) f)/\
 True))))/\
(((zb f v).2)=false->
(Wn 2 m)/\
((U8 u))/\
((((zb f u).2)=true->
(Wn 2 l)/\
(qjp a0 x12 (
(qak a0 ((zb f u).1) (ix ([(-1),1,2]:List Int) 2) f)/\
 True))))/\
(((zb f u).2)=false->
(qjp a0 x12 (
(qak a0 f 0 f)/\
 True))))))/\
(∀ x14:ZB,
(∀ x15:Int,
(qak a0 x14 x15 f->
((U8 42))/\
(((q.2)=true->
((((zb x14 42).1)≠([]:ZB)->
 qm a0 0 0 0 0 false 0 false false 0 0 0 0 false 0 0 0 0 3))/\
(((zb x14 42).1)=([]:ZB)->
(True)/\
(((zg (Sign.mk 1 ((qao (upto a0 1)).1) (q.1) x15 ((zb x14 42).2) 0 false false 0 0 0 0 false 0 0 0 0))≠0->
 qm a0 0 0 0 0 false 0 false false 0 0 0 0 false 0 0 0 0 (zg (Sign.mk 1 ((qao (upto a0 1)).1) (q.1) x15 ((zb x14 42).2) 0 false false 0 0 0 0 false 0 0 0 0))))/\
((zg (Sign.mk 1 ((qao (upto a0 1)).1) (q.1) x15 ((zb x14 42).2) 0 false false 0 0 0 0 false 0 0 0 0))=0->
 qm a0 1 ((qao (upto a0 1)).1) (q.1) x15 ((zb x14 42).2) 0 false false 0 0 0 0 false 0 0 0 0 0))))/\
((q.2)=false->
 qm a0 0 0 0 0 false 0 false false 0 0 0 0 false 0 0 0 0 3))))))))/\
(((qao (upto a0 1)).2)≠0->
((U8 47/\ln a0<=1000000))/\
((ln (b.1)<=1000000))/\
((ln (b.2.1)<=1000000))/\
(((b.2.2)=true->
((((qz (b.1)).2)=true->
((((qz (b.2.1)).2)=false->
 qm a0 0 0 0 0 false 0 false false 0 0 0 0 false 0 0 0 0 3))/\
(((qz (b.2.1)).2)=true->
(True)/\
(((zg (Sign.mk 6 0 0 0 false 0 false false 0 0 0 0 false ((qz (b.1)).1) ((qz (b.2.1)).1) 0 0))≠0->
 qm a0 0 0 0 0 false 0 false false 0 0 0 0 false 0 0 0 0 (zg (Sign.mk 6 0 0 0 false 0 false false 0 0 0 0 false ((qz (b.1)).1) ((qz (b.2.1)).1) 0 0))))/\
((zg (Sign.mk 6 0 0 0 false 0 false false 0 0 0 0 false ((qz (b.1)).1) ((qz (b.2.1)).1) 0 0))=0->
 qm a0 6 0 0 0 false 0 false false 0 0 0 0 false ((qz (b.1)).1) ((qz (b.2.1)).1) 0 0 0))))/\
(((qz (b.1)).2)=false->
 qm a0 0 0 0 0 false 0 false false 0 0 0 0 false 0 0 0 0 3)))/\
((b.2.2)=false->
 qm a0 0 0 0 0 false 0 false false 0 0 0 0 false 0 0 0 0 3)))))))))))))
theorem zqu (a0:ZB):zy (qo XK (zt zmb) (λj ns=>match j,ns with | 0,[.i a,.s b]=>ky a0 a b | 1,[.i a,.s b]=>jv a0 a b | 2,[.s a,.i b,.s c]=>qak a0 a b c | 3,[.s a,.i b,.s c]=>qcw a0 a b c | _,_=>False) (λj ns=>match j,ns with | 0,[.i a,.s b]=>j6 a0 a b | _,_=>0)) {cfg sp with ann:=zw [(164,28,.inv 0 [.one 5 (.int .i64)] [.one 0 (.str)]),(164,7,.cut 1 [.one 5 (.int .i64)] [.one 0 (.str)]),(164,2042,.unroll 4),(164,255,.cut 2 [.one 0 (.str),.via 8 [.keep,.keep,.keep,.int .i64,.keep,.keep,.keep,.keep,.keep,.keep,.keep,.keep,.keep,.keep,.keep,.keep,.keep]] [.one 0 (.str)]),(160,122,.unroll 4),(160,15,.cut 3 [.one 0 (.str),.via 4 [.keep,.keep,.keep,.keep,.keep,.int .i64,.keep,.keep,.keep,.keep,.keep,.keep,.keep,.keep,.keep,.keep,.keep]] [.one 0 (.str)]),(162,58,.unroll 4)],born:=λ_=>false} 10 126 [.str (a0)] (q5l a0)=q0c a0:=by kernel_rfl
variable {sp:Nat->Option (List V->Heap->Option (CR×Heap))}
def zpu:List (Nat×Ct KT):=[]
abbrev q7y (a0:ZB) (a:Int):PV KT:=.tuple [.str (((zb a0 a).1)),.sb 0 false (((zb a0 a).2)) (((zb a0 a).2)=true) (((zb a0 a).2)=false)]
abbrev q3x (a0:ZB) (a:Int):Prop:=
((a0≠([]:ZB)->
(Wn 0 (ln a0))/\
(((bx a0 0)=a->
((0:Int)<=1/\1<=ln a0)/\
((fr a0 1)=((zb a0 a).1))/\
(true=((zb a0 a).2))/\
 True))/\
((bx a0 0)≠a->
(a0=((zb a0 a).1))/\
(false=((zb a0 a).2))/\
 True)))/\
(a0=([]:ZB)->
(a0=((zb a0 a).1))/\
(false=((zb a0 a).2))/\
 True)
theorem zwt (a0:ZB) (a:Int):zy (qo XK (zt zpu) (λ_ _=>False) (λ_ _=>0)) {cfg sp with ann:=zw [],born:=λ_=>false} 3 170 [.str (a0),.int .u8 none (a)] (q7y a0 a)=q3x a0 a:=by kernel_rfl
def zax:List (Nat×Ct KT):=[]
abbrev qxy (a0:Int):PV KT:=.tuple [.str (((qnq a0).1)),.int .i64 none (((qnq a0).2))]
abbrev qsn (a0:Int):Prop:=
((a0<1->
(([]:ZB)=((qnq a0).1))/\
((2:Int)=((qnq a0).2))/\
 True))/\
(1<=a0->
((8<a0->
(([]:ZB)=((qnq a0).1))/\
((2:Int)=((qnq a0).2))/\
 True))/\
(a0<=8->
(I64 (a0-1))/\
((0:Int)<=(a0-1)/\((a0-1):Int)<=a0/\a0<=ln ([88,76,66,83,77,81,70,90]:ZB))/\
((sub ([88,76,66,83,77,81,70,90]:ZB) (a0-1) a0)=((qnq a0).1))/\
((0:Int)=((qnq a0).2))/\
 True))
theorem zfr (a0:Int):zy (qo XK (zt zax) (λ_ _=>False) (λ_ _=>0)) {cfg sp with ann:=zw [],born:=λ_=>false} 3 56 [.int .i64 none (a0)] (qxy a0)=qsn a0:=by kernel_rfl
def zgg:List (Nat×Ct KT):=[]
abbrev q0i (a0:ZB):PV KT:=.tuple [.int .i64 none (((qao a0).1)),.int .i64 none (((qao a0).2))]
abbrev qwc (a0:ZB):Prop:=
((0:Int)<=0/\(0:Int)<=1/\1<=ln ([88,76,66,83,77,81,70,90]:ZB))/\
((a0=(sub ([88,76,66,83,77,81,70,90]:ZB) 0 1)->
((1:Int)=((qao a0).1))/\
((0:Int)=((qao a0).2))/\
 True))/\
(a0≠(sub ([88,76,66,83,77,81,70,90]:ZB) 0 1)->
((0:Int)<=1/\(1:Int)<=2/\2<=ln ([88,76,66,83,77,81,70,90]:ZB))/\
((a0=(sub ([88,76,66,83,77,81,70,90]:ZB) 1 2)->
((2:Int)=((qao a0).1))/\
((0:Int)=((qao a0).2))/\
 True))/\
(a0≠(sub ([88,76,66,83,77,81,70,90]:ZB) 1 2)->
((0:Int)<=2/\(2:Int)<=3/\3<=ln ([88,76,66,83,77,81,70,90]:ZB))/\
((a0=(sub ([88,76,66,83,77,81,70,90]:ZB) 2 3)->
((3:Int)=((qao a0).1))/\
((0:Int)=((qao a0).2))/\
 True))/\
(a0≠(sub ([88,76,66,83,77,81,70,90]:ZB) 2 3)->
((0:Int)<=3/\(3:Int)<=4/\4<=ln ([88,76,66,83,77,81,70,90]:ZB))/\
((a0=(sub ([88,76,66,83,77,81,70,90]:ZB) 3 4)->
((4:Int)=((qao a0).1))/\
((0:Int)=((qao a0).2))/\
 True))/\
(a0≠(sub ([88,76,66,83,77,81,70,90]:ZB) 3 4)->
((0:Int)<=4/\(4:Int)<=5/\5<=ln ([88,76,66,83,77,81,70,90]:ZB))/\
((a0=(sub ([88,76,66,83,77,81,70,90]:ZB) 4 5)->
((5:Int)=((qao a0).1))/\
((0:Int)=((qao a0).2))/\
 True))/\
(a0≠(sub ([88,76,66,83,77,81,70,90]:ZB) 4 5)->
((0:Int)<=5/\(5:Int)<=6/\6<=ln ([88,76,66,83,77,81,70,90]:ZB))/\
((a0=(sub ([88,76,66,83,77,81,70,90]:ZB) 5 6)->
((6:Int)=((qao a0).1))/\
((0:Int)=((qao a0).2))/\
 True))/\
(a0≠(sub ([88,76,66,83,77,81,70,90]:ZB) 5 6)->
((0:Int)<=6/\(6:Int)<=7/\7<=ln ([88,76,66,83,77,81,70,90]:ZB))/\
((a0=(sub ([88,76,66,83,77,81,70,90]:ZB) 6 7)->
((7:Int)=((qao a0).1))/\
((0:Int)=((qao a0).2))/\
 True))/\
(a0≠(sub ([88,76,66,83,77,81,70,90]:ZB) 6 7)->
((0:Int)<=7/\(7:Int)<=8/\8<=ln ([88,76,66,83,77,81,70,90]:ZB))/\
((a0=(sub ([88,76,66,83,77,81,70,90]:ZB) 7 8)->
((8:Int)=((qao a0).1))/\
((0:Int)=((qao a0).2))/\
 True))/\
(a0≠(sub ([88,76,66,83,77,81,70,90]:ZB) 7 8)->
((0:Int)=((qao a0).1))/\
((3:Int)=((qao a0).2))/\
 True))))))))
theorem zmp (a0:ZB):zy (qo XK (zt zgg) (λ_ _=>False) (λ_ _=>0)) {cfg sp with ann:=zw [(159,26,.unroll 9)],born:=λ_=>false} 3 159 [.str (a0)] (q0i a0)=qwc a0:=by kernel_rfl
def zsy (a0:Int):Ct KT:=([.one (.int .i64)],λns=>match ns with
| [.i b0]=>some (((-100<=b0/\b0<=100))/\((if b0<0 then (1000:Nat) else Int.toNat b0))<((if a0<0 then (1000:Nat) else Int.toNat a0)),.str ((qi b0)))
| _=>none)
def zb8 (a0:Int):List (Nat×Ct KT):=[(60,zsy a0)]
abbrev qp9 (a0:Int):PV KT:=.str ((qi a0))
abbrev qs3 (a0:Int):Prop:=
((a0<0->
(I64 (-a0))/\
(((-100<=(-a0)/\(-a0)<=100))/\((if (-a0)<0 then (1000:Nat) else Int.toNat (-a0)))<((if a0<0 then (1000:Nat) else Int.toNat a0)))/\
(qh (List.length ([45]:ZB)+List.length (qi (-a0))))/\
((([45]:ZB)++(qi (-a0)))=(qi a0))/\
 True))/\
(0<=a0->
((9<a0->
((10:Int)≠0/\I64 (Int.tdiv a0 10))/\
(((-100<=(Int.tdiv a0 10)/\(Int.tdiv a0 10)<=100))/\((if (Int.tdiv a0 10)<0 then (1000:Nat) else Int.toNat (Int.tdiv a0 10)))<((if a0<0 then (1000:Nat) else Int.toNat a0)))/\
((10:Int)≠0)/\
(((-100<=(Int.tmod a0 10)/\(Int.tmod a0 10)<=100))/\((if (Int.tmod a0 10)<0 then (1000:Nat) else Int.toNat (Int.tmod a0 10)))<((if a0<0 then (1000:Nat) else Int.toNat a0)))/\
(qh (List.length (qi (Int.tdiv a0 10))+List.length (qi (Int.tmod a0 10))))/\
(((qi (Int.tdiv a0 10))++(qi (Int.tmod a0 10)))=(qi a0))/\
 True))/\
(a0<=9->
(I64 (a0+1))/\
((0:Int)<=a0/\(a0:Int)<=(a0+1)/\(a0+1)<=ln ([48,49,50,51,52,53,54,55,56,57]:ZB))/\
((sub ([48,49,50,51,52,53,54,55,56,57]:ZB) a0 (a0+1))=(qi a0))/\
 True))
theorem zgy (a0:Int):zy (qo XK (zt (zb8 a0)) (λ_ _=>False) (λ_ _=>0)) {cfg sp with ann:=zw []} 3 60 [.int .i64 none (a0)] (qp9 a0)=qs3 a0:=by kernel_rfl
def znl:List (Nat×Ct KT):=[(60,zy2)]
abbrev q6l (a0:Int) (g:Int) (a2:Int) (a3:Int) (a4:Bool) (a5:Int) (h:Bool) (i:Bool) (j:Int) (a9:Int) (a:Int) (b:Int) (a12:Bool) (c:Int) (d:Int) (e:Int) (f:Int):PV KT:=.str ((qdw (Sign.mk a0 g a2 a3 a4 a5 h i j a9 a b a12 c d e f)))
abbrev q1w (a0:Int) (i:Int) (a2:Int) (a3:Int) (a4:Bool) (a5:Int) (j:Bool) (k:Bool) (l:Int) (a9:Int) (c:Int) (d:Int) (a12:Bool) (e:Int) (f:Int) (g:Int) (h:Int):Prop:=
 let a:=qi a2;
 let b:=qdw (Sign.mk a0 i a2 a3 a4 a5 j k l a9 c d a12 e f g h);
((-100<=a2/\a2<=100))/\
((a3=(-1)->
(qh (List.length a+List.length ([98]:ZB)))/\
((a4=true->
(qh (List.length (a++([98]:ZB))+List.length ([42]:ZB)))/\
(((a++([98]:ZB))++([42]:ZB))=b)/\
 True))/\
(a4=false->
((a++([98]:ZB))=b)/\
 True)))/\
(a3≠(-1)->
((a3=1->
(qh (List.length a+List.length ([35]:ZB)))/\
((a4=true->
(qh (List.length (a++([35]:ZB))+List.length ([42]:ZB)))/\
(((a++([35]:ZB))++([42]:ZB))=b)/\
 True))/\
(a4=false->
((a++([35]:ZB))=b)/\
 True)))/\
(a3≠1->
((a3=2->
(qh (List.length a+List.length ([110]:ZB)))/\
((a4=true->
(qh (List.length (a++([110]:ZB))+List.length ([42]:ZB)))/\
(((a++([110]:ZB))++([42]:ZB))=b)/\
 True))/\
(a4=false->
((a++([110]:ZB))=b)/\
 True)))/\
(a3≠2->
((a4=true->
(qh (List.length a+List.length ([42]:ZB)))/\
((a++([42]:ZB))=b)/\
 True))/\
(a4=false->
(a=b)/\
 True))))
theorem zto (a0:Int) (i:Int) (a2:Int) (a3:Int) (a4:Bool) (a5:Int) (g:Bool) (h:Bool) (j:Int) (a9:Int) (a:Int) (b:Int) (a12:Bool) (c:Int) (d:Int) (e:Int) (f:Int):zy (qo XK (zt znl) (λ_ _=>False) (λ_ _=>0)) {cfg sp with ann:=zw [],born:=λ_=>false} 3 57 [.agg [.int .i64 none (a0),.int .i64 none (i),.int .i64 none (a2),.int .i64 none (a3),.sb 0 false (a4) (a4=true) (a4=false),.int .i64 none (a5),.sb 0 false (g) (g=true) (g=false),.sb 0 false (h) (h=true) (h=false),.int .i64 none (j),.int .i64 none (a9),.int .i64 none (a),.int .i64 none (b),.sb 0 false (a12) (a12=true) (a12=false),.int .i64 none (c),.int .i64 none (d),.int .i64 none (e),.int .i64 none (f)]] (q6l a0 i a2 a3 a4 a5 g h j a9 a b a12 c d e f)=q1w a0 i a2 a3 a4 a5 g h j a9 a b a12 c d e f:=by kernel_rfl
def zpz:List (Nat×Ct KT):=[(57,zyz)]
abbrev q70 (a0:Int) (g:Int) (a2:Int) (a3:Int) (a4:Bool) (a5:Int) (h:Bool) (i:Bool) (j:Int) (a9:Int) (a:Int) (b:Int) (a12:Bool) (c:Int) (d:Int) (e:Int) (f:Int):PV KT:=.str ((qfm (Sign.mk a0 g a2 a3 a4 a5 h i j a9 a b a12 c d e f)))
abbrev q31 (a0:Int) (k:Int) (a2:Int) (a3:Int) (a4:Bool) (a5:Int) (d:Bool) (c:Bool) (l:Int) (a9:Int) (e:Int) (f:Int) (a12:Bool) (g:Int) (h:Int) (i:Int) (j:Int):Prop:=
 let a:=Sign.mk a0 k a2 a3 a4 a5 d c l a9 e f a12 g h i j;
 let b:=(([116]:ZB)++(qdw a))++(ix [([]:ZB),([94]:ZB),([118]:ZB),([62]:ZB)] a5);
((-100<=a2/\a2<=100))/\
(qh (List.length ([116]:ZB)+List.length (qdw a)))/\
(True)/\
(True)/\
(True)/\
(True)/\
(Wn a5 (ln [([]:ZB),([94]:ZB),([118]:ZB),([62]:ZB)]))/\
(qh (List.length (([116]:ZB)++(qdw a))+List.length (ix [([]:ZB),([94]:ZB),([118]:ZB),([62]:ZB)] a5)))/\
((d=true->
(qh (List.length b+List.length ([126]:ZB)))/\
((c=true->
(qh (List.length (b++([126]:ZB))+List.length ([33]:ZB)))/\
(((b++([126]:ZB))++([33]:ZB))=(qfm a))/\
 True))/\
(c=false->
((b++([126]:ZB))=(qfm a))/\
 True)))/\
(d=false->
((c=true->
(qh (List.length b+List.length ([33]:ZB)))/\
((b++([33]:ZB))=(qfm a))/\
 True))/\
(c=false->
(b=(qfm a))/\
 True))
theorem zwx (a0:Int) (i:Int) (a2:Int) (a3:Int) (a4:Bool) (a5:Int) (g:Bool) (h:Bool) (j:Int) (a9:Int) (a:Int) (b:Int) (a12:Bool) (c:Int) (d:Int) (e:Int) (f:Int):zy (qo XK (zt zpz) (λ_ _=>False) (λ_ _=>0)) {cfg sp with ann:=zw [],born:=λ_=>false} 3 58 [.agg [.int .i64 none (a0),.int .i64 none (i),.int .i64 none (a2),.int .i64 none (a3),.sb 0 false (a4) (a4=true) (a4=false),.int .i64 none (a5),.sb 0 false (g) (g=true) (g=false),.sb 0 false (h) (h=true) (h=false),.int .i64 none (j),.int .i64 none (a9),.int .i64 none (a),.int .i64 none (b),.sb 0 false (a12) (a12=true) (a12=false),.int .i64 none (c),.int .i64 none (d),.int .i64 none (e),.int .i64 none (f)]] (q70 a0 i a2 a3 a4 a5 g h j a9 a b a12 c d e f)=q31 a0 i a2 a3 a4 a5 g h j a9 a b a12 c d e f:=by kernel_rfl
def zmr:List (Nat×Ct KT):=[(55,zsr),(56,z3u),(57,zyz),(58,z3v),(59,zy1),(60,zy2)]
abbrev q5r (a0:Int) (g:Int) (a2:Int) (a3:Int) (a4:Bool) (a5:Int) (h:Bool) (i:Bool) (j:Int) (a9:Int) (a:Int) (b:Int) (a12:Bool) (c:Int) (d:Int) (e:Int) (f:Int):PV KT:=.tuple [.str (((qb6 (Sign.mk a0 g a2 a3 a4 a5 h i j a9 a b a12 c d e f)).1)),.int .i64 none (((qb6 (Sign.mk a0 g a2 a3 a4 a5 h i j a9 a b a12 c d e f)).2))]
abbrev q0k (a0:Int) (j:Int) (a2:Int) (a3:Int) (a4:Bool) (a5:Int) (l:Bool) (m:Bool) (k:Int) (a9:Int) (g:Int) (h:Int) (a12:Bool) (b:Int) (d:Int) (e:Int) (f:Int):Prop:=
 let i:=([40]:ZB)++((qdc k a9 g h).1);
 let c:=Sign.mk a0 j a2 a3 a4 a5 l m k a9 g h a12 b d e f;
 let a:=qb6 c;
(True)/\
(((zg c)≠0->
(([]:ZB)=(a.1))/\
(((zg c):Int)=(a.2))/\
 True))/\
((zg c)=0->
(True)/\
((a0=1->
((-100<=a2/\a2<=100))/\
(qh (List.length ((qnq j).1)+List.length (qdw c)))/\
((((qnq j).1)++(qdw c))=(a.1))/\
((0:Int)=(a.2))/\
 True))/\
(a0≠1->
((a0=2->
(qh (List.length ([114]:ZB)+List.length ((qnq j).1)))/\
((([114]:ZB)++((qnq j).1))=(a.1))/\
((0:Int)=(a.2))/\
 True))/\
(a0≠2->
((a0=3->
(([46]:ZB)=(a.1))/\
((0:Int)=(a.2))/\
 True))/\
(a0≠3->
((a0=4->
((-100<=a2/\a2<=100/\0<=a5/\a5<=3))/\
((qfm c)=(a.1))/\
((0:Int)=(a.2))/\
 True))/\
(a0≠4->
((a0=5->
(True)/\
((a12=true->
(qh (List.length ([40]:ZB)+List.length ((qdc k a9 g h).1)))/\
(qh (List.length i+List.length ([41,124]:ZB)))/\
((i++([41,124]:ZB))=(a.1))/\
((0:Int)=(a.2))/\
 True))/\
(a12=false->
(qh (List.length ([40]:ZB)+List.length ((qdc k a9 g h).1)))/\
(qh (List.length i+List.length ([41]:ZB)))/\
((i++([41]:ZB))=(a.1))/\
((0:Int)=(a.2))/\
 True)))/\
(a0≠5->
((a0=6->
((-100<=b/\b<=100))/\
(qh (List.length (qi b)+List.length ([47]:ZB)))/\
((-100<=d/\d<=100))/\
(qh (List.length ((qi b)++([47]:ZB))+List.length (qi d)))/\
((((qi b)++([47]:ZB))++(qi d))=(a.1))/\
((0:Int)=(a.2))/\
 True))/\
(a0≠6->
((a0=7->
(True)/\
(True)/\
(True)/\
(True)/\
(True)/\
(Wn e (ln [([67]:ZB),([]:ZB),([]:ZB),([70]:ZB),([71]:ZB)]))/\
(qh (List.length ([64]:ZB)+List.length (ix [([67]:ZB),([]:ZB),([]:ZB),([70]:ZB),([71]:ZB)] e)))/\
((-100<=f/\f<=100))/\
(qh (List.length (([64]:ZB)++(ix [([67]:ZB),([]:ZB),([]:ZB),([70]:ZB),([71]:ZB)] e))+List.length (qi f)))/\
(((([64]:ZB)++(ix [([67]:ZB),([]:ZB),([]:ZB),([70]:ZB),([71]:ZB)] e))++(qi f))=(a.1))/\
((0:Int)=(a.2))/\
 True))/\
(a0≠7->
((a0=8->
((-100<=b/\b<=100))/\
(qh (List.length ([38]:ZB)+List.length (qi b)))/\
((([38]:ZB)++(qi b))=(a.1))/\
((0:Int)=(a.2))/\
 True))/\
(a0≠8->
((a0=9->
(([91]:ZB)=(a.1))/\
((0:Int)=(a.2))/\
 True))/\
(a0≠9->
((a0=10->
((-100<=b/\b<=100))/\
(qh (List.length ([93]:ZB)+List.length (qi b)))/\
((([93]:ZB)++(qi b))=(a.1))/\
((0:Int)=(a.2))/\
 True))/\
(a0≠10->
((a0=11->
(([116,117,114,110]:ZB)=(a.1))/\
((0:Int)=(a.2))/\
 True))/\
(a0≠11->
(([115,105,103]:ZB)=(a.1))/\
((0:Int)=(a.2))/\
 True))))))))))))
theorem zrc (a0:Int) (i:Int) (a2:Int) (a3:Int) (a4:Bool) (a5:Int) (g:Bool) (h:Bool) (j:Int) (a9:Int) (a:Int) (b:Int) (a12:Bool) (c:Int) (d:Int) (e:Int) (f:Int):zy (qo XK (zt zmr) (λ_ _=>False) (λ_ _=>0)) {cfg sp with ann:=zw [],born:=λ_=>false} 6 22 [.agg [.int .i64 none (a0),.int .i64 none (i),.int .i64 none (a2),.int .i64 none (a3),.sb 0 false (a4) (a4=true) (a4=false),.int .i64 none (a5),.sb 0 false (g) (g=true) (g=false),.sb 0 false (h) (h=true) (h=false),.int .i64 none (j),.int .i64 none (a9),.int .i64 none (a),.int .i64 none (b),.sb 0 false (a12) (a12=true) (a12=false),.int .i64 none (c),.int .i64 none (d),.int .i64 none (e),.int .i64 none (f)]] (q5r a0 i a2 a3 a4 a5 g h j a9 a b a12 c d e f)=q0k a0 i a2 a3 a4 a5 g h j a9 a b a12 c d e f:=by kernel_rfl
def zay:List (Nat×Ct KT):=[]
abbrev qxz (a0:ZB):PV KT:=.tuple [.int .i64 none (((qz a0).1)),.sb 0 false (((qz a0).2)) (((qz a0).2)=true) (((qz a0).2)=false)]
abbrev qso (a0:ZB):Prop:=
 let a:=(qz a0).2;
 let b:=(qz a0).1;
((a0=([]:ZB)->
((0:Int)=b)/\
(false=a)/\
 True))/\
(a0≠([]:ZB)->
(Wn 0 (ln a0))/\
(((bx a0 0)=48->
((1<(ln a0)->
((0:Int)=b)/\
(false=a)/\
 True))/\
((ln a0)<=1->
(qcu a0 0 0)/\
(∀ x3:Int,
(∀ x4:Int,
 let c:=(10 * x3)+((bx a0 x4)-48);
(qcu a0 x3 x4->
((x4<(ln a0)->
(Wn x4 (ln a0))/\
((48<=(bx a0 x4)->
((57<(bx a0 x4)->
((0:Int)=b)/\
(false=a)/\
 True))/\
((bx a0 x4)<=57->
(I64 (10 * x3))/\
(Wn x4 (ln a0))/\
(U8 ((bx a0 x4)-48))/\
(I64 ((bx a0 x4)-48))/\
(I64 c)/\
((1099511627776<c->
((0:Int)=b)/\
(false=a)/\
 True))/\
(c<=1099511627776->
(I64 (x4+1))/\
(qcu a0 c (x4+1))/\
 qd3 a0 c (x4+1)<qd3 a0 x3 x4))))/\
((bx a0 x4)<48->
((0:Int)=b)/\
(false=a)/\
 True)))/\
((ln a0)<=x4->
((x3:Int)=b)/\
(true=a)/\
 True)))))))/\
((bx a0 0)≠48->
(qcu a0 0 0)/\
(∀ x2:Int,
(∀ x3:Int,
 let d:=(10 * x2)+((bx a0 x3)-48);
(qcu a0 x2 x3->
((x3<(ln a0)->
(Wn x3 (ln a0))/\
((48<=(bx a0 x3)->
((57<(bx a0 x3)->
((0:Int)=b)/\
(false=a)/\
 True))/\
((bx a0 x3)<=57->
(I64 (10 * x2))/\
(Wn x3 (ln a0))/\
(U8 ((bx a0 x3)-48))/\
(I64 ((bx a0 x3)-48))/\
(I64 d)/\
((1099511627776<d->
((0:Int)=b)/\
(false=a)/\
 True))/\
(d<=1099511627776->
(I64 (x3+1))/\
(qcu a0 d (x3+1))/\
 qd3 a0 d (x3+1)<qd3 a0 x2 x3))))/\
((bx a0 x3)<48->
((0:Int)=b)/\
(false=a)/\
 True)))/\
((ln a0)<=x3->
((x2:Int)=b)/\
(true=a)/\
 True))))))
theorem zfu (a0:ZB):zy (qo XK (zt zay) (λj ns=>match j,ns with | 0,[.i a,.i b]=>qcu a0 a b | _,_=>False) (λj ns=>match j,ns with | 0,[.i a,.i b]=>qd3 a0 a b | _,_=>0)) {cfg sp with ann:=zw [(166,122,.inv 0 [.one 4 (.int .i64),.one 5 (.int .i64)] [])],born:=λ_=>false} 3 166 [.str (a0)] (qxz a0)=qso a0:=by kernel_rfl
def za7:List (Nat×Ct KT):=[(166,zjk)]
abbrev qx4 (a0:ZB):PV KT:=.tuple [.int .i64 none (((qan a0).1)),.sb 0 false (((qan a0).2)) (((qan a0).2)=true) (((qan a0).2)=false)]
abbrev qss (a0:ZB):Prop:=
((a0=([]:ZB)->
((ln a0<=1000000))/\
((((qz a0).1):Int)=((qan a0).1))/\
(((qz a0).2)=((qan a0).2))/\
 True))/\
(a0≠([]:ZB)->
(Wn 0 (ln a0))/\
(((bx a0 0)≠45->
((ln a0<=1000000))/\
((((qz a0).1):Int)=((qan a0).1))/\
(((qz a0).2)=((qan a0).2))/\
 True))/\
((bx a0 0)=45->
((0:Int)<=1/\1<=ln a0)/\
((ln (fr a0 1)<=1000000))/\
(I64 (-((qz (fr a0 1)).1)))/\
((((qz (fr a0 1)).2)=true->
(((-((qz (fr a0 1)).1)):Int)=((qan a0).1))/\
((decide (0<((qz (fr a0 1)).1)))=((qan a0).2))/\
 True))/\
(((qz (fr a0 1)).2)=false->
(((-((qz (fr a0 1)).1)):Int)=((qan a0).1))/\
(false=((qan a0).2))/\
 True)))
theorem zga (a0:ZB):zy (qo XK (zt za7) (λ_ _=>False) (λ_ _=>0)) {cfg sp with ann:=zw [],born:=λ_=>false} 3 172 [.str (a0)] (qx4 a0)=qss a0:=by kernel_rfl
def qv6 (a0:ZB) (a:Int) (b:ZB) (c:ZB) (d:Bool):Prop:=
(b=((qgl a0 a).1))/\
(c=((qgl a0 a).2.1))/\
(d=((qgl a0 a).2.2))/\
 True
def zl4:List (Nat×Ct KT):=[]
abbrev q5i (a0:ZB) (a:Int):PV KT:=.tuple [.str (((qgl a0 a).1)),.str (((qgl a0 a).2.1)),.sb 0 false (((qgl a0 a).2.2)) (((qgl a0 a).2.2)=true) (((qgl a0 a).2.2)=false)]
abbrev qz9 (a0:ZB) (a:Int):Prop:=
(qhf a0 a 0 0 0)/\
(∀ x0:Int,
(∀ x1:Int,
(∀ x2:Int,
(qhf a0 a x0 x1 x2->
((x2<(ln a0)->
(Wn x2 (ln a0))/\
(((bx a0 x2)=a->
(I64 (x1+1))/\
(I64 (x2+1))/\
(qhf a0 a x2 (x1+1) (x2+1))/\
 qfy a0 a x2 (x1+1) (x2+1)<qfy a0 a x0 x1 x2))/\
((bx a0 x2)≠a->
(I64 (x2+1))/\
(qhf a0 a x0 x1 (x2+1))/\
 qfy a0 a x0 x1 (x2+1)<qfy a0 a x0 x1 x2)))/\
((ln a0)<=x2->
((x1≠1->
 qv6 a0 a ([]:ZB) ([]:ZB) false))/\
(x1=1->
((0:Int)<=x0/\x0<=ln a0)/\
(I64 (x0+1))/\
((0:Int)<=(x0+1)/\(x0+1)<=ln a0)/\
 qv6 a0 a (upto a0 x0) (fr a0 (x0+1)) true))))))
theorem zqn (a0:ZB) (a:Int):zy (qo XK (zt zl4) (λj ns=>match j,ns with | 0,[.i b,.i c,.i d]=>qhf a0 a b c d | _,_=>False) (λj ns=>match j,ns with | 0,[.i b,.i c,.i d]=>qfy a0 a b c d | _,_=>0)) {cfg sp with ann:=zw [(165,58,.inv 0 [.one 7 (.int .i64),.one 8 (.int .i64),.one 9 (.int .i64)] [])],born:=λ_=>false} 3 165 [.str (a0),.int .u8 none (a)] (q5i a0 a)=qz9 a0 a:=by kernel_rfl
def zge:List (Nat×Ct KT):=[(119,zji)]
abbrev q0f (a0:Int) (a:Int) (a2:Int) (a3:Int):PV KT:=.tuple [.str (((qdc a0 a a2 a3).1)),.int .i64 none (((qdc a0 a a2 a3).2))]
abbrev qwa (a0:Int) (d:Int) (a2:Int) (a3:Int):Prop:=
 let a:=qdc a0 d a2 a3;
 let b:=UInt8.ofNat (Int.toNat ((48+d)));
 let c:=UInt8.ofNat (Int.toNat ((48+a0)));
(True)/\
(((qbe a0 d a2 a3)≠0->
(([]:ZB)=(a.1))/\
(((qbe a0 d a2 a3):Int)=(a.2))/\
 True))/\
((qbe a0 d a2 a3)=0->
((a0=3->
(I64 (48+a0))/\
(U8 (48+a0))/\
(I64 (48+d))/\
(U8 (48+d))/\
(U8 ((48+a0)))/\
(U8 ((48+d)))/\
((a2=3->
(qh (List.length [c,b]+List.length ([79]:ZB)))/\
((a3=3->
(qh (List.length ([c,b]++([79]:ZB))+List.length ([46]:ZB)))/\
((([c,b]++([79]:ZB))++([46]:ZB))=(a.1))/\
((0:Int)=(a.2))/\
 True))/\
(a3≠3->
(([c,b]++([79]:ZB))=(a.1))/\
((0:Int)=(a.2))/\
 True)))/\
(a2≠3->
(qh (List.length [c,b]+List.length ([67]:ZB)))/\
((a3=3->
(qh (List.length ([c,b]++([67]:ZB))+List.length ([46]:ZB)))/\
((([c,b]++([67]:ZB))++([46]:ZB))=(a.1))/\
((0:Int)=(a.2))/\
 True))/\
(a3≠3->
(([c,b]++([67]:ZB))=(a.1))/\
((0:Int)=(a.2))/\
 True))))/\
(a0≠3->
((d=3->
(I64 (48+a0))/\
(U8 (48+a0))/\
(I64 (48+d))/\
(U8 (48+d))/\
(U8 ((48+a0)))/\
(U8 ((48+d)))/\
((a2=3->
(qh (List.length [c,b]+List.length ([79]:ZB)))/\
((a3=3->
(qh (List.length ([c,b]++([79]:ZB))+List.length ([46]:ZB)))/\
((([c,b]++([79]:ZB))++([46]:ZB))=(a.1))/\
((0:Int)=(a.2))/\
 True))/\
(a3≠3->
(([c,b]++([79]:ZB))=(a.1))/\
((0:Int)=(a.2))/\
 True)))/\
(a2≠3->
(qh (List.length [c,b]+List.length ([67]:ZB)))/\
((a3=3->
(qh (List.length ([c,b]++([67]:ZB))+List.length ([46]:ZB)))/\
((([c,b]++([67]:ZB))++([46]:ZB))=(a.1))/\
((0:Int)=(a.2))/\
 True))/\
(a3≠3->
(([c,b]++([67]:ZB))=(a.1))/\
((0:Int)=(a.2))/\
 True))))/\
(d≠3->
((a2=3->
(qh (List.length ([]:ZB)+List.length ([79]:ZB)))/\
((a3=3->
(qh (List.length (([]:ZB)++([79]:ZB))+List.length ([46]:ZB)))/\
(((([]:ZB)++([79]:ZB))++([46]:ZB))=(a.1))/\
((0:Int)=(a.2))/\
 True))/\
(a3≠3->
((([]:ZB)++([79]:ZB))=(a.1))/\
((0:Int)=(a.2))/\
 True)))/\
(a2≠3->
(qh (List.length ([]:ZB)+List.length ([67]:ZB)))/\
((a3=3->
(qh (List.length (([]:ZB)++([67]:ZB))+List.length ([46]:ZB)))/\
(((([]:ZB)++([67]:ZB))++([46]:ZB))=(a.1))/\
((0:Int)=(a.2))/\
 True))/\
(a3≠3->
((([]:ZB)++([67]:ZB))=(a.1))/\
((0:Int)=(a.2))/\
 True)))))
theorem zmi (a0:Int) (a:Int) (a2:Int) (a3:Int):zy (qo XK (zt zge) (λ_ _=>False) (λ_ _=>0)) {cfg sp with ann:=zw [],born:=λ_=>false} 3 59 [.agg [.int .i64 none (a0),.int .i64 none (a),.int .i64 none (a2),.int .i64 none (a3)]] (q0f a0 a a2 a3)=qwa a0 a a2 a3:=by kernel_rfl
def qzj (a0:Int) (a:Int) (b:Int) (c:Int) (d:Int) (e:Int):Prop:=
((a:Int)=((ofM a0).1))/\
((b:Int)=((ofM a0).2.1))/\
((c:Int)=((ofM a0).2.2.1))/\
((d:Int)=((ofM a0).2.2.2))/\
((e:Int)=((0:Int)))/\
 True
def zxn:List (Nat×Ct KT):=[]
abbrev zi5 (a0:Int):PV KT:=.tuple [.agg [.int .i64 none (((ofM a0).1)),.int .i64 none (((ofM a0).2.1)),.int .i64 none (((ofM a0).2.2.1)),.int .i64 none (((ofM a0).2.2.2))],.int .i64 none (((0:Int)))]
abbrev zfy (a0:Int):Prop:=
((a0<0->
 qzj a0 0 0 0 0 2))/\
(0<=a0->
((15<a0->
 qzj a0 0 0 0 0 2))/\
(a0<=15->
((8:Int)≠0/\I64 (Int.tdiv a0 8))/\
(I64 (2+(Int.tdiv a0 8)))/\
((4:Int)≠0/\I64 (Int.tdiv a0 4))/\
((2:Int)≠0)/\
(I64 (2+(Int.tmod (Int.tdiv a0 4) 2)))/\
((2:Int)≠0/\I64 (Int.tdiv a0 2))/\
((2:Int)≠0)/\
(I64 (2+(Int.tmod (Int.tdiv a0 2) 2)))/\
((2:Int)≠0)/\
(I64 (2+(Int.tmod a0 2)))/\
 qzj a0 (2+(Int.tdiv a0 8)) (2+(Int.tmod (Int.tdiv a0 4) 2)) (2+(Int.tmod (Int.tdiv a0 2) 2)) (2+(Int.tmod a0 2)) 0))
theorem z2q (a0:Int):zy (qo XK (zt zxn) (λ_ _=>False) (λ_ _=>0)) {cfg sp with ann:=zw [],born:=λ_=>false} 3 173 [.int .i64 none (a0)] (zi5 a0)=zfy a0:=by kernel_rfl
def qpv (a0:ZB) (a:Int) (b:Int) (c:Int) (d:Int) (e:Int):Prop:=
((a:Int)=((qab a0).1.1))/\
((b:Int)=((qab a0).1.2.1))/\
((c:Int)=((qab a0).1.2.2.1))/\
((d:Int)=((qab a0).1.2.2.2))/\
((e:Int)=((qab a0).2))/\
 True
def za3:List (Nat×Ct KT):=[(173,zso),(59,zy1)]
abbrev qx1 (a0:ZB):PV KT:=.tuple [.agg [.int .i64 none (((qab a0).1.1)),.int .i64 none (((qab a0).1.2.1)),.int .i64 none (((qab a0).1.2.2.1)),.int .i64 none (((qab a0).1.2.2.2))],.int .i64 none (((qab a0).2))]
abbrev qsq (a0:ZB):Prop:=
(qgi a0 0)/\
(∀ x0:Int,
(qgi a0 x0->
((x0<16->
((0<=x0/\x0<=15))/\
(True)/\
((((qdc ((ofM x0).1) ((ofM x0).2.1) ((ofM x0).2.2.1) ((ofM x0).2.2.2)).1)=a0->
 qpv a0 ((ofM x0).1) ((ofM x0).2.1) ((ofM x0).2.2.1) ((ofM x0).2.2.2) 0))/\
(((qdc ((ofM x0).1) ((ofM x0).2.1) ((ofM x0).2.2.1) ((ofM x0).2.2.2)).1)≠a0->
(I64 (x0+1))/\
(qgi a0 (x0+1))/\
 qh0 a0 (x0+1)<qh0 a0 x0)))/\
(16<=x0->
 qpv a0 0 0 0 0 3)))
theorem zf2 (a0:ZB):zy (qo XK (zt za3) (λj ns=>match j,ns with | 0,[.i a]=>qgi a0 a | _,_=>False) (λj ns=>match j,ns with | 0,[.i a]=>qh0 a0 a | _,_=>0)) {cfg sp with ann:=zw [(171,26,.inv 0 [.one 4 (.int .i64)] [])],born:=λ_=>false} 6 171 [.str (a0)] (qx1 a0)=qsq a0:=by kernel_rfl
end Go.Proofs.YtpgchdcifbaioaaGreatDoor
