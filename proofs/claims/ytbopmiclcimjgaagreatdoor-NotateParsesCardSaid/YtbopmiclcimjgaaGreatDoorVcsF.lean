import Derived.Test.YtbopmiclcimjgaaGreatDoorCts
namespace Go.Proofs.YtbopmiclcimjgaaGreatDoor
open Go Go.E2 Go.E3
set_option maxRecDepth 100000
variable {sp:Nat->Option (List V->Heap->Option (CR×Heap))}
def qh (a0:ZB) (r0:Int) (r1:Int) (r2:Int) (r3:Int) (r4:Bool) (r5:Int) (r6:Bool) (r7:Bool) (r8:Int) (r9:Int) (r10:Int) (r11:Int) (r12:Bool) (r13:Int) (r14:Int) (r15:Int) (r16:Int) (r17:Int):Prop:=
((r0:Int)=(((zc a0).1).Kind))/\
((r1:Int)=(((zc a0).1).Value))/\
((r2:Int)=(((zc a0).1).Place))/\
((r3:Int)=(((zc a0).1).Acc))/\
(r4=(((zc a0).1).Color))/\
((r5:Int)=(((zc a0).1).Stem))/\
(r6=(((zc a0).1).Oblique))/\
(r7=(((zc a0).1).Last))/\
((r8:Int)=(((zc a0).1).MensMax))/\
((r9:Int)=(((zc a0).1).MensMod))/\
((r10:Int)=(((zc a0).1).MensTem))/\
((r11:Int)=(((zc a0).1).MensPro))/\
(r12=(((zc a0).1).Stroke))/\
((r13:Int)=(((zc a0).1).N))/\
((r14:Int)=(((zc a0).1).D))/\
((r15:Int)=(((zc a0).1).ClefStep))/\
((r16:Int)=(((zc a0).1).ClefLine))/\
((r17:Int)=((zc a0).2))/\
 True
def zds:List (Nat×Ct KT):=[(29,zp0),(125,zhw),(123,zhs),(124,zhu),(101,za7),(100,zhk),(36,zmc)]
abbrev qzm (a0:ZB):PV KT:=.tuple [.agg [.int .i64 none ((((zc a0).1).Kind)),.int .i64 none ((((zc a0).1).Value)),.int .i64 none ((((zc a0).1).Place)),.int .i64 none ((((zc a0).1).Acc)),.sb 0 false ((((zc a0).1).Color)) ((((zc a0).1).Color)=true) ((((zc a0).1).Color)=false),.int .i64 none ((((zc a0).1).Stem)),.sb 0 false ((((zc a0).1).Oblique)) ((((zc a0).1).Oblique)=true) ((((zc a0).1).Oblique)=false),.sb 0 false ((((zc a0).1).Last)) ((((zc a0).1).Last)=true) ((((zc a0).1).Last)=false),.int .i64 none ((((zc a0).1).MensMax)),.int .i64 none ((((zc a0).1).MensMod)),.int .i64 none ((((zc a0).1).MensTem)),.int .i64 none ((((zc a0).1).MensPro)),.sb 0 false ((((zc a0).1).Stroke)) ((((zc a0).1).Stroke)=true) ((((zc a0).1).Stroke)=false),.int .i64 none ((((zc a0).1).N)),.int .i64 none ((((zc a0).1).D)),.int .i64 none ((((zc a0).1).ClefStep)),.int .i64 none ((((zc a0).1).ClefLine))],.int .i64 none (((zc a0).2))]
abbrev qhj (v0:ZB) (v1:Int) (p:Prop):Prop:=
((((k8 (upto (fr v0 1) v1)).1):Int)=((k8 (upto (fr v0 1) v1)).1))/\
 p
abbrev qpt (v0:ZB) (v1:Int) (v2:Int) (v3:ZB) (p:Prop):Prop:=
((((k8 (upto (fr v0 1) v1)).1):Int)=((k8 (upto (fr v0 1) v1)).1))/\
((v2:Int)=v2)/\
(((qu v3 42).2)=((qu v3 42).2))/\
 p
abbrev qvr (a0:ZB):Prop:=
 let l9_:=bx ([98,35,110]:ZB) 2;
 let l8_:=bx ([98,35,110]:ZB) 1;
 let l7_:=bx ([98,35,110]:ZB) 0;
 let l6_:=ln (fr a0 1);
 let l5_:=qu (fr a0 1) (bx ([67,70,71]:ZB) 2);
 let l4_:=qu (fr a0 1) (bx ([67,70,71]:ZB) 1);
 let l3_:=qu (fr a0 1) (bx ([67,70,71]:ZB) 0);
 let l0_:=upto (fr a0 1) (l6_-1);
 let l2_:=kc (upto l0_ ((ln l0_)-1));
 let l1_:=zn (Sign.mk 5 0 0 0 false 0 false false ((kc l0_).1.1) ((kc l0_).1.2.1) ((kc l0_).1.2.2.1) ((kc l0_).1.2.2.2) false 0 0 0 0);
((a0=([]:ZB)->
 qh a0 0 0 0 0 false 0 false false 0 0 0 0 false 0 0 0 0 3))/\
(a0≠([]:ZB)->
((a0=([46]:ZB)->
(True)/\
(((zn (Sign.mk 3 0 0 0 false 0 false false 0 0 0 0 false 0 0 0 0))≠0->
 qh a0 0 0 0 0 false 0 false false 0 0 0 0 false 0 0 0 0 (zn (Sign.mk 3 0 0 0 false 0 false false 0 0 0 0 false 0 0 0 0))))/\
((zn (Sign.mk 3 0 0 0 false 0 false false 0 0 0 0 false 0 0 0 0))=0->
 qh a0 3 0 0 0 false 0 false false 0 0 0 0 false 0 0 0 0 0)))/\
(a0≠([46]:ZB)->
((a0=([91]:ZB)->
(True)/\
(((zn (Sign.mk 9 0 0 0 false 0 false false 0 0 0 0 false 0 0 0 0))≠0->
 qh a0 0 0 0 0 false 0 false false 0 0 0 0 false 0 0 0 0 (zn (Sign.mk 9 0 0 0 false 0 false false 0 0 0 0 false 0 0 0 0))))/\
((zn (Sign.mk 9 0 0 0 false 0 false false 0 0 0 0 false 0 0 0 0))=0->
 qh a0 9 0 0 0 false 0 false false 0 0 0 0 false 0 0 0 0 0)))/\
(a0≠([91]:ZB)->
((a0=([116,117,114,110]:ZB)->
(True)/\
(((zn (Sign.mk 11 0 0 0 false 0 false false 0 0 0 0 false 0 0 0 0))≠0->
 qh a0 0 0 0 0 false 0 false false 0 0 0 0 false 0 0 0 0 (zn (Sign.mk 11 0 0 0 false 0 false false 0 0 0 0 false 0 0 0 0))))/\
((zn (Sign.mk 11 0 0 0 false 0 false false 0 0 0 0 false 0 0 0 0))=0->
 qh a0 11 0 0 0 false 0 false false 0 0 0 0 false 0 0 0 0 0)))/\
(a0≠([116,117,114,110]:ZB)->
((a0=([115,105,103]:ZB)->
(True)/\
(((zn (Sign.mk 12 0 0 0 false 0 false false 0 0 0 0 false 0 0 0 0))≠0->
 qh a0 0 0 0 0 false 0 false false 0 0 0 0 false 0 0 0 0 (zn (Sign.mk 12 0 0 0 false 0 false false 0 0 0 0 false 0 0 0 0))))/\
((zn (Sign.mk 12 0 0 0 false 0 false false 0 0 0 0 false 0 0 0 0))=0->
 qh a0 12 0 0 0 false 0 false false 0 0 0 0 false 0 0 0 0 0)))/\
(a0≠([115,105,103]:ZB)->
(Wn 0 (ln a0))/\
(((bx a0 0)=114->
((0:Int)<=1/\1<=ln a0)/\
(True)/\
((((jy (fr a0 1)).2)≠0->
 qh a0 0 0 0 0 false 0 false false 0 0 0 0 false 0 0 0 0 3))/\
(((jy (fr a0 1)).2)=0->
(True)/\
(((zn (Sign.mk 2 ((jy (fr a0 1)).1) 0 0 false 0 false false 0 0 0 0 false 0 0 0 0))≠0->
 qh a0 0 0 0 0 false 0 false false 0 0 0 0 false 0 0 0 0 (zn (Sign.mk 2 ((jy (fr a0 1)).1) 0 0 false 0 false false 0 0 0 0 false 0 0 0 0))))/\
((zn (Sign.mk 2 ((jy (fr a0 1)).1) 0 0 false 0 false false 0 0 0 0 false 0 0 0 0))=0->
 qh a0 2 ((jy (fr a0 1)).1) 0 0 false 0 false false 0 0 0 0 false 0 0 0 0 0))))/\
((bx a0 0)≠114->
(((bx a0 0)=116->
((0:Int)<=1/\1<=ln a0)/\
((z9 a0 0 (fr a0 1))/\
(∀ x7:Int,
(z9 a0 x7 (fr a0 1)->
((x7<l6_->
(Wn x7 l6_)/\
((48<=(bx (fr a0 1) x7)->
(Wn x7 l6_)/\
(((bx (fr a0 1) x7)<=57->
(I64 (x7+1))/\
(z9 a0 (x7+1) (fr a0 1))/\
 jd a0 (x7+1) (fr a0 1)<jd a0 x7 (fr a0 1)))/\
(57<(bx (fr a0 1) x7)->
((x7=0->
(Wn x7 l6_)/\
(((bx (fr a0 1) x7)=45->
(I64 (x7+1))/\
(z9 a0 (x7+1) (fr a0 1))/\
 jd a0 (x7+1) (fr a0 1)<jd a0 x7 (fr a0 1)))/\
((bx (fr a0 1) x7)≠45->
(jb a0 x7 (fr a0 1))/\
 True)))/\
(x7≠0->
(jb a0 x7 (fr a0 1))/\
 True))))/\
((bx (fr a0 1) x7)<48->
((x7=0->
(Wn x7 l6_)/\
(((bx (fr a0 1) x7)=45->
(I64 (x7+1))/\
(z9 a0 (x7+1) (fr a0 1))/\
 jd a0 (x7+1) (fr a0 1)<jd a0 x7 (fr a0 1)))/\
((bx (fr a0 1) x7)≠45->
(jb a0 x7 (fr a0 1))/\
 True)))/\
(x7≠0->
(jb a0 x7 (fr a0 1))/\
 True))))/\
(l6_<=x7->
(jb a0 x7 (fr a0 1))/\
 True))))/\
(∀ x7:Int,
 let l11_:=fr (fr a0 1) x7;
(jb a0 x7 (fr a0 1)->
((0:Int)<=x7/\x7<=ln (fr a0 1))/\
((ln (upto (fr a0 1) x7)<=1000000))/\
((0:Int)<=x7/\x7<=ln (fr a0 1))/\
(True)/\
(True)/\
(True)/\
((Wn 0 (ln ([98,35,110]:ZB)))/\
((U8 l7_))/\
((((qu l11_ l7_).2)=true->
(Wn 0 (ln ([(-1),1,2]:List Int)))/\
(qhj a0 x7 (
(jt a0 ((qu l11_ l7_).1) (ix ([(-1),1,2]:List Int) 0) l11_)/\
 True))))/\
(((qu l11_ l7_).2)=false->
(Wn 1 (ln ([98,35,110]:ZB)))/\
((U8 l8_))/\
((((qu l11_ l8_).2)=true->
(Wn 1 (ln ([(-1),1,2]:List Int)))/\
(qhj a0 x7 (
(jt a0 ((qu l11_ l8_).1) (ix ([(-1),1,2]:List Int) 1) l11_)/\
 True))))/\
(((qu l11_ l8_).2)=false->
(Wn 2 (ln ([98,35,110]:ZB)))/\
((U8 l9_))/\
((((qu l11_ l9_).2)=true->
(Wn 2 (ln ([(-1),1,2]:List Int)))/\
(qhj a0 x7 (
(jt a0 ((qu l11_ l9_).1) (ix ([(-1),1,2]:List Int) 2) l11_)/\
 True))))/\
(((qu l11_ l9_).2)=false->
(qhj a0 x7 (
(jt a0 l11_ 0 l11_)/\
 True))))))/\
(∀ x9:ZB,
 let l12_:=(qu x9 42).1;
(∀ x10:Int,
(jt a0 x9 x10 l11_->
((U8 42))/\
((Wn 0 (ln ([94,118,62]:ZB)))/\
((U8 (bx ([94,118,62]:ZB) 0)))/\
((((qu l12_ (bx ([94,118,62]:ZB) 0)).2)=true->
(qpt a0 x7 x10 x9 (
(qbt a0 ((qu l12_ (bx ([94,118,62]:ZB) 0)).1) 1 l12_)/\
 True))))/\
(((qu l12_ (bx ([94,118,62]:ZB) 0)).2)=false->
(Wn 1 (ln ([94,118,62]:ZB)))/\
((U8 (bx ([94,118,62]:ZB) 1)))/\
((((qu l12_ (bx ([94,118,62]:ZB) 1)).2)=true->
(qpt a0 x7 x10 x9 (
(qbt a0 ((qu l12_ (bx ([94,118,62]:ZB) 1)).1) 2 l12_)/\
 True))))/\
(((qu l12_ (bx ([94,118,62]:ZB) 1)).2)=false->
(Wn 2 (ln ([94,118,62]:ZB)))/\
((U8 (bx ([94,118,62]:ZB) 2)))/\
((((qu l12_ (bx ([94,118,62]:ZB) 2)).2)=true->
(qpt a0 x7 x10 x9 (
(qbt a0 ((qu l12_ (bx ([94,118,62]:ZB) 2)).1) 3 l12_)/\
 True))))/\
(((qu l12_ (bx ([94,118,62]:ZB) 2)).2)=false->
(qpt a0 x7 x10 x9 (
(qbt a0 l12_ 0 l12_)/\
 True))))))/\
(∀ x12:ZB,
(∀ x13:Int,
(qbt a0 x12 x13 l12_->
((U8 126))/\
((U8 33))/\
((((k8 (upto (fr a0 1) x7)).2)=true->
((((qu ((qu x12 126).1) 33).1)≠([]:ZB)->
 qh a0 0 0 0 0 false 0 false false 0 0 0 0 false 0 0 0 0 3))/\
(((qu ((qu x12 126).1) 33).1)=([]:ZB)->
(True)/\
(((zn (Sign.mk 4 0 ((k8 (upto (fr a0 1) x7)).1) x10 ((qu x9 42).2) x13 ((qu x12 126).2) ((qu ((qu x12 126).1) 33).2) 0 0 0 0 false 0 0 0 0))≠0->
 qh a0 0 0 0 0 false 0 false false 0 0 0 0 false 0 0 0 0 (zn (Sign.mk 4 0 ((k8 (upto (fr a0 1) x7)).1) x10 ((qu x9 42).2) x13 ((qu x12 126).2) ((qu ((qu x12 126).1) 33).2) 0 0 0 0 false 0 0 0 0))))/\
((zn (Sign.mk 4 0 ((k8 (upto (fr a0 1) x7)).1) x10 ((qu x9 42).2) x13 ((qu x12 126).2) ((qu ((qu x12 126).1) 33).2) 0 0 0 0 false 0 0 0 0))=0->
 qh a0 4 0 ((k8 (upto (fr a0 1) x7)).1) x10 ((qu x9 42).2) x13 ((qu x12 126).2) ((qu ((qu x12 126).1) 33).2) 0 0 0 0 false 0 0 0 0 0))))/\
(((k8 (upto (fr a0 1) x7)).2)=false->
 qh a0 0 0 0 0 false 0 false false 0 0 0 0 false 0 0 0 0 3)))))))))))/\
((bx a0 0)≠116->
(((bx a0 0)=40->
((0:Int)<=1/\1<=ln a0)/\
(((fr a0 1)≠([]:ZB)->
(I64 (l6_-1))/\
(Wn (l6_-1) l6_)/\
(((bx (fr a0 1) (l6_-1))=124->
(I64 (l6_-1))/\
((0:Int)<=(l6_-1)/\(l6_-1)<=ln (fr a0 1))/\
((l0_=([]:ZB)->
 qh a0 0 0 0 0 false 0 false false 0 0 0 0 false 0 0 0 0 3))/\
(l0_≠([]:ZB)->
(I64 ((ln l0_)-1))/\
(Wn ((ln l0_)-1) (ln l0_))/\
(((bx l0_ ((ln l0_)-1))≠41->
 qh a0 0 0 0 0 false 0 false false 0 0 0 0 false 0 0 0 0 3))/\
((bx l0_ ((ln l0_)-1))=41->
(I64 ((ln l0_)-1))/\
((0:Int)<=((ln l0_)-1)/\((ln l0_)-1)<=ln l0_)/\
(True)/\
(((l2_.2)≠0->
 qh a0 0 0 0 0 false 0 false false 0 0 0 0 false 0 0 0 0 3))/\
((l2_.2)=0->
(True)/\
(((zn (Sign.mk 5 0 0 0 false 0 false false (l2_.1.1) (l2_.1.2.1) (l2_.1.2.2.1) (l2_.1.2.2.2) true 0 0 0 0))≠0->
 qh a0 0 0 0 0 false 0 false false 0 0 0 0 false 0 0 0 0 (zn (Sign.mk 5 0 0 0 false 0 false false (l2_.1.1) (l2_.1.2.1) (l2_.1.2.2.1) (l2_.1.2.2.2) true 0 0 0 0))))/\
((zn (Sign.mk 5 0 0 0 false 0 false false (l2_.1.1) (l2_.1.2.1) (l2_.1.2.2.1) (l2_.1.2.2.2) true 0 0 0 0))=0->
 qh a0 5 0 0 0 false 0 false false (l2_.1.1) (l2_.1.2.1) (l2_.1.2.2.1) (l2_.1.2.2.2) true 0 0 0 0 0))))))/\
((bx (fr a0 1) (l6_-1))≠124->
(((fr a0 1)=([]:ZB)->
 qh a0 0 0 0 0 false 0 false false 0 0 0 0 false 0 0 0 0 3))/\
((fr a0 1)≠([]:ZB)->
(I64 (l6_-1))/\
(Wn (l6_-1) l6_)/\
(((bx (fr a0 1) (l6_-1))≠41->
 qh a0 0 0 0 0 false 0 false false 0 0 0 0 false 0 0 0 0 3))/\
((bx (fr a0 1) (l6_-1))=41->
(I64 (l6_-1))/\
((0:Int)<=(l6_-1)/\(l6_-1)<=ln (fr a0 1))/\
(True)/\
((((kc l0_).2)≠0->
 qh a0 0 0 0 0 false 0 false false 0 0 0 0 false 0 0 0 0 3))/\
(((kc l0_).2)=0->
(True)/\
((l1_≠0->
 qh a0 0 0 0 0 false 0 false false 0 0 0 0 false 0 0 0 0 l1_))/\
(l1_=0->
 qh a0 5 0 0 0 false 0 false false ((kc l0_).1.1) ((kc l0_).1.2.1) ((kc l0_).1.2.2.1) ((kc l0_).1.2.2.2) false 0 0 0 0 0)))))))/\
((fr a0 1)=([]:ZB)->
(((fr a0 1)=([]:ZB)->
 qh a0 0 0 0 0 false 0 false false 0 0 0 0 false 0 0 0 0 3))/\
((fr a0 1)≠([]:ZB)->
(I64 (l6_-1))/\
(Wn (l6_-1) l6_)/\
(((bx (fr a0 1) (l6_-1))≠41->
 qh a0 0 0 0 0 false 0 false false 0 0 0 0 false 0 0 0 0 3))/\
((bx (fr a0 1) (l6_-1))=41->
(I64 (l6_-1))/\
((0:Int)<=(l6_-1)/\(l6_-1)<=ln (fr a0 1))/\
(True)/\
((((kc l0_).2)≠0->
 qh a0 0 0 0 0 false 0 false false 0 0 0 0 false 0 0 0 0 3))/\
(((kc l0_).2)=0->
(True)/\
((l1_≠0->
 qh a0 0 0 0 0 false 0 false false 0 0 0 0 false 0 0 0 0 l1_))/\
(l1_=0->
 qh a0 5 0 0 0 false 0 false false ((kc l0_).1.1) ((kc l0_).1.2.1) ((kc l0_).1.2.2.1) ((kc l0_).1.2.2.2) false 0 0 0 0 0)))))))/\
((bx a0 0)≠40->
(((bx a0 0)=64->
((0:Int)<=1/\1<=ln a0)/\
(True)/\
(True)/\
(True)/\
(Wn 0 (ln ([67,70,71]:ZB)))/\
((U8 (bx ([67,70,71]:ZB) 0)))/\
(((l3_.2)=true->
((ln (l3_.1)<=1000000))/\
(Wn 0 (ln ([0,3,4]:List Int)))/\
((((qi (l3_.1)).2)=false->
 qh a0 0 0 0 0 false 0 false false 0 0 0 0 false 0 0 0 0 3))/\
(((qi (l3_.1)).2)=true->
(True)/\
(((zn (Sign.mk 7 0 0 0 false 0 false false 0 0 0 0 false 0 0 (ix ([0,3,4]:List Int) 0) ((qi (l3_.1)).1)))≠0->
 qh a0 0 0 0 0 false 0 false false 0 0 0 0 false 0 0 0 0 (zn (Sign.mk 7 0 0 0 false 0 false false 0 0 0 0 false 0 0 (ix ([0,3,4]:List Int) 0) ((qi (l3_.1)).1)))))/\
((zn (Sign.mk 7 0 0 0 false 0 false false 0 0 0 0 false 0 0 (ix ([0,3,4]:List Int) 0) ((qi (l3_.1)).1)))=0->
 qh a0 7 0 0 0 false 0 false false 0 0 0 0 false 0 0 (ix ([0,3,4]:List Int) 0) ((qi (l3_.1)).1) 0))))/\
((l3_.2)=false->
(Wn 1 (ln ([67,70,71]:ZB)))/\
((U8 (bx ([67,70,71]:ZB) 1)))/\
(((l4_.2)=true->
((ln (l4_.1)<=1000000))/\
(Wn 1 (ln ([0,3,4]:List Int)))/\
((((qi (l4_.1)).2)=false->
 qh a0 0 0 0 0 false 0 false false 0 0 0 0 false 0 0 0 0 3))/\
(((qi (l4_.1)).2)=true->
(True)/\
(((zn (Sign.mk 7 0 0 0 false 0 false false 0 0 0 0 false 0 0 (ix ([0,3,4]:List Int) 1) ((qi (l4_.1)).1)))≠0->
 qh a0 0 0 0 0 false 0 false false 0 0 0 0 false 0 0 0 0 (zn (Sign.mk 7 0 0 0 false 0 false false 0 0 0 0 false 0 0 (ix ([0,3,4]:List Int) 1) ((qi (l4_.1)).1)))))/\
((zn (Sign.mk 7 0 0 0 false 0 false false 0 0 0 0 false 0 0 (ix ([0,3,4]:List Int) 1) ((qi (l4_.1)).1)))=0->
 qh a0 7 0 0 0 false 0 false false 0 0 0 0 false 0 0 (ix ([0,3,4]:List Int) 1) ((qi (l4_.1)).1) 0))))/\
((l4_.2)=false->
(Wn 2 (ln ([67,70,71]:ZB)))/\
((U8 (bx ([67,70,71]:ZB) 2)))/\
(((l5_.2)=true->
((ln (l5_.1)<=1000000))/\
(Wn 2 (ln ([0,3,4]:List Int)))/\
((((qi (l5_.1)).2)=false->
 qh a0 0 0 0 0 false 0 false false 0 0 0 0 false 0 0 0 0 3))/\
(((qi (l5_.1)).2)=true->
(True)/\
(((zn (Sign.mk 7 0 0 0 false 0 false false 0 0 0 0 false 0 0 (ix ([0,3,4]:List Int) 2) ((qi (l5_.1)).1)))≠0->
 qh a0 0 0 0 0 false 0 false false 0 0 0 0 false 0 0 0 0 (zn (Sign.mk 7 0 0 0 false 0 false false 0 0 0 0 false 0 0 (ix ([0,3,4]:List Int) 2) ((qi (l5_.1)).1)))))/\
((zn (Sign.mk 7 0 0 0 false 0 false false 0 0 0 0 false 0 0 (ix ([0,3,4]:List Int) 2) ((qi (l5_.1)).1)))=0->
 qh a0 7 0 0 0 false 0 false false 0 0 0 0 false 0 0 (ix ([0,3,4]:List Int) 2) ((qi (l5_.1)).1) 0))))/\
((l5_.2)=false->
 qh a0 0 0 0 0 false 0 false false 0 0 0 0 false 0 0 0 0 3)))))/\
((bx a0 0)≠64->
(((bx a0 0)=38->
((0:Int)<=1/\1<=ln a0)/\
((ln (fr a0 1)<=1000000))/\
((((qi (fr a0 1)).2)=false->
 qh a0 0 0 0 0 false 0 false false 0 0 0 0 false 0 0 0 0 3))/\
(((qi (fr a0 1)).2)=true->
(True)/\
(((zn (Sign.mk 8 0 0 0 false 0 false false 0 0 0 0 false ((qi (fr a0 1)).1) 0 0 0))≠0->
 qh a0 0 0 0 0 false 0 false false 0 0 0 0 false 0 0 0 0 (zn (Sign.mk 8 0 0 0 false 0 false false 0 0 0 0 false ((qi (fr a0 1)).1) 0 0 0))))/\
((zn (Sign.mk 8 0 0 0 false 0 false false 0 0 0 0 false ((qi (fr a0 1)).1) 0 0 0))=0->
 qh a0 8 0 0 0 false 0 false false 0 0 0 0 false ((qi (fr a0 1)).1) 0 0 0 0))))/\
((bx a0 0)≠38->
(((bx a0 0)=93->
((0:Int)<=1/\1<=ln a0)/\
((ln (fr a0 1)<=1000000))/\
((((qi (fr a0 1)).2)=false->
 qh a0 0 0 0 0 false 0 false false 0 0 0 0 false 0 0 0 0 3))/\
(((qi (fr a0 1)).2)=true->
(True)/\
(((zn (Sign.mk 10 0 0 0 false 0 false false 0 0 0 0 false ((qi (fr a0 1)).1) 0 0 0))≠0->
 qh a0 0 0 0 0 false 0 false false 0 0 0 0 false 0 0 0 0 (zn (Sign.mk 10 0 0 0 false 0 false false 0 0 0 0 false ((qi (fr a0 1)).1) 0 0 0))))/\
((zn (Sign.mk 10 0 0 0 false 0 false false 0 0 0 0 false ((qi (fr a0 1)).1) 0 0 0))=0->
 qh a0 10 0 0 0 false 0 false false 0 0 0 0 false ((qi (fr a0 1)).1) 0 0 0 0))))/\
((bx a0 0)≠93->
((0:Int)<=1/\1<=ln a0)/\
(True)/\
((((jy (upto a0 1)).2)=0->
((0:Int)<=1/\1<=ln a0)/\
((z9 a0 0 (fr a0 1))/\
(∀ x12:Int,
(z9 a0 x12 (fr a0 1)->
((x12<l6_->
(Wn x12 l6_)/\
((48<=(bx (fr a0 1) x12)->
(Wn x12 l6_)/\
(((bx (fr a0 1) x12)<=57->
(I64 (x12+1))/\
(z9 a0 (x12+1) (fr a0 1))/\
 jd a0 (x12+1) (fr a0 1)<jd a0 x12 (fr a0 1)))/\
(57<(bx (fr a0 1) x12)->
((x12=0->
(Wn x12 l6_)/\
(((bx (fr a0 1) x12)=45->
(I64 (x12+1))/\
(z9 a0 (x12+1) (fr a0 1))/\
 jd a0 (x12+1) (fr a0 1)<jd a0 x12 (fr a0 1)))/\
((bx (fr a0 1) x12)≠45->
(jb a0 x12 (fr a0 1))/\
 True)))/\
(x12≠0->
(jb a0 x12 (fr a0 1))/\
 True))))/\
((bx (fr a0 1) x12)<48->
((x12=0->
(Wn x12 l6_)/\
(((bx (fr a0 1) x12)=45->
(I64 (x12+1))/\
(z9 a0 (x12+1) (fr a0 1))/\
 jd a0 (x12+1) (fr a0 1)<jd a0 x12 (fr a0 1)))/\
((bx (fr a0 1) x12)≠45->
(jb a0 x12 (fr a0 1))/\
 True)))/\
(x12≠0->
(jb a0 x12 (fr a0 1))/\
 True))))/\
(l6_<=x12->
(jb a0 x12 (fr a0 1))/\
 True))))/\
(∀ x12:Int,
 let l10_:=fr (fr a0 1) x12;
(jb a0 x12 (fr a0 1)->
((0:Int)<=x12/\x12<=ln (fr a0 1))/\
((ln (upto (fr a0 1) x12)<=1000000))/\
((0:Int)<=x12/\x12<=ln (fr a0 1))/\
(True)/\
(True)/\
(True)/\
((Wn 0 (ln ([98,35,110]:ZB)))/\
((U8 l7_))/\
((((qu l10_ l7_).2)=true->
(Wn 0 (ln ([(-1),1,2]:List Int)))/\
(qhj a0 x12 (
(jt a0 ((qu l10_ l7_).1) (ix ([(-1),1,2]:List Int) 0) l10_)/\
 True))))/\
(((qu l10_ l7_).2)=false->
(Wn 1 (ln ([98,35,110]:ZB)))/\
((U8 l8_))/\
((((qu l10_ l8_).2)=true->
(Wn 1 (ln ([(-1),1,2]:List Int)))/\
(qhj a0 x12 (
(jt a0 ((qu l10_ l8_).1) (ix ([(-1),1,2]:List Int) 1) l10_)/\
 True))))/\
(((qu l10_ l8_).2)=false->
(Wn 2 (ln ([98,35,110]:ZB)))/\
((U8 l9_))/\
((((qu l10_ l9_).2)=true->
(Wn 2 (ln ([(-1),1,2]:List Int)))/\
(qhj a0 x12 (
(jt a0 ((qu l10_ l9_).1) (ix ([(-1),1,2]:List Int) 2) l10_)/\
 True))))/\
(((qu l10_ l9_).2)=false->
(qhj a0 x12 (
(jt a0 l10_ 0 l10_)/\
 True))))))/\
(∀ x14:ZB,
(∀ x15:Int,
(jt a0 x14 x15 l10_->
((U8 42))/\
((((k8 (upto (fr a0 1) x12)).2)=true->
((((qu x14 42).1)≠([]:ZB)->
 qh a0 0 0 0 0 false 0 false false 0 0 0 0 false 0 0 0 0 3))/\
(((qu x14 42).1)=([]:ZB)->
(True)/\
(((zn (Sign.mk 1 ((jy (upto a0 1)).1) ((k8 (upto (fr a0 1) x12)).1) x15 ((qu x14 42).2) 0 false false 0 0 0 0 false 0 0 0 0))≠0->
 qh a0 0 0 0 0 false 0 false false 0 0 0 0 false 0 0 0 0 (zn (Sign.mk 1 ((jy (upto a0 1)).1) ((k8 (upto (fr a0 1) x12)).1) x15 ((qu x14 42).2) 0 false false 0 0 0 0 false 0 0 0 0))))/\
((zn (Sign.mk 1 ((jy (upto a0 1)).1) ((k8 (upto (fr a0 1) x12)).1) x15 ((qu x14 42).2) 0 false false 0 0 0 0 false 0 0 0 0))=0->
 qh a0 1 ((jy (upto a0 1)).1) ((k8 (upto (fr a0 1) x12)).1) x15 ((qu x14 42).2) 0 false false 0 0 0 0 false 0 0 0 0 0))))/\
(((k8 (upto (fr a0 1) x12)).2)=false->
 qh a0 0 0 0 0 false 0 false false 0 0 0 0 false 0 0 0 0 3))))))))/\
(((jy (upto a0 1)).2)≠0->
((U8 47/\ln a0<=1000000))/\
((ln ((qa1 a0 47).1)<=1000000))/\
((ln ((qa1 a0 47).2.1)<=1000000))/\
((((qa1 a0 47).2.2)=true->
((((qi ((qa1 a0 47).1)).2)=true->
((((qi ((qa1 a0 47).2.1)).2)=false->
 qh a0 0 0 0 0 false 0 false false 0 0 0 0 false 0 0 0 0 3))/\
(((qi ((qa1 a0 47).2.1)).2)=true->
(True)/\
(((zn (Sign.mk 6 0 0 0 false 0 false false 0 0 0 0 false ((qi ((qa1 a0 47).1)).1) ((qi ((qa1 a0 47).2.1)).1) 0 0))≠0->
 qh a0 0 0 0 0 false 0 false false 0 0 0 0 false 0 0 0 0 (zn (Sign.mk 6 0 0 0 false 0 false false 0 0 0 0 false ((qi ((qa1 a0 47).1)).1) ((qi ((qa1 a0 47).2.1)).1) 0 0))))/\
((zn (Sign.mk 6 0 0 0 false 0 false false 0 0 0 0 false ((qi ((qa1 a0 47).1)).1) ((qi ((qa1 a0 47).2.1)).1) 0 0))=0->
 qh a0 6 0 0 0 false 0 false false 0 0 0 0 false ((qi ((qa1 a0 47).1)).1) ((qi ((qa1 a0 47).2.1)).1) 0 0 0))))/\
(((qi ((qa1 a0 47).1)).2)=false->
 qh a0 0 0 0 0 false 0 false false 0 0 0 0 false 0 0 0 0 3)))/\
(((qa1 a0 47).2.2)=false->
 qh a0 0 0 0 0 false 0 false false 0 0 0 0 false 0 0 0 0 3)))))))))))))
theorem zgx (a0:ZB):jw (qq XK (jk zds) (fun j ns=>match j,ns with | 0,[.i y0,.s y1]=>z9 a0 y0 y1 | 1,[.i y0,.s y1]=>jb a0 y0 y1 | 2,[.s y0,.i y1,.s y2]=>jt a0 y0 y1 y2 | 3,[.s y0,.i y1,.s y2]=>qbt a0 y0 y1 y2 | _,_=>False) (fun j ns=>match j,ns with | 0,[.i y0,.s y1]=>jd a0 y0 y1 | _,_=>0)) {cfg sp with ann:=jv [(99,28,.inv 0 [.one 5 (.int .i64)] [.one 0 (.str)]),(99,7,.cut 1 [.one 5 (.int .i64)] [.one 0 (.str)]),(99,2042,.unroll 4),(99,255,.cut 2 [.one 0 (.str),.via 8 [.keep,.keep,.keep,.int .i64,.keep,.keep,.keep,.keep,.keep,.keep,.keep,.keep,.keep,.keep,.keep,.keep,.keep]] [.one 0 (.str)]),(95,122,.unroll 4),(95,15,.cut 3 [.one 0 (.str),.via 4 [.keep,.keep,.keep,.keep,.keep,.int .i64,.keep,.keep,.keep,.keep,.keep,.keep,.keep,.keep,.keep,.keep,.keep]] [.one 0 (.str)]),(97,58,.unroll 4)]} 10 13 [.str (a0)] (qzm a0)=qvr a0:=by kernel_rfl
end Go.Proofs.YtbopmiclcimjgaaGreatDoor
