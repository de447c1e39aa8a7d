/- CONDITIONS, as E3 computes them. Made by program (vc.py). -/
import Derived.Test.YtbopmiclcimjgaaGreatDoorCts
namespace Go.Proofs.YtbopmiclcimjgaaGreatDoor
open Go Go.E2 Go.E3
set_option maxRecDepth 100000
variable {sp:Nat->Option (List V->Heap->Option (CR×Heap))}

def qh (a0:List UInt8) (r0:Int) (r1:Int) (r2:Int) (r3:Int) (r4:Bool) (r5:Int) (r6:Bool) (r7:Bool) (r8:Int) (r9:Int) (r10:Int) (r11:Int) (r12:Bool) (r13:Int) (r14:Int) (r15:Int) (r16:Int) (r17:Int):Prop:=
((r0:Int)=(((qu a0).1).Kind))/\
((r1:Int)=(((qu a0).1).Value))/\
((r2:Int)=(((qu a0).1).Place))/\
((r3:Int)=(((qu a0).1).Acc))/\
(r4=(((qu a0).1).Color))/\
((r5:Int)=(((qu a0).1).Stem))/\
(r6=(((qu a0).1).Oblique))/\
(r7=(((qu a0).1).Last))/\
((r8:Int)=(((qu a0).1).MensMax))/\
((r9:Int)=(((qu a0).1).MensMod))/\
((r10:Int)=(((qu a0).1).MensTem))/\
((r11:Int)=(((qu a0).1).MensPro))/\
(r12=(((qu a0).1).Stroke))/\
((r13:Int)=(((qu a0).1).N))/\
((r14:Int)=(((qu a0).1).D))/\
((r15:Int)=(((qu a0).1).ClefStep))/\
((r16:Int)=(((qu a0).1).ClefLine))/\
((r17:Int)=((qu a0).2))/\
 True

def q7v:List (Nat×Ct KT):=[(29,zig),(125,za5),(123,za1),(124,za3),(101,q5o),(100,zaz),(36,zfb)]
abbrev qv3 (a0:List UInt8):PV KT:=.tuple [.agg [.int .i64 none ((((qu a0).1).Kind)),.int .i64 none ((((qu a0).1).Value)),.int .i64 none ((((qu a0).1).Place)),.int .i64 none ((((qu a0).1).Acc)),.sb 0 false ((((qu a0).1).Color)) ((((qu a0).1).Color)=true) ((((qu a0).1).Color)=false),.int .i64 none ((((qu a0).1).Stem)),.sb 0 false ((((qu a0).1).Oblique)) ((((qu a0).1).Oblique)=true) ((((qu a0).1).Oblique)=false),.sb 0 false ((((qu a0).1).Last)) ((((qu a0).1).Last)=true) ((((qu a0).1).Last)=false),.int .i64 none ((((qu a0).1).MensMax)),.int .i64 none ((((qu a0).1).MensMod)),.int .i64 none ((((qu a0).1).MensTem)),.int .i64 none ((((qu a0).1).MensPro)),.sb 0 false ((((qu a0).1).Stroke)) ((((qu a0).1).Stroke)=true) ((((qu a0).1).Stroke)=false),.int .i64 none ((((qu a0).1).N)),.int .i64 none ((((qu a0).1).D)),.int .i64 none ((((qu a0).1).ClefStep)),.int .i64 none ((((qu a0).1).ClefLine))],.int .i64 none (((qu a0).2))]
abbrev qgc (v0:List UInt8) (v1:Int) (p:Prop):Prop:=
((((z7 (upto (fr v0 1) v1)).1):Int)=((z7 (upto (fr v0 1) v1)).1))/\
 p
abbrev qnp (v0:List UInt8) (v1:Int) (v2:Int) (v3:List UInt8) (p:Prop):Prop:=
((((z7 (upto (fr v0 1) v1)).1):Int)=((z7 (upto (fr v0 1) v1)).1))/\
((v2:Int)=v2)/\
(((qe v3 42).2)=((qe v3 42).2))/\
 p
abbrev qsk (a0:List UInt8):Prop:=
((a0=([]:List UInt8)->
 qh a0 0 0 0 0 false 0 false false 0 0 0 0 false 0 0 0 0 3))/\
(a0≠([]:List UInt8)->
((a0=([46]:List UInt8)->
(True)/\
(((zh (Sign.mk 3 0 0 0 false 0 false false 0 0 0 0 false 0 0 0 0))≠0->
 qh a0 0 0 0 0 false 0 false false 0 0 0 0 false 0 0 0 0 (zh (Sign.mk 3 0 0 0 false 0 false false 0 0 0 0 false 0 0 0 0))))/\
((zh (Sign.mk 3 0 0 0 false 0 false false 0 0 0 0 false 0 0 0 0))=0->
 qh a0 3 0 0 0 false 0 false false 0 0 0 0 false 0 0 0 0 0)))/\
(a0≠([46]:List UInt8)->
((a0=([91]:List UInt8)->
(True)/\
(((zh (Sign.mk 9 0 0 0 false 0 false false 0 0 0 0 false 0 0 0 0))≠0->
 qh a0 0 0 0 0 false 0 false false 0 0 0 0 false 0 0 0 0 (zh (Sign.mk 9 0 0 0 false 0 false false 0 0 0 0 false 0 0 0 0))))/\
((zh (Sign.mk 9 0 0 0 false 0 false false 0 0 0 0 false 0 0 0 0))=0->
 qh a0 9 0 0 0 false 0 false false 0 0 0 0 false 0 0 0 0 0)))/\
(a0≠([91]:List UInt8)->
((a0=([116,117,114,110]:List UInt8)->
(True)/\
(((zh (Sign.mk 11 0 0 0 false 0 false false 0 0 0 0 false 0 0 0 0))≠0->
 qh a0 0 0 0 0 false 0 false false 0 0 0 0 false 0 0 0 0 (zh (Sign.mk 11 0 0 0 false 0 false false 0 0 0 0 false 0 0 0 0))))/\
((zh (Sign.mk 11 0 0 0 false 0 false false 0 0 0 0 false 0 0 0 0))=0->
 qh a0 11 0 0 0 false 0 false false 0 0 0 0 false 0 0 0 0 0)))/\
(a0≠([116,117,114,110]:List UInt8)->
((a0=([115,105,103]:List UInt8)->
(True)/\
(((zh (Sign.mk 12 0 0 0 false 0 false false 0 0 0 0 false 0 0 0 0))≠0->
 qh a0 0 0 0 0 false 0 false false 0 0 0 0 false 0 0 0 0 (zh (Sign.mk 12 0 0 0 false 0 false false 0 0 0 0 false 0 0 0 0))))/\
((zh (Sign.mk 12 0 0 0 false 0 false false 0 0 0 0 false 0 0 0 0))=0->
 qh a0 12 0 0 0 false 0 false false 0 0 0 0 false 0 0 0 0 0)))/\
(a0≠([115,105,103]:List UInt8)->
(Wn 0 (ln a0))/\
(((bx a0 0)=114->
((0:Int)<=1/\1<=ln a0)/\
(True)/\
((((jf (fr a0 1)).2)≠0->
 qh a0 0 0 0 0 false 0 false false 0 0 0 0 false 0 0 0 0 3))/\
(((jf (fr a0 1)).2)=0->
(True)/\
(((zh (Sign.mk 2 ((jf (fr a0 1)).1) 0 0 false 0 false false 0 0 0 0 false 0 0 0 0))≠0->
 qh a0 0 0 0 0 false 0 false false 0 0 0 0 false 0 0 0 0 (zh (Sign.mk 2 ((jf (fr a0 1)).1) 0 0 false 0 false false 0 0 0 0 false 0 0 0 0))))/\
((zh (Sign.mk 2 ((jf (fr a0 1)).1) 0 0 false 0 false false 0 0 0 0 false 0 0 0 0))=0->
 qh a0 2 ((jf (fr a0 1)).1) 0 0 false 0 false false 0 0 0 0 false 0 0 0 0 0))))/\
((bx a0 0)≠114->
(((bx a0 0)=116->
((0:Int)<=1/\1<=ln a0)/\
((z5 a0 0 (fr a0 1))/\
(∀ x7:Int,
(z5 a0 x7 (fr a0 1)->
((x7<(ln (fr a0 1))->
(Wn x7 (ln (fr a0 1)))/\
((48<=(bx (fr a0 1) x7)->
(Wn x7 (ln (fr a0 1)))/\
(((bx (fr a0 1) x7)<=57->
(I64 (x7+1))/\
(z5 a0 (x7+1) (fr a0 1))/\
 kp a0 (x7+1) (fr a0 1)<kp a0 x7 (fr a0 1)))/\
(57<(bx (fr a0 1) x7)->
((x7=0->
(Wn x7 (ln (fr a0 1)))/\
(((bx (fr a0 1) x7)=45->
(I64 (x7+1))/\
(z5 a0 (x7+1) (fr a0 1))/\
 kp a0 (x7+1) (fr a0 1)<kp a0 x7 (fr a0 1)))/\
((bx (fr a0 1) x7)≠45->
(kk a0 x7 (fr a0 1))/\
 True)))/\
(x7≠0->
(kk a0 x7 (fr a0 1))/\
 True))))/\
((bx (fr a0 1) x7)<48->
((x7=0->
(Wn x7 (ln (fr a0 1)))/\
(((bx (fr a0 1) x7)=45->
(I64 (x7+1))/\
(z5 a0 (x7+1) (fr a0 1))/\
 kp a0 (x7+1) (fr a0 1)<kp a0 x7 (fr a0 1)))/\
((bx (fr a0 1) x7)≠45->
(kk a0 x7 (fr a0 1))/\
 True)))/\
(x7≠0->
(kk a0 x7 (fr a0 1))/\
 True))))/\
((ln (fr a0 1))<=x7->
(kk a0 x7 (fr a0 1))/\
 True))))/\
(∀ x7:Int,
(kk a0 x7 (fr a0 1)->
((0:Int)<=x7/\x7<=ln (fr a0 1))/\
((ln (upto (fr a0 1) x7)<=1000000))/\
((0:Int)<=x7/\x7<=ln (fr a0 1))/\
(True)/\
(True)/\
(True)/\
((Wn 0 (ln ([98,35,110]:List UInt8)))/\
((U8 (bx ([98,35,110]:List UInt8) 0)))/\
((((qe (fr (fr a0 1) x7) (bx ([98,35,110]:List UInt8) 0)).2)=true->
(Wn 0 (ln ([(-1),1,2]:List Int)))/\
(qgc a0 x7 (
(jb a0 ((qe (fr (fr a0 1) x7) (bx ([98,35,110]:List UInt8) 0)).1) (ix ([(-1),1,2]:List Int) 0) (fr (fr a0 1) x7))/\
 True))))/\
(((qe (fr (fr a0 1) x7) (bx ([98,35,110]:List UInt8) 0)).2)=false->
(Wn 1 (ln ([98,35,110]:List UInt8)))/\
((U8 (bx ([98,35,110]:List UInt8) 1)))/\
((((qe (fr (fr a0 1) x7) (bx ([98,35,110]:List UInt8) 1)).2)=true->
(Wn 1 (ln ([(-1),1,2]:List Int)))/\
(qgc a0 x7 (
(jb a0 ((qe (fr (fr a0 1) x7) (bx ([98,35,110]:List UInt8) 1)).1) (ix ([(-1),1,2]:List Int) 1) (fr (fr a0 1) x7))/\
 True))))/\
(((qe (fr (fr a0 1) x7) (bx ([98,35,110]:List UInt8) 1)).2)=false->
(Wn 2 (ln ([98,35,110]:List UInt8)))/\
((U8 (bx ([98,35,110]:List UInt8) 2)))/\
((((qe (fr (fr a0 1) x7) (bx ([98,35,110]:List UInt8) 2)).2)=true->
(Wn 2 (ln ([(-1),1,2]:List Int)))/\
(qgc a0 x7 (
(jb a0 ((qe (fr (fr a0 1) x7) (bx ([98,35,110]:List UInt8) 2)).1) (ix ([(-1),1,2]:List Int) 2) (fr (fr a0 1) x7))/\
 True))))/\
(((qe (fr (fr a0 1) x7) (bx ([98,35,110]:List UInt8) 2)).2)=false->
(qgc a0 x7 (
(jb a0 (fr (fr a0 1) x7) 0 (fr (fr a0 1) x7))/\
 True))))))/\
(∀ x9:List UInt8,
(∀ x10:Int,
(jb a0 x9 x10 (fr (fr a0 1) x7)->
((U8 42))/\
((Wn 0 (ln ([94,118,62]:List UInt8)))/\
((U8 (bx ([94,118,62]:List UInt8) 0)))/\
((((qe ((qe x9 42).1) (bx ([94,118,62]:List UInt8) 0)).2)=true->
(qnp a0 x7 x10 x9 (
(qa0 a0 ((qe ((qe x9 42).1) (bx ([94,118,62]:List UInt8) 0)).1) 1 ((qe x9 42).1))/\
 True))))/\
(((qe ((qe x9 42).1) (bx ([94,118,62]:List UInt8) 0)).2)=false->
(Wn 1 (ln ([94,118,62]:List UInt8)))/\
((U8 (bx ([94,118,62]:List UInt8) 1)))/\
((((qe ((qe x9 42).1) (bx ([94,118,62]:List UInt8) 1)).2)=true->
(qnp a0 x7 x10 x9 (
(qa0 a0 ((qe ((qe x9 42).1) (bx ([94,118,62]:List UInt8) 1)).1) 2 ((qe x9 42).1))/\
 True))))/\
(((qe ((qe x9 42).1) (bx ([94,118,62]:List UInt8) 1)).2)=false->
(Wn 2 (ln ([94,118,62]:List UInt8)))/\
((U8 (bx ([94,118,62]:List UInt8) 2)))/\
((((qe ((qe x9 42).1) (bx ([94,118,62]:List UInt8) 2)).2)=true->
(qnp a0 x7 x10 x9 (
(qa0 a0 ((qe ((qe x9 42).1) (bx ([94,118,62]:List UInt8) 2)).1) 3 ((qe x9 42).1))/\
 True))))/\
(((qe ((qe x9 42).1) (bx ([94,118,62]:List UInt8) 2)).2)=false->
(qnp a0 x7 x10 x9 (
(qa0 a0 ((qe x9 42).1) 0 ((qe x9 42).1))/\
 True))))))/\
(∀ x12:List UInt8,
(∀ x13:Int,
(qa0 a0 x12 x13 ((qe x9 42).1)->
((U8 126))/\
((U8 33))/\
((((z7 (upto (fr a0 1) x7)).2)=true->
((((qe ((qe x12 126).1) 33).1)≠([]:List UInt8)->
 qh a0 0 0 0 0 false 0 false false 0 0 0 0 false 0 0 0 0 3))/\
(((qe ((qe x12 126).1) 33).1)=([]:List UInt8)->
(True)/\
(((zh (Sign.mk 4 0 ((z7 (upto (fr a0 1) x7)).1) x10 ((qe x9 42).2) x13 ((qe x12 126).2) ((qe ((qe x12 126).1) 33).2) 0 0 0 0 false 0 0 0 0))≠0->
 qh a0 0 0 0 0 false 0 false false 0 0 0 0 false 0 0 0 0 (zh (Sign.mk 4 0 ((z7 (upto (fr a0 1) x7)).1) x10 ((qe x9 42).2) x13 ((qe x12 126).2) ((qe ((qe x12 126).1) 33).2) 0 0 0 0 false 0 0 0 0))))/\
((zh (Sign.mk 4 0 ((z7 (upto (fr a0 1) x7)).1) x10 ((qe x9 42).2) x13 ((qe x12 126).2) ((qe ((qe x12 126).1) 33).2) 0 0 0 0 false 0 0 0 0))=0->
 qh a0 4 0 ((z7 (upto (fr a0 1) x7)).1) x10 ((qe x9 42).2) x13 ((qe x12 126).2) ((qe ((qe x12 126).1) 33).2) 0 0 0 0 false 0 0 0 0 0))))/\
(((z7 (upto (fr a0 1) x7)).2)=false->
 qh a0 0 0 0 0 false 0 false false 0 0 0 0 false 0 0 0 0 3)))))))))))/\
((bx a0 0)≠116->
(((bx a0 0)=40->
((0:Int)<=1/\1<=ln a0)/\
(((fr a0 1)≠([]:List UInt8)->
(I64 ((ln (fr a0 1))-1))/\
(Wn ((ln (fr a0 1))-1) (ln (fr a0 1)))/\
(((bx (fr a0 1) ((ln (fr a0 1))-1))=124->
(I64 ((ln (fr a0 1))-1))/\
((0:Int)<=((ln (fr a0 1))-1)/\((ln (fr a0 1))-1)<=ln (fr a0 1))/\
(((upto (fr a0 1) ((ln (fr a0 1))-1))=([]:List UInt8)->
 qh a0 0 0 0 0 false 0 false false 0 0 0 0 false 0 0 0 0 3))/\
((upto (fr a0 1) ((ln (fr a0 1))-1))≠([]:List UInt8)->
(I64 ((ln (upto (fr a0 1) ((ln (fr a0 1))-1)))-1))/\
(Wn ((ln (upto (fr a0 1) ((ln (fr a0 1))-1)))-1) (ln (upto (fr a0 1) ((ln (fr a0 1))-1))))/\
(((bx (upto (fr a0 1) ((ln (fr a0 1))-1)) ((ln (upto (fr a0 1) ((ln (fr a0 1))-1)))-1))≠41->
 qh a0 0 0 0 0 false 0 false false 0 0 0 0 false 0 0 0 0 3))/\
((bx (upto (fr a0 1) ((ln (fr a0 1))-1)) ((ln (upto (fr a0 1) ((ln (fr a0 1))-1)))-1))=41->
(I64 ((ln (upto (fr a0 1) ((ln (fr a0 1))-1)))-1))/\
((0:Int)<=((ln (upto (fr a0 1) ((ln (fr a0 1))-1)))-1)/\((ln (upto (fr a0 1) ((ln (fr a0 1))-1)))-1)<=ln (upto (fr a0 1) ((ln (fr a0 1))-1)))/\
(True)/\
((((za (upto (upto (fr a0 1) ((ln (fr a0 1))-1)) ((ln (upto (fr a0 1) ((ln (fr a0 1))-1)))-1))).2)≠0->
 qh a0 0 0 0 0 false 0 false false 0 0 0 0 false 0 0 0 0 3))/\
(((za (upto (upto (fr a0 1) ((ln (fr a0 1))-1)) ((ln (upto (fr a0 1) ((ln (fr a0 1))-1)))-1))).2)=0->
(True)/\
(((zh (Sign.mk 5 0 0 0 false 0 false false ((za (upto (upto (fr a0 1) ((ln (fr a0 1))-1)) ((ln (upto (fr a0 1) ((ln (fr a0 1))-1)))-1))).1.1) ((za (upto (upto (fr a0 1) ((ln (fr a0 1))-1)) ((ln (upto (fr a0 1) ((ln (fr a0 1))-1)))-1))).1.2.1) ((za (upto (upto (fr a0 1) ((ln (fr a0 1))-1)) ((ln (upto (fr a0 1) ((ln (fr a0 1))-1)))-1))).1.2.2.1) ((za (upto (upto (fr a0 1) ((ln (fr a0 1))-1)) ((ln (upto (fr a0 1) ((ln (fr a0 1))-1)))-1))).1.2.2.2) true 0 0 0 0))≠0->
 qh a0 0 0 0 0 false 0 false false 0 0 0 0 false 0 0 0 0 (zh (Sign.mk 5 0 0 0 false 0 false false ((za (upto (upto (fr a0 1) ((ln (fr a0 1))-1)) ((ln (upto (fr a0 1) ((ln (fr a0 1))-1)))-1))).1.1) ((za (upto (upto (fr a0 1) ((ln (fr a0 1))-1)) ((ln (upto (fr a0 1) ((ln (fr a0 1))-1)))-1))).1.2.1) ((za (upto (upto (fr a0 1) ((ln (fr a0 1))-1)) ((ln (upto (fr a0 1) ((ln (fr a0 1))-1)))-1))).1.2.2.1) ((za (upto (upto (fr a0 1) ((ln (fr a0 1))-1)) ((ln (upto (fr a0 1) ((ln (fr a0 1))-1)))-1))).1.2.2.2) true 0 0 0 0))))/\
((zh (Sign.mk 5 0 0 0 false 0 false false ((za (upto (upto (fr a0 1) ((ln (fr a0 1))-1)) ((ln (upto (fr a0 1) ((ln (fr a0 1))-1)))-1))).1.1) ((za (upto (upto (fr a0 1) ((ln (fr a0 1))-1)) ((ln (upto (fr a0 1) ((ln (fr a0 1))-1)))-1))).1.2.1) ((za (upto (upto (fr a0 1) ((ln (fr a0 1))-1)) ((ln (upto (fr a0 1) ((ln (fr a0 1))-1)))-1))).1.2.2.1) ((za (upto (upto (fr a0 1) ((ln (fr a0 1))-1)) ((ln (upto (fr a0 1) ((ln (fr a0 1))-1)))-1))).1.2.2.2) true 0 0 0 0))=0->
 qh a0 5 0 0 0 false 0 false false ((za (upto (upto (fr a0 1) ((ln (fr a0 1))-1)) ((ln (upto (fr a0 1) ((ln (fr a0 1))-1)))-1))).1.1) ((za (upto (upto (fr a0 1) ((ln (fr a0 1))-1)) ((ln (upto (fr a0 1) ((ln (fr a0 1))-1)))-1))).1.2.1) ((za (upto (upto (fr a0 1) ((ln (fr a0 1))-1)) ((ln (upto (fr a0 1) ((ln (fr a0 1))-1)))-1))).1.2.2.1) ((za (upto (upto (fr a0 1) ((ln (fr a0 1))-1)) ((ln (upto (fr a0 1) ((ln (fr a0 1))-1)))-1))).1.2.2.2) true 0 0 0 0 0))))))/\
((bx (fr a0 1) ((ln (fr a0 1))-1))≠124->
(((fr a0 1)=([]:List UInt8)->
 qh a0 0 0 0 0 false 0 false false 0 0 0 0 false 0 0 0 0 3))/\
((fr a0 1)≠([]:List UInt8)->
(I64 ((ln (fr a0 1))-1))/\
(Wn ((ln (fr a0 1))-1) (ln (fr a0 1)))/\
(((bx (fr a0 1) ((ln (fr a0 1))-1))≠41->
 qh a0 0 0 0 0 false 0 false false 0 0 0 0 false 0 0 0 0 3))/\
((bx (fr a0 1) ((ln (fr a0 1))-1))=41->
(I64 ((ln (fr a0 1))-1))/\
((0:Int)<=((ln (fr a0 1))-1)/\((ln (fr a0 1))-1)<=ln (fr a0 1))/\
(True)/\
((((za (upto (fr a0 1) ((ln (fr a0 1))-1))).2)≠0->
 qh a0 0 0 0 0 false 0 false false 0 0 0 0 false 0 0 0 0 3))/\
(((za (upto (fr a0 1) ((ln (fr a0 1))-1))).2)=0->
(True)/\
(((zh (Sign.mk 5 0 0 0 false 0 false false ((za (upto (fr a0 1) ((ln (fr a0 1))-1))).1.1) ((za (upto (fr a0 1) ((ln (fr a0 1))-1))).1.2.1) ((za (upto (fr a0 1) ((ln (fr a0 1))-1))).1.2.2.1) ((za (upto (fr a0 1) ((ln (fr a0 1))-1))).1.2.2.2) false 0 0 0 0))≠0->
 qh a0 0 0 0 0 false 0 false false 0 0 0 0 false 0 0 0 0 (zh (Sign.mk 5 0 0 0 false 0 false false ((za (upto (fr a0 1) ((ln (fr a0 1))-1))).1.1) ((za (upto (fr a0 1) ((ln (fr a0 1))-1))).1.2.1) ((za (upto (fr a0 1) ((ln (fr a0 1))-1))).1.2.2.1) ((za (upto (fr a0 1) ((ln (fr a0 1))-1))).1.2.2.2) false 0 0 0 0))))/\
((zh (Sign.mk 5 0 0 0 false 0 false false ((za (upto (fr a0 1) ((ln (fr a0 1))-1))).1.1) ((za (upto (fr a0 1) ((ln (fr a0 1))-1))).1.2.1) ((za (upto (fr a0 1) ((ln (fr a0 1))-1))).1.2.2.1) ((za (upto (fr a0 1) ((ln (fr a0 1))-1))).1.2.2.2) false 0 0 0 0))=0->
 qh a0 5 0 0 0 false 0 false false ((za (upto (fr a0 1) ((ln (fr a0 1))-1))).1.1) ((za (upto (fr a0 1) ((ln (fr a0 1))-1))).1.2.1) ((za (upto (fr a0 1) ((ln (fr a0 1))-1))).1.2.2.1) ((za (upto (fr a0 1) ((ln (fr a0 1))-1))).1.2.2.2) false 0 0 0 0 0)))))))/\
((fr a0 1)=([]:List UInt8)->
(((fr a0 1)=([]:List UInt8)->
 qh a0 0 0 0 0 false 0 false false 0 0 0 0 false 0 0 0 0 3))/\
((fr a0 1)≠([]:List UInt8)->
(I64 ((ln (fr a0 1))-1))/\
(Wn ((ln (fr a0 1))-1) (ln (fr a0 1)))/\
(((bx (fr a0 1) ((ln (fr a0 1))-1))≠41->
 qh a0 0 0 0 0 false 0 false false 0 0 0 0 false 0 0 0 0 3))/\
((bx (fr a0 1) ((ln (fr a0 1))-1))=41->
(I64 ((ln (fr a0 1))-1))/\
((0:Int)<=((ln (fr a0 1))-1)/\((ln (fr a0 1))-1)<=ln (fr a0 1))/\
(True)/\
((((za (upto (fr a0 1) ((ln (fr a0 1))-1))).2)≠0->
 qh a0 0 0 0 0 false 0 false false 0 0 0 0 false 0 0 0 0 3))/\
(((za (upto (fr a0 1) ((ln (fr a0 1))-1))).2)=0->
(True)/\
(((zh (Sign.mk 5 0 0 0 false 0 false false ((za (upto (fr a0 1) ((ln (fr a0 1))-1))).1.1) ((za (upto (fr a0 1) ((ln (fr a0 1))-1))).1.2.1) ((za (upto (fr a0 1) ((ln (fr a0 1))-1))).1.2.2.1) ((za (upto (fr a0 1) ((ln (fr a0 1))-1))).1.2.2.2) false 0 0 0 0))≠0->
 qh a0 0 0 0 0 false 0 false false 0 0 0 0 false 0 0 0 0 (zh (Sign.mk 5 0 0 0 false 0 false false ((za (upto (fr a0 1) ((ln (fr a0 1))-1))).1.1) ((za (upto (fr a0 1) ((ln (fr a0 1))-1))).1.2.1) ((za (upto (fr a0 1) ((ln (fr a0 1))-1))).1.2.2.1) ((za (upto (fr a0 1) ((ln (fr a0 1))-1))).1.2.2.2) false 0 0 0 0))))/\
((zh (Sign.mk 5 0 0 0 false 0 false false ((za (upto (fr a0 1) ((ln (fr a0 1))-1))).1.1) ((za (upto (fr a0 1) ((ln (fr a0 1))-1))).1.2.1) ((za (upto (fr a0 1) ((ln (fr a0 1))-1))).1.2.2.1) ((za (upto (fr a0 1) ((ln (fr a0 1))-1))).1.2.2.2) false 0 0 0 0))=0->
 qh a0 5 0 0 0 false 0 false false ((za (upto (fr a0 1) ((ln (fr a0 1))-1))).1.1) ((za (upto (fr a0 1) ((ln (fr a0 1))-1))).1.2.1) ((za (upto (fr a0 1) ((ln (fr a0 1))-1))).1.2.2.1) ((za (upto (fr a0 1) ((ln (fr a0 1))-1))).1.2.2.2) false 0 0 0 0 0)))))))/\
((bx a0 0)≠40->
(((bx a0 0)=64->
((0:Int)<=1/\1<=ln a0)/\
(True)/\
(True)/\
(True)/\
(Wn 0 (ln ([67,70,71]:List UInt8)))/\
((U8 (bx ([67,70,71]:List UInt8) 0)))/\
((((qe (fr a0 1) (bx ([67,70,71]:List UInt8) 0)).2)=true->
((ln ((qe (fr a0 1) (bx ([67,70,71]:List UInt8) 0)).1)<=1000000))/\
(Wn 0 (ln ([0,3,4]:List Int)))/\
((((qd ((qe (fr a0 1) (bx ([67,70,71]:List UInt8) 0)).1)).2)=false->
 qh a0 0 0 0 0 false 0 false false 0 0 0 0 false 0 0 0 0 3))/\
(((qd ((qe (fr a0 1) (bx ([67,70,71]:List UInt8) 0)).1)).2)=true->
(True)/\
(((zh (Sign.mk 7 0 0 0 false 0 false false 0 0 0 0 false 0 0 (ix ([0,3,4]:List Int) 0) ((qd ((qe (fr a0 1) (bx ([67,70,71]:List UInt8) 0)).1)).1)))≠0->
 qh a0 0 0 0 0 false 0 false false 0 0 0 0 false 0 0 0 0 (zh (Sign.mk 7 0 0 0 false 0 false false 0 0 0 0 false 0 0 (ix ([0,3,4]:List Int) 0) ((qd ((qe (fr a0 1) (bx ([67,70,71]:List UInt8) 0)).1)).1)))))/\
((zh (Sign.mk 7 0 0 0 false 0 false false 0 0 0 0 false 0 0 (ix ([0,3,4]:List Int) 0) ((qd ((qe (fr a0 1) (bx ([67,70,71]:List UInt8) 0)).1)).1)))=0->
 qh a0 7 0 0 0 false 0 false false 0 0 0 0 false 0 0 (ix ([0,3,4]:List Int) 0) ((qd ((qe (fr a0 1) (bx ([67,70,71]:List UInt8) 0)).1)).1) 0))))/\
(((qe (fr a0 1) (bx ([67,70,71]:List UInt8) 0)).2)=false->
(Wn 1 (ln ([67,70,71]:List UInt8)))/\
((U8 (bx ([67,70,71]:List UInt8) 1)))/\
((((qe (fr a0 1) (bx ([67,70,71]:List UInt8) 1)).2)=true->
((ln ((qe (fr a0 1) (bx ([67,70,71]:List UInt8) 1)).1)<=1000000))/\
(Wn 1 (ln ([0,3,4]:List Int)))/\
((((qd ((qe (fr a0 1) (bx ([67,70,71]:List UInt8) 1)).1)).2)=false->
 qh a0 0 0 0 0 false 0 false false 0 0 0 0 false 0 0 0 0 3))/\
(((qd ((qe (fr a0 1) (bx ([67,70,71]:List UInt8) 1)).1)).2)=true->
(True)/\
(((zh (Sign.mk 7 0 0 0 false 0 false false 0 0 0 0 false 0 0 (ix ([0,3,4]:List Int) 1) ((qd ((qe (fr a0 1) (bx ([67,70,71]:List UInt8) 1)).1)).1)))≠0->
 qh a0 0 0 0 0 false 0 false false 0 0 0 0 false 0 0 0 0 (zh (Sign.mk 7 0 0 0 false 0 false false 0 0 0 0 false 0 0 (ix ([0,3,4]:List Int) 1) ((qd ((qe (fr a0 1) (bx ([67,70,71]:List UInt8) 1)).1)).1)))))/\
((zh (Sign.mk 7 0 0 0 false 0 false false 0 0 0 0 false 0 0 (ix ([0,3,4]:List Int) 1) ((qd ((qe (fr a0 1) (bx ([67,70,71]:List UInt8) 1)).1)).1)))=0->
 qh a0 7 0 0 0 false 0 false false 0 0 0 0 false 0 0 (ix ([0,3,4]:List Int) 1) ((qd ((qe (fr a0 1) (bx ([67,70,71]:List UInt8) 1)).1)).1) 0))))/\
(((qe (fr a0 1) (bx ([67,70,71]:List UInt8) 1)).2)=false->
(Wn 2 (ln ([67,70,71]:List UInt8)))/\
((U8 (bx ([67,70,71]:List UInt8) 2)))/\
((((qe (fr a0 1) (bx ([67,70,71]:List UInt8) 2)).2)=true->
((ln ((qe (fr a0 1) (bx ([67,70,71]:List UInt8) 2)).1)<=1000000))/\
(Wn 2 (ln ([0,3,4]:List Int)))/\
((((qd ((qe (fr a0 1) (bx ([67,70,71]:List UInt8) 2)).1)).2)=false->
 qh a0 0 0 0 0 false 0 false false 0 0 0 0 false 0 0 0 0 3))/\
(((qd ((qe (fr a0 1) (bx ([67,70,71]:List UInt8) 2)).1)).2)=true->
(True)/\
(((zh (Sign.mk 7 0 0 0 false 0 false false 0 0 0 0 false 0 0 (ix ([0,3,4]:List Int) 2) ((qd ((qe (fr a0 1) (bx ([67,70,71]:List UInt8) 2)).1)).1)))≠0->
 qh a0 0 0 0 0 false 0 false false 0 0 0 0 false 0 0 0 0 (zh (Sign.mk 7 0 0 0 false 0 false false 0 0 0 0 false 0 0 (ix ([0,3,4]:List Int) 2) ((qd ((qe (fr a0 1) (bx ([67,70,71]:List UInt8) 2)).1)).1)))))/\
((zh (Sign.mk 7 0 0 0 false 0 false false 0 0 0 0 false 0 0 (ix ([0,3,4]:List Int) 2) ((qd ((qe (fr a0 1) (bx ([67,70,71]:List UInt8) 2)).1)).1)))=0->
 qh a0 7 0 0 0 false 0 false false 0 0 0 0 false 0 0 (ix ([0,3,4]:List Int) 2) ((qd ((qe (fr a0 1) (bx ([67,70,71]:List UInt8) 2)).1)).1) 0))))/\
(((qe (fr a0 1) (bx ([67,70,71]:List UInt8) 2)).2)=false->
 qh a0 0 0 0 0 false 0 false false 0 0 0 0 false 0 0 0 0 3)))))/\
((bx a0 0)≠64->
(((bx a0 0)=38->
((0:Int)<=1/\1<=ln a0)/\
((ln (fr a0 1)<=1000000))/\
((((qd (fr a0 1)).2)=false->
 qh a0 0 0 0 0 false 0 false false 0 0 0 0 false 0 0 0 0 3))/\
(((qd (fr a0 1)).2)=true->
(True)/\
(((zh (Sign.mk 8 0 0 0 false 0 false false 0 0 0 0 false ((qd (fr a0 1)).1) 0 0 0))≠0->
 qh a0 0 0 0 0 false 0 false false 0 0 0 0 false 0 0 0 0 (zh (Sign.mk 8 0 0 0 false 0 false false 0 0 0 0 false ((qd (fr a0 1)).1) 0 0 0))))/\
((zh (Sign.mk 8 0 0 0 false 0 false false 0 0 0 0 false ((qd (fr a0 1)).1) 0 0 0))=0->
 qh a0 8 0 0 0 false 0 false false 0 0 0 0 false ((qd (fr a0 1)).1) 0 0 0 0))))/\
((bx a0 0)≠38->
(((bx a0 0)=93->
((0:Int)<=1/\1<=ln a0)/\
((ln (fr a0 1)<=1000000))/\
((((qd (fr a0 1)).2)=false->
 qh a0 0 0 0 0 false 0 false false 0 0 0 0 false 0 0 0 0 3))/\
(((qd (fr a0 1)).2)=true->
(True)/\
(((zh (Sign.mk 10 0 0 0 false 0 false false 0 0 0 0 false ((qd (fr a0 1)).1) 0 0 0))≠0->
 qh a0 0 0 0 0 false 0 false false 0 0 0 0 false 0 0 0 0 (zh (Sign.mk 10 0 0 0 false 0 false false 0 0 0 0 false ((qd (fr a0 1)).1) 0 0 0))))/\
((zh (Sign.mk 10 0 0 0 false 0 false false 0 0 0 0 false ((qd (fr a0 1)).1) 0 0 0))=0->
 qh a0 10 0 0 0 false 0 false false 0 0 0 0 false ((qd (fr a0 1)).1) 0 0 0 0))))/\
((bx a0 0)≠93->
((0:Int)<=1/\1<=ln a0)/\
(True)/\
((((jf (upto a0 1)).2)=0->
((0:Int)<=1/\1<=ln a0)/\
((z5 a0 0 (fr a0 1))/\
(∀ x12:Int,
(z5 a0 x12 (fr a0 1)->
((x12<(ln (fr a0 1))->
(Wn x12 (ln (fr a0 1)))/\
((48<=(bx (fr a0 1) x12)->
(Wn x12 (ln (fr a0 1)))/\
(((bx (fr a0 1) x12)<=57->
(I64 (x12+1))/\
(z5 a0 (x12+1) (fr a0 1))/\
 kp a0 (x12+1) (fr a0 1)<kp a0 x12 (fr a0 1)))/\
(57<(bx (fr a0 1) x12)->
((x12=0->
(Wn x12 (ln (fr a0 1)))/\
(((bx (fr a0 1) x12)=45->
(I64 (x12+1))/\
(z5 a0 (x12+1) (fr a0 1))/\
 kp a0 (x12+1) (fr a0 1)<kp a0 x12 (fr a0 1)))/\
((bx (fr a0 1) x12)≠45->
(kk a0 x12 (fr a0 1))/\
 True)))/\
(x12≠0->
(kk a0 x12 (fr a0 1))/\
 True))))/\
((bx (fr a0 1) x12)<48->
((x12=0->
(Wn x12 (ln (fr a0 1)))/\
(((bx (fr a0 1) x12)=45->
(I64 (x12+1))/\
(z5 a0 (x12+1) (fr a0 1))/\
 kp a0 (x12+1) (fr a0 1)<kp a0 x12 (fr a0 1)))/\
((bx (fr a0 1) x12)≠45->
(kk a0 x12 (fr a0 1))/\
 True)))/\
(x12≠0->
(kk a0 x12 (fr a0 1))/\
 True))))/\
((ln (fr a0 1))<=x12->
(kk a0 x12 (fr a0 1))/\
 True))))/\
(∀ x12:Int,
(kk a0 x12 (fr a0 1)->
((0:Int)<=x12/\x12<=ln (fr a0 1))/\
((ln (upto (fr a0 1) x12)<=1000000))/\
((0:Int)<=x12/\x12<=ln (fr a0 1))/\
(True)/\
(True)/\
(True)/\
((Wn 0 (ln ([98,35,110]:List UInt8)))/\
((U8 (bx ([98,35,110]:List UInt8) 0)))/\
((((qe (fr (fr a0 1) x12) (bx ([98,35,110]:List UInt8) 0)).2)=true->
(Wn 0 (ln ([(-1),1,2]:List Int)))/\
(qgc a0 x12 (
(jb a0 ((qe (fr (fr a0 1) x12) (bx ([98,35,110]:List UInt8) 0)).1) (ix ([(-1),1,2]:List Int) 0) (fr (fr a0 1) x12))/\
 True))))/\
(((qe (fr (fr a0 1) x12) (bx ([98,35,110]:List UInt8) 0)).2)=false->
(Wn 1 (ln ([98,35,110]:List UInt8)))/\
((U8 (bx ([98,35,110]:List UInt8) 1)))/\
((((qe (fr (fr a0 1) x12) (bx ([98,35,110]:List UInt8) 1)).2)=true->
(Wn 1 (ln ([(-1),1,2]:List Int)))/\
(qgc a0 x12 (
(jb a0 ((qe (fr (fr a0 1) x12) (bx ([98,35,110]:List UInt8) 1)).1) (ix ([(-1),1,2]:List Int) 1) (fr (fr a0 1) x12))/\
 True))))/\
(((qe (fr (fr a0 1) x12) (bx ([98,35,110]:List UInt8) 1)).2)=false->
(Wn 2 (ln ([98,35,110]:List UInt8)))/\
((U8 (bx ([98,35,110]:List UInt8) 2)))/\
((((qe (fr (fr a0 1) x12) (bx ([98,35,110]:List UInt8) 2)).2)=true->
(Wn 2 (ln ([(-1),1,2]:List Int)))/\
(qgc a0 x12 (
(jb a0 ((qe (fr (fr a0 1) x12) (bx ([98,35,110]:List UInt8) 2)).1) (ix ([(-1),1,2]:List Int) 2) (fr (fr a0 1) x12))/\
 True))))/\
(((qe (fr (fr a0 1) x12) (bx ([98,35,110]:List UInt8) 2)).2)=false->
(qgc a0 x12 (
(jb a0 (fr (fr a0 1) x12) 0 (fr (fr a0 1) x12))/\
 True))))))/\
(∀ x14:List UInt8,
(∀ x15:Int,
(jb a0 x14 x15 (fr (fr a0 1) x12)->
((U8 42))/\
((((z7 (upto (fr a0 1) x12)).2)=true->
((((qe x14 42).1)≠([]:List UInt8)->
 qh a0 0 0 0 0 false 0 false false 0 0 0 0 false 0 0 0 0 3))/\
(((qe x14 42).1)=([]:List UInt8)->
(True)/\
(((zh (Sign.mk 1 ((jf (upto a0 1)).1) ((z7 (upto (fr a0 1) x12)).1) x15 ((qe x14 42).2) 0 false false 0 0 0 0 false 0 0 0 0))≠0->
 qh a0 0 0 0 0 false 0 false false 0 0 0 0 false 0 0 0 0 (zh (Sign.mk 1 ((jf (upto a0 1)).1) ((z7 (upto (fr a0 1) x12)).1) x15 ((qe x14 42).2) 0 false false 0 0 0 0 false 0 0 0 0))))/\
((zh (Sign.mk 1 ((jf (upto a0 1)).1) ((z7 (upto (fr a0 1) x12)).1) x15 ((qe x14 42).2) 0 false false 0 0 0 0 false 0 0 0 0))=0->
 qh a0 1 ((jf (upto a0 1)).1) ((z7 (upto (fr a0 1) x12)).1) x15 ((qe x14 42).2) 0 false false 0 0 0 0 false 0 0 0 0 0))))/\
(((z7 (upto (fr a0 1) x12)).2)=false->
 qh a0 0 0 0 0 false 0 false false 0 0 0 0 false 0 0 0 0 3))))))))/\
(((jf (upto a0 1)).2)≠0->
((U8 47/\ln a0<=1000000))/\
((ln ((qad a0 47).1)<=1000000))/\
((ln ((qad a0 47).2.1)<=1000000))/\
((((qad a0 47).2.2)=true->
((((qd ((qad a0 47).1)).2)=true->
((((qd ((qad a0 47).2.1)).2)=false->
 qh a0 0 0 0 0 false 0 false false 0 0 0 0 false 0 0 0 0 3))/\
(((qd ((qad a0 47).2.1)).2)=true->
(True)/\
(((zh (Sign.mk 6 0 0 0 false 0 false false 0 0 0 0 false ((qd ((qad a0 47).1)).1) ((qd ((qad a0 47).2.1)).1) 0 0))≠0->
 qh a0 0 0 0 0 false 0 false false 0 0 0 0 false 0 0 0 0 (zh (Sign.mk 6 0 0 0 false 0 false false 0 0 0 0 false ((qd ((qad a0 47).1)).1) ((qd ((qad a0 47).2.1)).1) 0 0))))/\
((zh (Sign.mk 6 0 0 0 false 0 false false 0 0 0 0 false ((qd ((qad a0 47).1)).1) ((qd ((qad a0 47).2.1)).1) 0 0))=0->
 qh a0 6 0 0 0 false 0 false false 0 0 0 0 false ((qd ((qad a0 47).1)).1) ((qd ((qad a0 47).2.1)).1) 0 0 0))))/\
(((qd ((qad a0 47).1)).2)=false->
 qh a0 0 0 0 0 false 0 false false 0 0 0 0 false 0 0 0 0 3)))/\
(((qad a0 47).2.2)=false->
 qh a0 0 0 0 0 false 0 false false 0 0 0 0 false 0 0 0 0 3)))))))))))))
theorem zaf (a0:List UInt8):qau (qq XK (j7 q7v) (fun j ns=>match j,ns with | 0,[.i y0,.s y1]=>z5 a0 y0 y1 | 1,[.i y0,.s y1]=>kk a0 y0 y1 | 2,[.s y0,.i y1,.s y2]=>jb a0 y0 y1 y2 | 3,[.s y0,.i y1,.s y2]=>qa0 a0 y0 y1 y2 | _,_=>False) (fun j ns=>match j,ns with | 0,[.i y0,.s y1]=>kp a0 y0 y1 | _,_=>0)) {cfg sp with ann:=qar [(99,28,.inv 0 [.one 5 (.int .i64)] [.one 0 (.str)]),(99,7,.cut 1 [.one 5 (.int .i64)] [.one 0 (.str)]),(99,2042,.unroll 4),(99,255,.cut 2 [.one 0 (.str),.via 8 [.keep,.keep,.keep,.int .i64,.keep,.keep,.keep,.keep,.keep,.keep,.keep,.keep,.keep,.keep,.keep,.keep,.keep]] [.one 0 (.str)]),(95,122,.unroll 4),(95,15,.cut 3 [.one 0 (.str),.via 4 [.keep,.keep,.keep,.keep,.keep,.int .i64,.keep,.keep,.keep,.keep,.keep,.keep,.keep,.keep,.keep,.keep,.keep]] [.one 0 (.str)]),(97,58,.unroll 4)]} 10 13 [.str (a0)] (qv3 a0)=qsk a0:=by kernel_rfl
end Go.Proofs.YtbopmiclcimjgaaGreatDoor
