import Derived.Test.YtbopmiclcimjgaaGreatDoorSpec
namespace Go.Proofs.YtbopmiclcimjgaaGreatDoor
open Go Go.E2 Go.E3
def qjo (out:List Word) (r:List Word×Int):List Word×Int:=if r.2<0 then (out++r.1,-1) else ([],r.2)
def qgq (out:List Row) (r:List Row×Int×Int):List Row×Int×Int:=if r.2.1=0 then (out++r.1,0,0) else ([],r.2)
def qh9 (a0:ZB) (x:Int):Prop:=0<=x/\x<=ln a0/\∀ j,0<=j->j<x->zs (bx a0 j)=true
def qhh (a0:ZB) (x:Int):Nat:=(ln a0-x).toNat
def kk (a0 a1:ZB) (_ _:Int) (x:ZB) (i:Int) (l:List ZB):Prop:=0<=i/\ln l=qks a0 (bx a1 0)+1/\i+ln (qz (bx a1 0) x)=qks a0 (bx a1 0)+1/\upto l i++qz (bx a1 0) x=qz (bx a1 0) a0/\ln x<=ln a0
def kf (a0 a1:ZB) (_ _:Int) (_:ZB) (i:Int) (_:List ZB):Nat:=(qks a0 (bx a1 0)+1-i).toNat
def qbv (a0:ZB) (a1:Int) (x:Int):Prop:=a1+1<=x/\x<=ln a0/\zg zs a0 (a1+1)=zg zs a0 x
def qcz (a0:ZB) (_:Int) (x:Int):Nat:=(ln a0-x).toNat
def qd6 (a0:ZB) (a1:Int) (out:List Word) (x:Int):Prop:=0<=x/\x<=ln a0/\ln out<=x/\kb a0 a1 0=qjo out (kb a0 a1 x)
def qb0 (a0:ZB) (_:Int) (_:List Word) (x:Int):Nat:=(ln a0-x).toNat
def qi7 (a0:ZB) (_:Int) (y:Int) (x:Int):Prop:=x<=y/\y<=ln a0/\zg ke a0 x=zg ke a0 y
def qj6 (a0:ZB) (_:Int) (y:Int) (_:Int):Nat:=(ln a0-y).toNat
def qc5 (a0:ZB) (out:List Row) (x:Int):Prop:=0<=x/\x<=ln a0+1/\ln out<=x/\qay (qz 10 a0) 0=if x<=ln a0 then qgq out (qay (qz 10 (fr a0 x)) x) else (out,0,0)
def qa6 (a0:ZB) (_:List Row) (x:Int):Nat:=(ln a0+1-x).toNat
def qhn (a0:ZB) (y:Int) (x:Int):Prop:=x<=y/\y<=ln a0/\zg qmz a0 x=zg qmz a0 y
def qie (a0:ZB) (y:Int) (_:Int):Nat:=(ln a0-y).toNat
def qau (a0:ZB) (out:List Row) (at_:Int) (k:Int):Prop:=0<=k/\k<=ln (qz 10 a0)/\0<=at_/\at_<=1001 * k/\ln out<=k/\qay (qz 10 a0) 0=qgq out (qay (fr (qz 10 a0) k) at_)
def z5 (a0:ZB) (_:List Row) (_:Int) (k:Int):Nat:=(ln (qz 10 a0)-k).toNat
def qy (_:ZB) (out:List Word) (x:Int) (begin:Int) (line:ZB):Prop:=0<=x/\x<=ln line/\ln out<=x/\kb line begin 0=qjo out (kb line begin x)
def qc (_:ZB) (_:List Word) (x:Int) (_:Int) (line:ZB):Nat:=(ln line-x).toNat
def qho (_:ZB) (y:Int) (line:ZB) (x:Int):Prop:=x<=y/\y<=ln line/\zg kg line x=zg kg line y
def qif (_:ZB) (y:Int) (line:ZB) (_:Int):Nat:=(ln line-y).toNat
def qc6 (_:ZB) (y:Int) (line:ZB) (x:Int):Prop:=x<=y/\y<=ln line/\zg ke line x=zg ke line y
def qeg (_:ZB) (y:Int) (line:ZB) (_:Int):Nat:=(ln line-y).toNat
end Go.Proofs.YtbopmiclcimjgaaGreatDoor
