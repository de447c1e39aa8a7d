/- THE LOOPS' INVARIANTS AND MEASURES of the functions on parts as texts. -/
import Derived.Test.YtbopmiclcimjgaaGreatDoorNtSpec
import Derived.Test.YtbopmiclcimjgaaGreatDoorInv
namespace Go.Proofs.YtbopmiclcimjgaaGreatDoor
open Go Go.E2 Go.E3

def jz (a0:List UInt8) (i:Int):Prop:=0<=i/\i<=ln a0/\∀ j,0<=j->j<i->qkc (bx a0 j)=true
def zw (a0:List UInt8) (i:Int):Nat:=(ln a0-i).toNat
def jy (a0:List UInt8) (i:Int):Prop:=0<=i/\i<=ln a0/\∀ j,0<=j->j<i->qkc (bx a0 j)=true
def zv (a0:List UInt8) (i:Int):Nat:=(ln a0-i).toNat
def qa1 (_:List UInt8) (l:List Sign) (b:Bool) (i:Int):Prop:=0<=i/\i<=ln l/\qhn l i=qhn l 0/\b=ins l i/\(b=true->i<ln l/\(ix l i).Kind=4)
def j4 (_:List UInt8) (l:List Sign) (_:Bool) (i:Int):Nat:=(ln l-i).toNat
def kp (_:List UInt8) (l:List Sign) (i:Int):Prop:=0<=i/\i<=ln l/\qhn l i=qhn l 0
def zg (_:List UInt8) (l:List Sign) (i:Int):Nat:=(ln l-i).toNat
def qdg (a0 a1:List Sign) (i:Int):Prop:=0<=i/\i<=ln a0/\∀ j,0<=j->j<i->ix a0 j=ix a1 j
def qcu (a0 _:List Sign) (i:Int):Nat:=(ln a0-i).toNat
def qcj (a0:List UInt8) (a1:List Sign) (b:List UInt8) (i:Int):Prop:=Hold (0<=i/\i<=ln a1/\ln b<=1010+31 * i/\b=([112,97,114,116,32]++a0)++qzu a1 i.toNat++[if i=ln a1 then 10 else qlh i.toNat])
def jt (_:List UInt8) (a1:List Sign) (_:List UInt8) (i:Int):Nat:=(ln a1-i).toNat
def qfb (a0:List UInt8) (a1:List Sign) (b:List UInt8) (i:Int):Prop:=Hold (0<=i/\i<=ln a1/\ln b<=1010+31 * i/\b=([112,97,114,116,32]++a0)++qzu a1 i.toNat)
def qbu (_:List UInt8) (a1:List Sign) (_:List UInt8) (i:Int):Nat:=(ln a1-i).toNat
end Go.Proofs.YtbopmiclcimjgaaGreatDoor
