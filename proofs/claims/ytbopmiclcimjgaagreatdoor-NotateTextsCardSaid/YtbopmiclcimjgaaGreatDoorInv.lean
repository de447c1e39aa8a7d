/- THE LOOPS' INVARIANTS AND MEASURES, and what holds behind the cuts, of the functions on signs as words. -/
import Derived.Test.YtbopmiclcimjgaaGreatDoorNwSpec
namespace Go.Proofs.YtbopmiclcimjgaaGreatDoor
open Go Go.E2 Go.E3

/-- What holds, behind a name. -/
structure Hold (p:Prop):Prop where
  out:p
theorem q7u {p:Prop}:Hold p↔p:=⟨fun h=>h.out,fun h=>⟨h⟩⟩
def kx (a0 a1 a2 a3 i:Int):Prop:=0<=i/\i<=4/\(i<1∨a0=2∨a0=3)/\(i<2∨a1=2∨a1=3)/\(i<3∨a2=2∨a2=3)/\(i<4∨a3=2∨a3=3)
def zf (_ _ _ _ i:Int):Nat:=(4-i).toNat
def zfd (l:List Int) (i:Int):Prop:=0<=i/\i<=4/\∀ j,0<=j->j<i->(ix l j=2∨ix l j=3)
def qb5 (a0 a1 a2 a3 i:Int):Prop:=zfd [a0,a1,a2,a3] i
def qbe (_ _ _ _ i:Int):Nat:=(4-i).toNat
def qai (s:List UInt8) (n i:Int):Prop:=0<=i/\i<=ln s/\0<=n/\n<=1099511627776/\qcl s i n=kh s
def qbf (s:List UInt8) (_ i:Int):Nat:=(ln s-i).toNat
/-! ### Signs to words -/
def acA (a:Int):List UInt8:=if a = -1 then [98] else []
def acB (a:Int):List UInt8:=if a=1 then [35] else []
def acC (a:Int):List UInt8:=if a=2 then [110] else []
def qbl (_ _ _ _:Int) (_:Bool) (_:Int) (_ _:Bool) (_ _ _ _:Int) (_:Bool) (_ _ _ _:Int) (b b0:List UInt8) (acc:Int):Prop:=Hold (b=b0++acA acc)
def qbm (_ _ _ _:Int) (_:Bool) (_:Int) (_ _:Bool) (_ _ _ _:Int) (_:Bool) (_ _ _ _:Int) (b b0:List UInt8) (acc:Int):Prop:=Hold (b=b0++acB acc)
def qbn (_ _ _ _:Int) (_:Bool) (_:Int) (_ _:Bool) (_ _ _ _:Int) (_:Bool) (_ _ _ _:Int) (b b0:List UInt8) (acc:Int):Prop:=Hold (b=b0++acC acc)
def qbo (_ _ _ _:Int) (_:Bool) (_:Int) (_ _:Bool) (_ _ _ _:Int) (_:Bool) (_ _ _ _:Int) (b b0:List UInt8) (k:Int):Prop:=Hold (b=b0++qkj k)
def qbp (_ _ _ _:Int) (_:Bool) (_:Int) (_ _:Bool) (_ _ _ _:Int) (_:Bool) (_ _ _ _:Int) (b b0:List UInt8) (o:Bool):Prop:=Hold (b=b0++j3 o 126)

/-! ### Words to signs -/
def Rng (w:List UInt8) (i j:Int):Prop:=i<=j/\j<=ln w
def qo3 (w m:List UInt8) (i i0:Int):Prop:=Hold (m=(zfa w i0).1/\i=(zfa w i0).2/\Rng w i0 i/\ln m<=1)
def qo4 (w:List UInt8) (i i0:Int):Prop:=Hold (Rng w i0 i/\dgE w i0=dgE w i)
def qo5 (w:List UInt8) (i i0:Int):Prop:=Hold (Rng w i0 i/\i=dgE w i0)
def qyl (_:List UInt8) (b b0 ok:Bool):Prop:=Hold (b=(b0 || !ok))
def qym (_:List UInt8) (b b0 ok:Bool):Prop:=Hold (b=(b0 || !ok))
end Go.Proofs.YtbopmiclcimjgaaGreatDoor
