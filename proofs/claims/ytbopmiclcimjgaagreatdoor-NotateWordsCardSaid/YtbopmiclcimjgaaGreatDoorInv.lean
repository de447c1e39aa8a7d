/- THE LOOPS' INVARIANTS AND MEASURES, and what holds behind the cuts, of the functions on signs as words. -/
import Derived.Test.YtbopmiclcimjgaaGreatDoorNwSpec
namespace Go.Proofs.YtbopmiclcimjgaaGreatDoor
open Go Go.E2 Go.E3

/-- What holds, behind a name. -/
structure Hold (p:Prop):Prop where
  out:p
theorem zbt {p:Prop}:Hold p↔p:=⟨fun h=>h.out,fun h=>⟨h⟩⟩
def jn (a0 a1 a2 a3 i:Int):Prop:=0<=i/\i<=4/\(i<1∨a0=2∨a0=3)/\(i<2∨a1=2∨a1=3)/\(i<3∨a2=2∨a2=3)/\(i<4∨a3=2∨a3=3)
def zo (_ _ _ _ i:Int):Nat:=(4-i).toNat
def zk8 (l:List Int) (i:Int):Prop:=0<=i/\i<=4/\∀ j,0<=j->j<i->(ix l j=2∨ix l j=3)
def qcu (a0 a1 a2 a3 i:Int):Prop:=zk8 [a0,a1,a2,a3] i
def qby (_ _ _ _ i:Int):Nat:=(4-i).toNat
def qaz (s:List UInt8) (n i:Int):Prop:=0<=i/\i<=ln s/\0<=n/\n<=1099511627776/\qcd s i n=qd s
def qb0 (s:List UInt8) (_ i:Int):Nat:=(ln s-i).toNat
def qay (s:List UInt8) (n i:Int):Prop:=0<=i/\i<=ln s/\0<=n/\n<=1099511627776/\qcd s i n=qd s
def qbz (s:List UInt8) (_ i:Int):Nat:=(ln s-i).toNat
def qer (s:List UInt8) (c k m i:Int):Prop:=0<=i/\i<=ln s/\0<=m/\m<=i/\0<=k/\k<=i/\(m=1->k<i)/\qbe s c i k m=qad s c
def qdk (s:List UInt8) (_ _ _ i:Int):Nat:=(ln s-i).toNat
def qdy (s:List UInt8) (i:Int):Prop:=0<=i/\i<=16/\qfn s (fr allM i)=za s
def qfe (_:List UInt8) (i:Int):Nat:=(16-i).toNat

/-! ### Signs to words -/
def acA (a:Int):List UInt8:=if a = -1 then [98] else []
def acB (a:Int):List UInt8:=if a=1 then [35] else []
def acC (a:Int):List UInt8:=if a=2 then [110] else []
def qb8 (_ _ _ _:Int) (_:Bool) (_:Int) (_ _:Bool) (_ _ _ _:Int) (_:Bool) (_ _ _ _:Int) (b b0:List UInt8) (acc:Int):Prop:=Hold (b=b0++acA acc)
def qb9 (_ _ _ _:Int) (_:Bool) (_:Int) (_ _:Bool) (_ _ _ _:Int) (_:Bool) (_ _ _ _:Int) (b b0:List UInt8) (acc:Int):Prop:=Hold (b=b0++acB acc)
def qca (_ _ _ _:Int) (_:Bool) (_:Int) (_ _:Bool) (_ _ _ _:Int) (_:Bool) (_ _ _ _:Int) (b b0:List UInt8) (acc:Int):Prop:=Hold (b=b0++acC acc)
def qcb (_ _ _ _:Int) (_:Bool) (_:Int) (_ _:Bool) (_ _ _ _:Int) (_:Bool) (_ _ _ _:Int) (b b0:List UInt8) (k:Int):Prop:=Hold (b=b0++qmh k)
def qcc (_ _ _ _:Int) (_:Bool) (_:Int) (_ _:Bool) (_ _ _ _:Int) (_:Bool) (_ _ _ _:Int) (b b0:List UInt8) (o:Bool):Prop:=Hold (b=b0++ju o 126)

/-! ### Words to signs -/
def Rng (w:List UInt8) (i j:Int):Prop:=i<=j/\j<=ln w
def jc (w m:List UInt8) (i i0:Int):Prop:=Hold (m=(qf2 w i0).1/\i=(qf2 w i0).2/\Rng w i0 i/\ln m<=1)
def zc (w:List UInt8) (i i0:Int):Prop:=Hold (Rng w i0 i/\dgE w i0=dgE w i)
def zx (w:List UInt8) (i _:Int):Nat:=(ln w-i).toNat
def qk (w:List UInt8) (i i0:Int):Prop:=Hold (Rng w i0 i/\i=dgE w i0)
def kv (_:List UInt8) (b b0 ok:Bool):Prop:=Hold (b=(b0 || !ok))
def qbj (_:List UInt8) (b b0 ok:Bool):Prop:=Hold (b=(b0 || !ok))
def z9 (w:List UInt8) (k i:Int):Prop:=Hold (0<=k/\k<=8/\qrr w i k=qqh w i)
def qbl (_:List UInt8) (k _:Int):Nat:=(8-k).toNat
def qa1 (w:List UInt8) (i:Int) (bad:Bool) (v:Int):Prop:=Hold (Rng w 0 i/\((bad=false/\i=1/\qqh w 0=some v)∨(bad=true/\qqh w 0=none)))
def zr (w:List UInt8) (i a i0:Int):Prop:=Hold (Rng w i0 i/\a=(qiw w i0).1/\i=(qiw w i0).2)
def qbk (w:List UInt8) (i:Int) (bad:Bool) (p a:Int) (c:Bool) (i0:Int) (bad0:Bool):Prop:=Hold (Rng w i0 i/\p=(qek w i0).1/\a=(qek w i0).2.1/\c=(qek w i0).2.2.1/\bad=(bad0 || !(qek w i0).2.2.2.1)/\i=(qek w i0).2.2.2.2)
def jg (w:List UInt8) (i k i0:Int):Prop:=Hold (Rng w i0 i/\k=(qi5 w i0).1/\i=(qi5 w i0).2)
def qaf (w:List UInt8) (i:Int) (o:Bool) (i0:Int):Prop:=Hold (Rng w i0 i/\o=(qcr w i0 126).1/\i=(qcr w i0 126).2)
def qag (w:List UInt8) (i:Int) (bad:Bool) (i0:Int) (bad0:Bool):Prop:=Hold (Rng w i0 i/\((tk w i0 47=true/\i=i0+1/\bad=bad0)∨(tk w i0 47=false/\bad=true)))
def k6 (w:List UInt8) (i:Int) (bad:Bool) (k i0:Int):Prop:=Hold (Rng w i0 i/\((bad=false/\i=i0+1/\q2h w i0=some k)∨(bad=true/\q2h w i0=none)))
def qb (w:List UInt8) (i:Int):Prop:=Hold (∀ j,1<=j->j<=i->rdK w j=none)

def z5 (_:List UInt8) (i:Int) (s:List UInt8):Prop:=Hold (0<=i/\i<=ln s/\hdE s i=hdE s 0)
def kp (_:List UInt8) (i:Int) (s:List UInt8):Nat:=(ln s-i).toNat
def kk (_:List UInt8) (i:Int) (s:List UInt8):Prop:=Hold (0<=i/\i<=ln s/\i=hdE s 0)
def jb (_:List UInt8) (s:List UInt8) (a:Int) (s0:List UInt8):Prop:=Hold (a=(qmq s0).1/\s=(qmq s0).2/\ln s<=ln s0)
def qa0 (_:List UInt8) (s:List UInt8) (k:Int) (s0:List UInt8):Prop:=Hold (k=(qqd s0).1/\s=(qqd s0).2/\ln s<=ln s0)
end Go.Proofs.YtbopmiclcimjgaaGreatDoor
