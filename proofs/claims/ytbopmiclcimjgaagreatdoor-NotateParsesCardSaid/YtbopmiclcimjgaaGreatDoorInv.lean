import Derived.Test.YtbopmiclcimjgaaGreatDoorNwSpec
namespace Go.Proofs.YtbopmiclcimjgaaGreatDoor
open Go Go.E2 Go.E3
structure Hold (p:Prop):Prop where
  out:p
def qad (a0 a1 a2 a3 i:Int):Prop:=0<=i/\i<=4/\(i<1∨a0=2∨a0=3)/\(i<2∨a1=2∨a1=3)/\(i<3∨a2=2∨a2=3)/\(i<4∨a3=2∨a3=3)
def zt (_ _ _ _ i:Int):Nat:=(4-i).toNat
def ztf (l:List Int) (i:Int):Prop:=0<=i/\i<=4/\∀ j,0<=j->j<i->(ix l j=2∨ix l j=3)
def qdq (a0 a1 a2 a3 i:Int):Prop:=ztf [a0,a1,a2,a3] i
def qcw (_ _ _ _ i:Int):Nat:=(4-i).toNat
def qbs (s:ZB) (n i:Int):Prop:=0<=i/\i<=ln s/\0<=n/\n<=1099511627776/\qc7 s i n=qi s
def qcy (s:ZB) (_ i:Int):Nat:=(ln s-i).toNat
def qbr (s:ZB) (n i:Int):Prop:=0<=i/\i<=ln s/\0<=n/\n<=1099511627776/\qc7 s i n=qi s
def qcx (s:ZB) (_ i:Int):Nat:=(ln s-i).toNat
def qfp (s:ZB) (c k m i:Int):Prop:=0<=i/\i<=ln s/\0<=m/\m<=i/\0<=k/\k<=i/\(m=1->k<i)/\qcb s c i k m=qa1 s c
def qef (s:ZB) (_ _ _ i:Int):Nat:=(ln s-i).toNat
def qew (s:ZB) (i:Int):Prop:=0<=i/\i<=16/\qgp s (fr allM i)=kc s
def qge (_:ZB) (i:Int):Nat:=(16-i).toNat
def Rng (w:ZB) (i j:Int):Prop:=i<=j/\j<=ln w
def ju (w m:ZB) (i i0:Int):Prop:=Hold (m=(qg7 w i0).1/\i=(qg7 w i0).2/\Rng w i0 i/\ln m<=1)
def ze (w:ZB) (i i0:Int):Prop:=Hold (Rng w i0 i/\dgE w i0=dgE w i)
def z6 (w:ZB) (i _:Int):Nat:=(ln w-i).toNat
def ql (w:ZB) (i i0:Int):Prop:=Hold (Rng w i0 i/\i=dgE w i0)
def ji (_:ZB) (b b0 ok:Bool):Prop:=Hold (b=(b0 || !ok))
def qcg (_:ZB) (b b0 ok:Bool):Prop:=Hold (b=(b0 || !ok))
def kj (w:ZB) (k i:Int):Prop:=Hold (0<=k/\k<=8/\qun w i k=qs2 w i)
def qci (_:ZB) (k _:Int):Nat:=(8-k).toNat
def qbu (w:ZB) (i:Int) (bad:Bool) (v:Int):Prop:=Hold (Rng w 0 i/\((bad=false/\i=1/\qs2 w 0=some v)∨(bad=true/\qs2 w 0=none)))
def zx (w:ZB) (i a i0:Int):Prop:=Hold (Rng w i0 i/\a=(qke w i0).1/\i=(qke w i0).2)
def qch (w:ZB) (i:Int) (bad:Bool) (p a:Int) (c:Bool) (i0:Int) (bad0:Bool):Prop:=Hold (Rng w i0 i/\p=(qfi w i0).1/\a=(qfi w i0).2.1/\c=(qfi w i0).2.2.1/\bad=(bad0 || !(qfi w i0).2.2.2.1)/\i=(qfi w i0).2.2.2.2)
def jz (w:ZB) (i k i0:Int):Prop:=Hold (Rng w i0 i/\k=(qko w i0).1/\i=(qko w i0).2)
def qa3 (w:ZB) (i:Int) (o:Bool) (i0:Int):Prop:=Hold (Rng w i0 i/\o=(qdm w i0 126).1/\i=(qdm w i0 126).2)
def qa4 (w:ZB) (i:Int) (bad:Bool) (i0:Int) (bad0:Bool):Prop:=Hold (Rng w i0 i/\((tk w i0 47=true/\i=i0+1/\bad=bad0)∨(tk w i0 47=false/\bad=true)))
def jo (w:ZB) (i:Int) (bad:Bool) (k i0:Int):Prop:=Hold (Rng w i0 i/\((bad=false/\i=i0+1/\q7i w i0=some k)∨(bad=true/\q7i w i0=none)))
def qd (w:ZB) (i:Int):Prop:=Hold (∀ j,1<=j->j<=i->rdK w j=none)
def z9 (_:ZB) (i:Int) (s:ZB):Prop:=Hold (0<=i/\i<=ln s/\hdE s i=hdE s 0)
def jd (_:ZB) (i:Int) (s:ZB):Nat:=(ln s-i).toNat
def jb (_:ZB) (i:Int) (s:ZB):Prop:=Hold (0<=i/\i<=ln s/\i=hdE s 0)
def jt (_:ZB) (s:ZB) (a:Int) (s0:ZB):Prop:=Hold (a=(qop s0).1/\s=(qop s0).2/\ln s<=ln s0)
def qbt (_:ZB) (s:ZB) (k:Int) (s0:ZB):Prop:=Hold (k=(qsy s0).1/\s=(qsy s0).2/\ln s<=ln s0)
end Go.Proofs.YtbopmiclcimjgaaGreatDoor
