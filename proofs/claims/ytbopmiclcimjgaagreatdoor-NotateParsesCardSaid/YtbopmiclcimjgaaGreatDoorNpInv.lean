import Derived.Test.YtbopmiclcimjgaaGreatDoorNpSpec
import Derived.Test.YtbopmiclcimjgaaGreatDoorNtInv
import Derived.Test.YtbopmiclcimjgaaGreatDoorInvW
namespace Go.Proofs.YtbopmiclcimjgaaGreatDoor
open Go Go.E2 Go.E3
def ats (y:List Word):List Int:=y.map (·.At)
def rst (t:ZB):List Row:=fr (qa t).1 1
def jm (t:ZB) (x:List Sign) (y:List Word) (i:Int):Prop:=Hold (0<=i/\i<=ln (rst t)/\ln y=ln x/\ln x<=1000 * i/\rws (nmB t) (ln t) (fr (rst t) i) x (ats y)=qo t)
def qbw (t:ZB) (_:List Sign) (_:List Word) (i:Int):Nat:=(ln (rst t)-i).toNat
def kv (t:ZB) (x:List Sign) (y:List Word) (k i:Int):Prop:=Hold (0<=k/\k<=ln (ix (rst t) i).Words/\ln y=ln x/\ln x<=1000 * i+k/\qp4 (nmB t) (ln t) (fr (rst t) (i+1)) (wds (fr (ix (rst t) i).Words k) x (ats y))=qo t)
def qbx (t:ZB) (_:List Sign) (_:List Word) (k i:Int):Nat:=(ln (ix (rst t) i).Words-k).toNat
def jn (t:ZB) (x:List Sign) (y:List Int) (i:Int):Prop:=Hold (1<=i/\i<=ln (qa t).1/\ln y=ln x/\ln x<=1000 * i/\rws (nmB t) (ln t) (fr (qa t).1 i) x y=qo t)
def qby (t:ZB) (_:List Sign) (_:List Int) (i:Int):Nat:=(ln (qa t).1-i).toNat
def kx (t:ZB) (x:List Sign) (y:List Int) (k i:Int):Prop:=Hold (0<=k/\k<=ln (ix (qa t).1 i).Words/\ln y=ln x/\ln x<=1000 * i+k/\qp4 (nmB t) (ln t) (fr (qa t).1 (i+1)) (wds (fr (ix (qa t).1 i).Words k) x y)=qo t)
def qbz (t:ZB) (_:List Sign) (_:List Int) (k i:Int):Nat:=(ln (ix (qa t).1 i).Words-k).toNat
end Go.Proofs.YtbopmiclcimjgaaGreatDoor
