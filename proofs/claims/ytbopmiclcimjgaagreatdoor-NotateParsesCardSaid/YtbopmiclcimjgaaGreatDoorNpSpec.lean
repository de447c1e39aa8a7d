import Derived.Test.YtbopmiclcimjgaaGreatDoorNtSpec
import Derived.Test.YtbopmiclcimjgaaGreatDoorSpec
namespace Go.Proofs.YtbopmiclcimjgaaGreatDoor
open Go Go.E2 Go.E3
abbrev Res:=(ZB×List Sign)×(Int×Int)
def qur (e x:Int):Res:=(([],[]),(e,x))
def qrc (w:Word):Int:=if w.Quoted=true then 3 else (zc w.Text).2
def wds:List Word->List Sign->List Int->(List Sign×List Int)×(Int×Int)
 | [],acc,pl=>((acc,pl),(0,0))
 | w::ws,acc,pl=>if qrc w≠0 then (([],[]),(qrc w,w.At)) else wds ws (acc++[(zc w.Text).1]) (pl++[w.At])
def q88 (r:Row):Prop:=(ix r.Words 0).Text=[101,110,100]/\(ix r.Words 0).Quoted=false
instance (r:Row):Decidable (q88 r):=by unfold q88;infer_instance
def qow (nm:ZB) (r:Row) (rs:List Row) (acc:List Sign) (pl:List Int):Res:=
 if 1<ln r.Words then qur 3 (ix r.Words 1).At else if 0<ln rs then qur 3 (ix (ix rs 0).Words 0).At
 else if (zo nm acc).1≠0 then qur (zo nm acc).1 (ix pl (zo nm acc).2) else ((nm,acc),(0,0))
def rws (nm:ZB) (len:Int):List Row->List Sign->List Int->Res
 | [],_,_=>qur 9 len
 | r::rs,acc,pl=>if q88 r then qow nm r rs acc pl
  else if (wds r.Words acc pl).2.1≠0 then qur (wds r.Words acc pl).2.1 (wds r.Words acc pl).2.2 else rws nm len rs (wds r.Words acc pl).1.1 (wds r.Words acc pl).1.2
def hd0 (t:ZB):Row:=ix (qa t).1 0
def nmB (t:ZB):ZB:=(ix (hd0 t).Words 1).Text
def qh8 (t:ZB):Int:=if (ix (hd0 t).Words 0).Text≠[112,97,114,116]∨(ix (hd0 t).Words 0).Quoted=true∨ln (hd0 t).Words≠2 then 3
 else if (ix (hd0 t).Words 1).Quoted=true∨jg (nmB t)=false then 7 else 0
def q9h (t:ZB):Int:=if qh8 t=3 then (ix (hd0 t).Words 0).At else (ix (hd0 t).Words 1).At
def qo (t:ZB):Res:=
 if (qa t).2.1≠0 then qur (qa t).2.1 (qa t).2.2 else if ln (qa t).1=0 then qur 9 (ln t)
 else if qh8 t≠0 then qur (qh8 t) (q9h t) else rws (nmB t) (ln t) (fr (qa t).1 1) [] []
def qp4 (nm:ZB) (len:Int) (rs:List Row) (p:(List Sign×List Int)×(Int×Int)):Res:=
 if p.2.1≠0 then qur p.2.1 p.2.2 else rws nm len rs p.1.1 p.1.2
end Go.Proofs.YtbopmiclcimjgaaGreatDoor
