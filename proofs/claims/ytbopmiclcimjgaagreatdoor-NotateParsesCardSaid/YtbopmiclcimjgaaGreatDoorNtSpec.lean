import Derived.Test.YtbopmiclcimjgaaGreatDoorNwSpec
namespace Go.Proofs.YtbopmiclcimjgaaGreatDoor
open Go Go.E2 Go.E3
theorem qq3 (s:Sign):Sign.mk s.Kind s.Value s.Place s.Acc s.Color s.Stem s.Oblique s.Last s.MensMax s.MensMod s.MensTem s.MensPro s.Stroke s.N s.D s.ClefStep s.ClefLine=s:=rfl
def ins (l:List Sign) (i:Int):Bool:=decide (0<i)&&(decide ((ix l (i-1)).Kind=4)&&!(ix l (i-1)).Last)
def zhc (l:List Sign) (i:Int):Prop:=
 (ix l i).Kind=4/\(((ix l i).Last=true/\ins l i=false)∨((ix l i).Last=false/\(ln l<=i+1∨(ix l (i+1)).Kind≠4)))
instance (l:List Sign) (i:Int):Decidable (zhc l i):=by unfold zhc;infer_instance
def qtp (l:List Sign) (i:Int):Int:=if zn (ix l i)≠0 then zn (ix l i) else if zhc l i then 3 else 0
def qh0 (l:List Sign) (i:Int):Int×Int:=if h:i<ln l then (if qtp l i≠0 then (qtp l i,i) else qh0 l (i+1)) else (0,0)
 termination_by (ln l-i).toNat
 decreasing_by omega
def zo (nm:ZB) (l:List Sign):Int×Int:=if jg nm=false then (7,0) else if 400<ln l then (11,0) else qh0 l 0
theorem qwf {l:List Sign} {i:Int} (h:i<ln l) (he:qtp l i=0):qh0 l i=qh0 l (i+1):=by
 rw [qh0,dif_pos h,if_neg (by simp [he])]
theorem q19 {l:List Sign} {i:Int} (h:i<ln l) (he:qtp l i≠0):qh0 l i=(qtp l i,i):=by
 rw [qh0,dif_pos h,if_pos he]
theorem q18 {l:List Sign} {i:Int} (h:ln l<=i):qh0 l i=(0,0):=by
 rw [qh0,dif_neg (by omega)]
theorem zk2 (a b:Sign):(a.Kind=b.Kind/\a.Value=b.Value/\a.Place=b.Place/\a.Acc=b.Acc/\a.Color=b.Color/\a.Stem=b.Stem/\a.Oblique=b.Oblique/\a.Last=b.Last/\a.MensMax=b.MensMax/\a.MensMod=b.MensMod/\a.MensTem=b.MensTem/\a.MensPro=b.MensPro/\a.Stroke=b.Stroke/\a.N=b.N/\a.D=b.D/\a.ClefStep=b.ClefStep/\a.ClefLine=b.ClefLine)↔a=b:=by
 cases a;cases b;simp only [Sign.mk.injEq]
instance:DecidableEq Sign:=fun a b=>decidable_of_iff _ (zk2 a b)
def qkx (a b:List Sign):Bool:=decide (a=b)
def jj (n:ZB) (a:List Sign) (m:ZB) (b:List Sign):Bool:=decide (n=m/\a=b)
end Go.Proofs.YtbopmiclcimjgaaGreatDoor
