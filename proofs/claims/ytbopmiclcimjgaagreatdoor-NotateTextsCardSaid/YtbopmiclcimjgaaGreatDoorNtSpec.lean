/- WHAT THE FUNCTIONS ON PARTS AS TEXTS COMPUTE, in plain Lean; no program in sight. -/
import Derived.Test.YtbopmiclcimjgaaGreatDoorNwSpec
namespace Go.Proofs.YtbopmiclcimjgaaGreatDoor
open Go Go.E2 Go.E3

theorem qmw (s:Sign):Sign.mk s.Kind s.Value s.Place s.Acc s.Color s.Stem s.Oblique s.Last s.MensMax s.MensMod s.MensTem s.MensPro s.Stroke s.N s.D s.ClefStep s.ClefLine=s:=rfl

/-! ### The signs of a part -/
/-- Is one inside a ligature, before a sign? -/
def ins (l:List Sign) (i:Int):Bool:=decide (0<i)&&(decide ((ix l (i-1)).Kind=4)&&!(ix l (i-1)).Last)
def q65 (l:List Sign) (i:Int):Prop:=
  (ix l i).Kind=4/\(((ix l i).Last=true/\ins l i=false)∨((ix l i).Last=false/\(ln l<=i+1∨(ix l (i+1)).Kind≠4)))
instance (l:List Sign) (i:Int):Decidable (q65 l i):=by unfold q65;infer_instance
def qrd (l:List Sign) (i:Int):Int:=if qa8 (ix l i)≠0 then qa8 (ix l i) else if q65 l i then 3 else 0
def qhn (l:List Sign) (i:Int):Int×Int:=if h:i<ln l then (if qrd l i≠0 then (qrd l i,i) else qhn l (i+1)) else (0,0)
 termination_by (ln l-i).toNat
 decreasing_by omega
def qo (nm:List UInt8) (l:List Sign):Int×Int:=if jb nm=false then (7,0) else if 400<ln l then (11,0) else qhn l 0
theorem qxs {l:List Sign} {i:Int} (h:i<ln l) (he:qrd l i=0):qhn l i=qhn l (i+1):=by
  rw [qhn,dif_pos h,if_neg (by simp [he])]
theorem q2n {l:List Sign} {i:Int} (h:i<ln l) (he:qrd l i≠0):qhn l i=(qrd l i,i):=by
  rw [qhn,dif_pos h,if_pos he]
theorem q2m {l:List Sign} {i:Int} (h:ln l<=i):qhn l i=(0,0):=by
  rw [qhn,dif_neg (by omega)]

/-! ### The kit -/
theorem q9g (a b:Sign):(a.Kind=b.Kind/\a.Value=b.Value/\a.Place=b.Place/\a.Acc=b.Acc/\a.Color=b.Color/\a.Stem=b.Stem/\a.Oblique=b.Oblique/\a.Last=b.Last/\a.MensMax=b.MensMax/\a.MensMod=b.MensMod/\a.MensTem=b.MensTem/\a.MensPro=b.MensPro/\a.Stroke=b.Stroke/\a.N=b.N/\a.D=b.D/\a.ClefStep=b.ClefStep/\a.ClefLine=b.ClefLine)↔a=b:=by
  cases a;cases b;simp only [Sign.mk.injEq]
instance:DecidableEq Sign:=fun a b=>decidable_of_iff _ (q9g a b)
def qhr (a b:List Sign):Bool:=decide (a=b)
def z7 (n:List UInt8) (a:List Sign) (m:List UInt8) (b:List Sign):Bool:=decide (n=m/\a=b)

/-! ### Parts as texts -/
def qlh (i:Nat):UInt8:=if i % 16=0 then 10 else 32
def qzu (l:List Sign):Nat->List UInt8
  | 0=>[]
  | n+1=>qzu l n++[qlh n]++(qq (ix l n)).1
def qa7 (nm:List UInt8) (l:List Sign):List UInt8×Int:=if (qo nm l).1=0 then (([112,97,114,116,32]++nm)++qzu l (ln l).toNat++[10,101,110,100,10],0) else ([],(qo nm l).1)
end Go.Proofs.YtbopmiclcimjgaaGreatDoor
