import Derived.Test.YtbopmiclcimjgaaGreatDoorNat
import Derived.Test.YtbopmiclcimjgaaGreatDoorM6
namespace Go.Proofs.YtbopmiclcimjgaaGreatDoor
open Go Go.E2 Go.E3
def qu9 (b:Int):Bool:=decide (97<=b)&&decide (b<=122)
def qn9 (b:Int):Bool:=qu9 b || (decide (48<=b)&&decide (b<=57)) || decide (b=45)
def jg (s:ZB):Bool:=decide (1<=ln s)&&decide (ln s<=20)&&qu9 (bx s 0)&&s.all fun b=>qn9 b.toNat
def qa0 (a b c d:Int):Int:=if (a=2∨a=3)/\(b=2∨b=3)/\(c=2∨c=3)/\(d=2∨d=3) then 0 else 12
def q5z (s:Sign):Prop:=
  (s.Value=0∨s.Kind=1∨s.Kind=2)/\((s.Place=0/\s.Acc=0/\s.Color=false)∨s.Kind=1∨s.Kind=4)/\((s.Stem=0/\s.Oblique=false/\s.Last=false)∨s.Kind=4)/\
  ((s.MensMax=0/\s.MensMod=0/\s.MensTem=0/\s.MensPro=0/\s.Stroke=false)∨s.Kind=5)/\(s.N=0∨s.Kind=6∨s.Kind=8∨s.Kind=10)/\(s.D=0∨s.Kind=6)/\
  ((s.ClefStep=0/\s.ClefLine=0)∨s.Kind=7)
instance (s:Sign):Decidable (q5z s):=by unfold q5z;infer_instance
def qep (s:Sign):Prop:=
  ((s.Kind≠1/\s.Kind≠2)∨(1<=s.Value/\s.Value<=8))/\((s.Kind≠1/\s.Kind≠4)∨(-4<=s.Place/\s.Place<=12/\-1<=s.Acc/\s.Acc<=2))/\(s.Kind≠4∨(0<=s.Stem/\s.Stem<=3))/\
  (s.Kind≠6∨(1<=s.N/\s.N<=100/\1<=s.D/\s.D<=100))/\(s.Kind≠7∨((s.ClefStep=0∨s.ClefStep=3∨s.ClefStep=4)/\1<=s.ClefLine/\s.ClefLine<=5))/\
  (s.Kind≠8∨(0<=s.N/\s.N<=2))/\(s.Kind≠10∨(2<=s.N/\s.N<=4))
instance (s:Sign):Decidable (qep s):=by unfold qep;infer_instance
def zn (s:Sign):Int:=
  if s.Kind<1∨12<s.Kind then 8 else if ¬ q5z s then 3 else if s.Kind=5/\qa0 s.MensMax s.MensMod s.MensTem s.MensPro≠0 then 12 else if ¬ qep s then 2
  else if s.Oblique=true/\s.Last=true then 3 else 0
end Go.Proofs.YtbopmiclcimjgaaGreatDoor
