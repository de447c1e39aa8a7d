/- LETTERS OF VALUES, in plain Lean; no program in sight. -/
import Derived.Test.YtbopmiclcimjgaaGreatDoorNat
import Derived.Test.YtbopmiclcimjgaaGreatDoorM6
import Derived.Lib.Index
namespace Go.Proofs.YtbopmiclcimjgaaGreatDoor
open Go Go.E2 Go.E3
def qo6 (s t:ZB):Int:=Go.Lib.index s t
def qit (v:Int):ZB:=if v<1∨8<v then [] else sub ([88,76,66,83,77,81,70,90]:ZB) (v-1) v
def letE (v:Int):Int:=if v<1∨8<v then 2 else 0
def qdj (t:ZB):Int:=if t=[88] then 1 else if t=[76] then 2 else if t=[66] then 3 else if t=[83] then 4 else if t=[77] then 5 else if t=[81] then 6 else if t=[70] then 7 else if t=[90] then 8 else 0
def qi3 (t:ZB):Int:=if qdj t=0 then 3 else 0
theorem q0j (c:UInt8):qo6 [88,76,66,83,77,81,70,90] [c]=if qdj [c]=0 then -1 else qdj [c]-1:=by
 unfold qo6 qdj
 simp only [Go.Lib.index,List.isPrefixOf,List.isEmpty,List.cons.injEq,and_true,Bool.and_true]
 by_cases h1:c=88
 .subst h1;decide
 by_cases h2:c=76
 .subst h2;decide
 by_cases h3:c=66
 .subst h3;decide
 by_cases h4:c=83
 .subst h4;decide
 by_cases h5:c=77
 .subst h5;decide
 by_cases h6:c=81
 .subst h6;decide
 by_cases h7:c=70
 .subst h7;decide
 by_cases h8:c=90
 .subst h8;decide
 .simp [h1,h2,h3,h4,h5,h6,h7,h8]
theorem q1a (t:ZB):0<=qdj t/\qdj t<=8:=by
 unfold qdj
 repeat' split
 all_goals decide
theorem qzt {t:ZB} (h:ln t≠1):qdj t=0:=by
 unfold qdj
 repeat' split
 all_goals first | rfl | (rename_i hh;subst hh;exact absurd rfl h)
def qdr (a0:ZB) (i:Int):Prop:=0<=i/\i<=8/\∀ j,0<=j->j<i->a0≠sub ([88,76,66,83,77,81,70,90]:ZB) j (j+1)
def qc6 (_:ZB) (i:Int):Nat:=(8-i).toNat
end Go.Proofs.YtbopmiclcimjgaaGreatDoor
