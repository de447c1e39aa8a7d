import Derived.Test.YtbopmiclcimjgaaGreatDoorVcs
import Derived.Test.YtbopmiclcimjgaaGreatDoorVcsO
namespace Go.Proofs.YtbopmiclcimjgaaGreatDoor
open Go Go.E2 Go.E3
set_option maxRecDepth 100000
theorem zdf (a0 a1 a2 a3:Int):qrf a0 a1 a2 a3:=by
 unfold qrf
 unhygienic (repeat' (first | exact trivial | apply And.intro | intro))
 all_goals try simp only [qad,zt] at *
 all_goals first
  | omega
  | (unfold qa0;split<;>omega)
theorem q7u (a0 a1 a2 a3:Int):qog a0 a1 a2 a3:=by
 have h0:ix [a0,a1,a2,a3] 0=a0:=rfl
 have h1:ix [a0,a1,a2,a3] 1=a1:=rfl
 have h2:ix [a0,a1,a2,a3] 2=a2:=rfl
 have h3:ix [a0,a1,a2,a3] 3=a3:=rfl
 have hl:ln [a0,a1,a2,a3]=4:=rfl
 have hb:∀ i,0<=i->i<4->ix [a0,a1,a2,a3] i≠2->ix [a0,a1,a2,a3] i≠3->qa0 a0 a1 a2 a3=12:=by
  intro i i0 i1 n2 n3
  have:i=0∨i=1∨i=2∨i=3:=by omega
  unfold qa0
  rcases this with rfl | rfl | rfl | rfl
  all_goals rw [if_neg (by omega)]
 have hg:(∀ j,0<=j->j<4->(ix [a0,a1,a2,a3] j=2∨ix [a0,a1,a2,a3] j=3))->qa0 a0 a1 a2 a3=0:=by
  intro h
  have q0:=h 0 (by omega) (by omega)
  have q1:=h 1 (by omega) (by omega)
  have q2:=h 2 (by omega) (by omega)
  have q3:=h 3 (by omega) (by omega)
  unfold qa0
  rw [if_pos (by omega)]
 have hx:∀ i,(∀ j,0<=j->j<i->(ix [a0,a1,a2,a3] j=2∨ix [a0,a1,a2,a3] j=3))->(ix [a0,a1,a2,a3] i=2∨ix [a0,a1,a2,a3] i=3)->∀ j,0<=j->j<i+1->(ix [a0,a1,a2,a3] j=2∨ix [a0,a1,a2,a3] j=3):=by
  intro i h hi j j0 j1
  by_cases he:j=i
  .rw [he];exact hi
  .exact h j j0 (by omega)
 unfold qog
 unhygienic (repeat' (first | exact trivial | exact And.intro (by omega) trivial | apply And.intro | intro))
 all_goals try simp only [qdq,qcw,ztf] at *
 all_goals first
  | omega
  | exact ⟨by omega,by omega,fun j h0 h=>absurd h (by omega)⟩
  | (exact hx _ a.2.2 (by omega) j ‹_› ‹_›)
  | (obtain ⟨i0,i1,i2⟩:=a;exact (hb _ i0 (by omega) ‹_› ‹_›).symm)
  | (obtain ⟨i0,i1,i2⟩:=a;exact (hg fun j j0 j1=>i2 j j0 (by omega)).symm)
theorem zou (a0 a1 a2 a3:Int) (a4:Bool) (a5:Int) (a6 a7:Bool) (a8 a9 a10 a11:Int) (a12:Bool) (a13 a14 a15 a16:Int):q3k a0 a1 a2 a3 a4 a5 a6 a7 a8 a9 a10 a11 a12 a13 a14 a15 a16:=by
 unfold q3k
 simp only [qe2,zr]
 unhygienic (repeat' (first | exact trivial | apply And.intro | intro))
 all_goals simp_all
theorem zfs (a0 a1 a2 a3:Int) (a4:Bool) (a5:Int) (a6 a7:Bool) (a8 a9 a10 a11:Int) (a12:Bool) (a13 a14 a15 a16:Int):qsq a0 a1 a2 a3 a4 a5 a6 a7 a8 a9 a10 a11 a12 a13 a14 a15 a16:=by
 unfold qsq
 dsimp only
 unhygienic (repeat' (first | exact trivial | apply And.intro | intro))
 all_goals grind (splits:=40) [qep]
theorem zlt (a0 a1 a2 a3:Int) (a4:Bool) (a5:Int) (a6 a7:Bool) (a8 a9 a10 a11:Int) (a12:Bool) (a13 a14 a15 a16:Int):q1u a0 a1 a2 a3 a4 a5 a6 a7 a8 a9 a10 a11 a12 a13 a14 a15 a16:=by
 unfold q1u
 dsimp only
 unhygienic (repeat' (first | exact trivial | apply And.intro | intro))
 all_goals try omega
 all_goals grind (splits:=40) [zn,q5z,qa0,zr]
set_option maxHeartbeats 4000000 in
theorem zlw (a0 a1 a2 a3:Int) (a4:Bool) (a5:Int) (a6 a7:Bool) (a8 a9 a10 a11:Int) (a12:Bool) (a13 a14 a15 a16:Int):q1v a0 a1 a2 a3 a4 a5 a6 a7 a8 a9 a10 a11 a12 a13 a14 a15 a16:=by
 unfold q1v
 unhygienic (repeat' (first | exact trivial | apply And.intro | intro))
 all_goals try omega
 all_goals grind (splits:=40) [zn,q5z,qep,qa0]
end Go.Proofs.YtbopmiclcimjgaaGreatDoor
