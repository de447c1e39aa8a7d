import Derived.Test.YtpofmogdhigakaaGreatDoorCty
import Derived.Test.YtpofmogdhigakaaGreatDoorDall
namespace Go.Proofs.YtpofmogdhigakaaGreatDoor
open Go Go.E2 Go.E3
set_option maxRecDepth 1000000
set_option maxHeartbeats 4000000
variable {sp:Nat->Option (List V->Heap->Option (CR×Heap))}
theorem zm7 (q:qt (cfg sp)):kz XK szK (cfg sp) 65 c65.v:=
 qa6 zi ze q (l:=[]) trivial false XT jw [(65,58,.inv 0 [.one 25 (.int .i64)] [])] 3 (λ(b,_)=>j7 [λd=>match d with | [.i e]=>λ_=>qnl b (e ()) | _=>λ_=>False]) (λ(b,_)=>zu [λd=>match d with | [.i e]=>λ_=>qsm b (e ()) | _=>λ_=>0]) rfl λ((b:ZB),_) n=>by
  dsimp only [c65,thY,List.cons_append,List.nil_append,kt0,kt1,kt4,kt9,qbh,qbi,qbj,qbk,qbl] at n;refine goA ?_;have t:0<=ln b:=zc b;have o:b=[]->ln b=0:=λh=>by rw [h];rfl
  have f:b≠[]->1<=ln b:=λh=>by
   rcases Nat.eq_zero_or_pos b.length with m | m
   .exact absurd (List.length_eq_zero_iff.1 m) h
   .simp only [ln];omega
  with_reducible unhygienic repeat' first | exact trivial | apply And.intro | (intro;intros)
  all_goals try (rename qnl ..=>hi;obtain ⟨p,u,g⟩:=hi)
  all_goals try simp only [qnl,qsm]
  all_goals try (first | have r:=f ‹_› | have r:=o ‹_›)
  all_goals first
   | omega
   | exact ⟨by omega,by omega,λj c h=>absurd h (by omega)⟩
   | (refine qsq λs=>?_;omega)
   | exact ⟨by omega,by omega,q07 g (by omega)⟩
   | exact q54 p ‹_› (by omega)
   | exact qwj ⟨by omega,by omega,by omega,by omega,λj c h=>g j c (by omega)⟩
   | (by_cases k:bx b 0<=122;(rw [decide_eq_true k];exact qwj ⟨by omega,by omega,by omega,k,λj c h=>g j c (by omega)⟩);(rw [decide_eq_false k];exact qsq λs=>by omega))
theorem zna (q:qt (cfg sp)):kz XK szK (cfg sp) 70 c70.v:=
 qa6 zi ze q (l:=[]) trivial false XT jw [(70,26,.inv 0 [.one 3 (.int .i64)] [])] 3 (λ(b,_)=>j7 [λd=>match d with | [.i e]=>λ_=>qnk b (e ()) | _=>λ_=>False]) (λ(b,_)=>zu [λd=>match d with | [.i e]=>λ_=>qsl b (e ()) | _=>λ_=>0]) rfl λ((b:ZB),_) n=>by
  dsimp only [c70,thY,List.cons_append,List.nil_append,kt0,kt1,kt4,kt9,qbh,qbi,qbj,qbk,qbl] at n;refine goA ?_;have t:0<=ln b:=zc b;have o:b=[]->ln b=0:=λh=>by rw [h];rfl
  have f:b≠[]->1<=ln b:=λh=>by
   rcases Nat.eq_zero_or_pos b.length with m | m
   .exact absurd (List.length_eq_zero_iff.1 m) h
   .simp only [ln];omega
  with_reducible unhygienic repeat' first | exact trivial | apply And.intro | (intro;intros)
  all_goals try (rename qnk ..=>hi;obtain ⟨p,u,g⟩:=hi)
  all_goals try simp only [qnk,qsl]
  all_goals try (first | have r:=f ‹_› | have r:=o ‹_›)
  all_goals first
   | omega
   | exact ⟨by omega,by omega,λj c h=>absurd h (by omega)⟩
   | (refine qsq λs=>?_;omega)
   | exact ⟨by omega,by omega,q07 g (by omega)⟩
   | exact q54 p ‹_› (by omega)
   | exact qwj ⟨by omega,by omega,by omega,by omega,λj c h=>g j c (by omega)⟩
   | (by_cases k:bx b 0<=122;(rw [decide_eq_true k];exact qwj ⟨by omega,by omega,by omega,k,λj c h=>g j c (by omega)⟩);(rw [decide_eq_false k];exact qsq λs=>by omega))
theorem zne (q:qt (cfg sp)):kz XK szK (cfg sp) 90 c90.v:=
 qa6 zi ze q (l:=[]) trivial false XT jw [(90,26,.inv 0 [.one 7 (.int .i64)] [])] 3 (λ(b,c,d,e,_)=>j7 [λf=>match f with | [.i g]=>λ_=>ql0 b c d e (g ()) | _=>λ_=>False]) (λ(b,c,d,e,_)=>zu [λf=>match f with | [.i g]=>λ_=>qp6 b c d e (g ()) | _=>λ_=>0]) rfl λ((b:Int),(c:Int),(d:Int),(e:Int),_) h=>by
  clear h;refine goA ?_
  with_reducible unhygienic repeat' first | exact trivial | apply And.intro | (intro;intros)
  all_goals try (rename ql0 ..=>hi;obtain ⟨j,k,m,n,o,p⟩:=hi)
  all_goals try simp only [ql0,qp6]
  all_goals try simp only [Int.ofNat_eq_natCast] at *
  all_goals first | omega | (unfold qmp;first | omega | split<;>omega)
theorem zni (q:qt (cfg sp)):kz XK szK (cfg sp) 97 c97.v:=
 qa6 zi ze q (l:=[]) trivial false XT jw [(97,58,.inv 0 [.one 4 (.int .i64)] [])] 3 (λ(b,c,d,e,_)=>j7 [λf=>match f with | [.i g]=>λ_=>qj5 b c d e (g ()) | _=>λ_=>False]) (λ(b,c,d,e,_)=>zu [λf=>match f with | [.i g]=>λ_=>qnv b c d e (g ()) | _=>λ_=>0]) rfl λ((b:Int),(c:Int),(d:Int),(e:Int),_) o=>by
  clear o;refine goA ?_;have p:ix [b,c,d,e] 0=b:=rfl;have z:ix [b,c,d,e] 1=c:=rfl;have A:ix [b,c,d,e] 2=d:=rfl;have B:ix [b,c,d,e] 3=e:=rfl;have C:ln [b,c,d,e]=4:=rfl;have r:∀ i,0<=i->i<4->ix [b,c,d,e] i≠2->ix [b,c,d,e] i≠3->qmp b c d e=12:=by
   intro i m s D E;have:i=0∨i=1∨i=2∨i=3:=by omega
   unfold qmp;rcases this with rfl | rfl | rfl | rfl
   all_goals rw [zF (by omega)]
  have t:(∀ j,0<=j->j<4->(ix [b,c,d,e] j=2∨ix [b,c,d,e] j=3))->qmp b c d e=0:=by
   intro h;have F:=h 0 (by omega) (by omega);have G:=h 1 (by omega) (by omega);have H:=h 2 (by omega) (by omega);have I:=h 3 (by omega) (by omega);unfold qmp;rw [zT (by omega)]
  have u:∀ i,(∀ j,0<=j->j<i->(ix [b,c,d,e] j=2∨ix [b,c,d,e] j=3))->(ix [b,c,d,e] i=2∨ix [b,c,d,e] i=3)->∀ j,0<=j->j<i+1->(ix [b,c,d,e] j=2∨ix [b,c,d,e] j=3):=by
   intro i h hi j k w;by_cases y:j=i
   .rw [y];exact hi
   .exact h j k (by omega)
  with_reducible unhygienic repeat' first | exact trivial | apply And.intro | (intro;intros)
  all_goals try (rename qj5 ..=>hi;obtain ⟨m,s,n⟩:=hi)
  all_goals try simp only [ztu,qj5,qnv]
  all_goals try simp only [List.length_cons,List.length_nil] at *
  all_goals first
   | omega
   | exact ⟨by omega,by omega,λj p h=>absurd h (by omega)⟩
   | exact ⟨by omega,by omega,u _ n (by omega)⟩
   | (exact (r _ m (by omega) ‹_› ‹_›).symm)
   | (exact (t λj k w=>n j k (by omega)).symm)
theorem znh (q:qt (cfg sp)):kz XK szK (cfg sp) 96 c96.v:=
 qa6 zi ze q (l:=[]) trivial false XT jw [] 3 (λ(i,j,k,m,n,o,p,r,s,t,b,c,d,e,f,g,h,_)=>j7 []) (λ(i,j,k,m,n,o,p,r,s,t,b,c,d,e,f,g,h,_)=>zu []) rfl λ((i:Int),(j:Int),(k:Int),(m:Int),(n:Bool),(o:Int),(p:Bool),(r:Bool),(s:Int),(t:Int),(b:Int),(c:Int),(d:Bool),(e:Int),(f:Int),(g:Int),(h:Int),_) u=>by
  clear u;refine goA ?_;simp only [qf1]
  unhygienic (repeat' (first | exact trivial | apply And.intro | intro))
  all_goals simp_all
theorem znj (q:qt (cfg sp)):kz XK szK (cfg sp) 98 c98.v:=
 qa6 zi ze q (l:=[]) trivial false XT jw [] 3 (λ(i,j,k,m,n,o,p,r,s,t,b,c,d,e,f,g,h,_)=>j7 []) (λ(i,j,k,m,n,o,p,r,s,t,b,c,d,e,f,g,h,_)=>zu []) rfl λ((i:Int),(j:Int),(k:Int),(m:Int),(n:Bool),(o:Int),(p:Bool),(r:Bool),(s:Int),(t:Int),(b:Int),(c:Int),(d:Bool),(e:Int),(f:Int),(g:Int),(h:Int),_) u=>by
  clear u;refine goA ?_
  unhygienic (repeat' (first | exact trivial | apply And.intro | intro))
  all_goals grind (splits:=40) [qom]
theorem zm8 (q:qt (cfg sp)):kz XK szK (cfg sp) 66 c66.v:=
 qa6 zi ze q (l:=[(90,c90)]) ⟨zne q,trivial⟩ true XT jw [] 6 (λ(i,j,k,m,n,o,p,r,s,t,b,c,d,e,f,g,h,_)=>j7 []) (λ(i,j,k,m,n,o,p,r,s,t,b,c,d,e,f,g,h,_)=>zu []) rfl λ((i:Int),(j:Int),(k:Int),(m:Int),(n:Bool),(o:Int),(p:Bool),(r:Bool),(s:Int),(t:Int),(b:Int),(c:Int),(d:Bool),(e:Int),(f:Int),(g:Int),(h:Int),_) u=>by
  clear u;refine goA ?_
  with_reducible unhygienic repeat' first | exact trivial | apply And.intro | (intro;intros)
  all_goals try omega
  all_goals first | grind (splits:=40) [qst,q5v,qmp,qf1,qom]
theorem znb (q:qt (cfg sp)):kz XK szK (cfg sp) 71 c71.v:=
 qa6 zi ze q (l:=[(96,c96),(97,c97),(98,c98)]) ⟨znh q,zni q,znj q,trivial⟩ false XT jw [] 6 (λ(i,j,k,m,n,o,p,r,s,t,b,c,d,e,f,g,h,_)=>j7 []) (λ(i,j,k,m,n,o,p,r,s,t,b,c,d,e,f,g,h,_)=>zu []) rfl λ((i:Int),(j:Int),(k:Int),(m:Int),(n:Bool),(o:Int),(p:Bool),(r:Bool),(s:Int),(t:Int),(b:Int),(c:Int),(d:Bool),(e:Int),(f:Int),(g:Int),(h:Int),_) u=>by
  clear u;refine goA ?_
  with_reducible unhygienic repeat' first | exact trivial | apply And.intro | (intro;intros)
  all_goals try omega
  all_goals first | grind (splits:=40) [qst,q5v,qmp,qf1,qom]
end Go.Proofs.YtpofmogdhigakaaGreatDoor
