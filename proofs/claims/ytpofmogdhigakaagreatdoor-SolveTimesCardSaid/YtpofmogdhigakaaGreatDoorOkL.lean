import Derived.Test.YtpofmogdhigakaaGreatDoorOkH
import Derived.Test.YtpofmogdhigakaaGreatDoorDall
namespace Go.Proofs.YtpofmogdhigakaaGreatDoor
open Go Go.E2 Go.E3
set_option maxRecDepth 1000000
set_option maxHeartbeats 4000000
variable {sp:Nat->Option (List V->Heap->Option (CR×Heap))}
theorem zrt (q:qt (cfg sp)) (e:kz XK szK (cfg sp) 5 c5.v):kz XK szK (cfg sp) 3 c3.v:=
 qa6 zi ze q (l:=[(4,c4),(5,c5),(6,c6),(7,c7),(8,c8),(9,c9),(10,c10),(11,c11),(12,c12),(13,c13)]) ⟨zru q,e,zrv q,zrw q,zkm q,zkn q,zmd q,zmi q,zmk q,zmo q,trivial⟩ false XT jw [] 3 (λ(b,c,d,_)=>j7 []) (λ(b,c,d,_)=>zu []) rfl λ((b:ZB),(c:List Sign),(d:List Time),_) f=>by
  dsimp only [c3,thY,List.cons_append,List.nil_append,kt0,kt1,kt4,kt9,qbh,qbi,qbj,qbk,qbl] at f;refine goA ?_
  with_reducible unhygienic repeat' first | exact trivial | apply And.intro | (intro;intros)
  all_goals try (rename qyc b c 60=true=>hx;obtain ⟨w1,w2⟩:=ze0 hx)
  all_goals have g:=zqq b c d
  all_goals have h:=zpr b c d
  all_goals first
   | with_reducible rfl
   | omega
   | (simp_all [zgh,qak];done)
end Go.Proofs.YtpofmogdhigakaaGreatDoor
