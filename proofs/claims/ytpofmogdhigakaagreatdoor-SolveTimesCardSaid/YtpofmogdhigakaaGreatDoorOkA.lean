import Derived.Test.YtpofmogdhigakaaGreatDoorOkO
namespace Go.Proofs.YtpofmogdhigakaaGreatDoor
open Go Go.E2 Go.E3
set_option maxRecDepth 1000000
set_option maxHeartbeats 4000000
variable {sp:Nat->Option (List V->Heap->Option (CR×Heap))}
theorem q7t (q:qt (cfg sp)):kz XK szK (cfg sp) 42 c42.v:=
 qa6 zi ze q (l:=[(65,c65),(66,c66)]) ⟨zm7 q,zm8 q,trivial⟩ false XT jw [(42,890,.inv 0 [.one 4 (.bool),.one 19 (.int .i64)] [])] 3 (λ(c,d,_)=>j7 [λe=>match e with | [.b f,.i g]=>λ_=>qp1 c d (f ()) (g ()) | _=>λ_=>False]) (λ(c,d,_)=>zu [λe=>match e with | [.b f,.i g]=>λ_=>qny c d (f ()) (g ()) | _=>λ_=>0]) rfl λ((c:ZB),(d:List Sign),_) h=>by
  dsimp only [c42,thY,List.cons_append,List.nil_append,kt0,kt1,kt4,kt9,qbh,qbi,qbj,qbk,qbl] at h;refine goA ?_
  unhygienic (repeat' (first | exact trivial | exact And.intro (by omega) trivial | apply And.intro | intro))
  all_goals try simp only [qp1,qny] at *
  all_goals first
   | omega
   | skip
  all_goals grind [qa9,q43,q9q,q9p,qem,zby,ins]
theorem q7v (q:qt (cfg sp)):kz XK szK (cfg sp) 49 c49.v:=
 qa6 zi ze q (l:=[(70,c70),(71,c71)]) ⟨zna q,znb q,trivial⟩ false XT jw [(49,122,.inv 0 [.one 4 (.int .i64)] [])] 3 (λ(b,c,_)=>j7 [λd=>match d with | [.i e]=>λ_=>qp0 b c (e ()) | _=>λ_=>False]) (λ(b,c,_)=>zu [λd=>match d with | [.i e]=>λ_=>qnx b c (e ()) | _=>λ_=>0]) rfl λ((b:ZB),(c:List Sign),_) f=>by
  dsimp only [c49,thY,List.cons_append,List.nil_append,kt0,kt1,kt4,kt9,qbh,qbi,qbj,qbk,qbl] at f;refine goA ?_
  unhygienic (repeat' (first | exact trivial | exact And.intro (by omega) trivial | apply And.intro | intro))
  all_goals try simp only [qp0,qnx] at *
  all_goals first
   | omega
   | skip
  all_goals grind [qa9,q43,q9q,q9p,qem,zby,ins]
theorem zru (q:qt (cfg sp)):kz XK szK (cfg sp) 4 c4.v:=
 qa6 zi ze q (l:=[]) trivial false XT jw [] 3 (λ(b,c,d,_)=>j7 []) (λ(b,c,d,_)=>zu []) rfl λ((b:ZB),(c:List Sign),(d:Int),_) e=>by
  dsimp only [c4,thY,List.cons_append,List.nil_append,kt0,kt1,kt4,kt9,qbh,qbi,qbj,qbk,qbl] at e;refine goA ?_
  with_reducible unhygienic repeat' first | exact trivial | apply And.intro | (intro;intros)
  all_goals (apply Bool.eq_iff_iff.2;simp only [qyc,zA,Bool.or_eq_true,decide_eq_true_eq,Bool.false_eq_true,true_iff,false_iff];first | omega)
theorem zmr (q:qt (cfg sp)):kz XK szK (cfg sp) 21 c21.v:=
 qk2 zi ze q (l:=[]) trivial false XT jw [] 3 (λ(a,_)=>j7 []) (λ(a,_)=>zu []) rfl λ((a:List Sign),_) b=>by
  dsimp only [c21,thY,List.cons_append,List.nil_append,kt0,kt1,kt4,kt9,qbh,qbi,qbj,qbk,qbl] at b;refine goA ?_;exact ⟨by simp only [qrj,ln,List.length_nil] at *;omega,by simp,trivial⟩
theorem zrv (q:qt (cfg sp)):kz XK szK (cfg sp) 6 c6.v:=
 qk2 zi ze q (l:=[(21,c21)]) ⟨zmr q,trivial⟩ false XT jw [] 3 (λ(a,b,_)=>j7 []) (λ(a,b,_)=>zu []) rfl λ((a:ZB),(b:List Sign),_) c=>by
  dsimp only [c6,thY,List.cons_append,List.nil_append,kt0,kt1,kt4,kt9,qbh,qbi,qbj,qbk,qbl] at c;refine goA ?_;exact ⟨c,rfl,rfl,trivial⟩
theorem zmx (q:qt (cfg sp)):kz XK szK (cfg sp) 34 c34.v:=
 qa6 zi ze q (l:=[]) trivial false XT jw [(34,58,.inv 0 [.one 5 (.int .i64)] [])] 3 (λ(b,c,_)=>j7 [λe=>match e with | [.i f]=>λ_=>qv5 b c (f ()) | _=>λ_=>False]) (λ(b,c,_)=>zu [λe=>match e with | [.i f]=>λ_=>qla b c (f ()) | _=>λ_=>0]) rfl λ((b:List Sign),(c:List Sign),_) z=>by
  dsimp only [c34,thY,List.cons_append,List.nil_append,kt0,kt1,kt4,kt9,qbh,qbi,qbj,qbk,qbl] at z;refine goA ?_;refine ⟨λh=>⟨(q6x λa=>h (by rw [a])).symm,trivial⟩,λA=>⟨⟨by omega,zc _,λj d u=>by omega⟩,λx ⟨w,K,y⟩=>⟨λh=>⟨⟨w,h⟩,⟨w,by omega⟩,λg=>⟨(q6x λa=>?_).symm,trivial⟩,λg=>⟨by omega,⟨by omega,by omega,λj d u=>?_⟩,?_⟩⟩,λh=>⟨(zc1 (qnr A λj d u=>y j d (by omega))).symm,trivial⟩⟩⟩⟩
  .subst a;simp at g
  .by_cases a:j=x
   .subst a;obtain ⟨B,C,D,E,F,G,H,I,J,k,m,n,o,p,r,s,t⟩:=g;exact zgi B C D E F G H I J k m n o p r s t
   .exact y j d (by omega)
  .simp only [qla];omega
theorem zmo (q:qt (cfg sp)):kz XK szK (cfg sp) 13 c13.v:=
 qa6 zi ze q (l:=[(34,c34)]) ⟨zmx q,trivial⟩ false XT jw [] 3 (λ(a,b,c,d,_)=>j7 []) (λ(a,b,c,d,_)=>zu []) rfl λ((a:ZB),(b:List Sign),(c:ZB),(d:List Sign),_) e=>by
  dsimp only [c13,thY,List.cons_append,List.nil_append,kt0,kt1,kt4,kt9,qbh,qbi,qbj,qbk,qbl] at e;refine goA ?_;refine ⟨λh=>⟨e,?_,trivial⟩,λh=>⟨?_,trivial⟩⟩
  .simp only [za5,qak,h,true_and]
  .simp [qak,h]
end Go.Proofs.YtpofmogdhigakaaGreatDoor
