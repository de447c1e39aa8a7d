import Derived.Test.YtpgchdcifbaioaaGreatDoorDall
import Derived.Test.YtpgchdcifbaioaaGreatDoorBrLib
namespace Go.Proofs.YtpgchdcifbaioaaGreatDoor
open Go Go.E2 Go.E3
theorem q6p:∀ (l:List ZB) (s:ZB),Lib.join l s=qbl l s
 | [],s=>rfl
 | [x],s=>Lib.join_one x s
 | x::y::l,s=>by
  rw [qbl,<-q6p (y::l) s,Lib.join_cons,Lib.join_cons];simp [Lib.joinTail]
theorem pieces (c:UInt8):∀ (s:ZB) (k:Nat),Lib.splitK [c] 0 k (c::s)=(match k with | 0=>[c::s] | k+1=>[]::Lib.splitK [c] 0 k s):=by
 intro s k;cases k with
 | zero=>rfl
 | succ k=>
  have h:Lib.index (c::s) [c]=0:=by simp [Lib.index]
  simp [Lib.splitK,h]
theorem piece (b c:UInt8) (h:b≠c) (s:ZB) (k:Nat):Lib.splitK [c] 0 k (b::s)=match Lib.splitK [c] 0 k s with
  | []=>[[b]]
  | x::a=>(b::x)::a:=by
 cases k with
 | zero=>rfl
 | succ k=>
  have d:([c]:ZB).isPrefixOf (b::s)=false:=by simp [List.isPrefixOf,Ne.symm h]
  have hi:Lib.index (b::s) [c]=if Lib.index s [c] == -1 then -1 else Lib.index s [c]+1:=by simp [Lib.index,d]
  have l:=Lib.index_ge s [c];unfold Lib.splitK;rw [hi];by_cases e:Lib.index s [c] = -1
  .simp [e]
  .obtain ⟨n,f⟩:∃ n:Nat,Lib.index s [c]=n:=⟨(Lib.index s [c]).toNat,by omega⟩;rw [f];have g:((n:Int) == -1)=false:=by simp
   have i:(((n:Int)+1) == -1)=false:=by simp;omega
   have j:((n:Int)+1).toNat=n+1:=by omega
   simp [g,i,j]
theorem zb4 (c:UInt8):∀ s:ZB,quk c s=splitI (c.toNat:Int) s
 | []=>rfl
 | b::s=>by
  have a:=zb4 c s;unfold quk at a ⊢;by_cases h:b=c
  .subst h;rw [Lib.count_cons_eq,Nat.add_comm 1,pieces,splitI,zT rfl,<-a]
  .have d:¬ (b.toNat:Int)=(c.toNat:Int):=λe=>h (by have:=Int.ofNat.inj e;exact UInt8.toNat_inj.1 this);rw [Lib.count_cons_ne _ _ _ h,piece b c h,splitI,zF d,<-a];rfl
theorem q6o:∀ (l:List ZB) {s:ZB},ln s=1->ln l<=ln (qbl l s)+1
 | [],s,_=>by have:=ln_nonneg (qbl [] s);rw [jc];omega
 | [x],_,_=>by have:=ln_nonneg x;simp only [qbl,zh,jc];omega
 | x::y::l,s,h=>by
  have b:=q6o (y::l) h;have:=ln_nonneg x;rw [qbl,qj,qj,zh (a:=x)];omega
theorem q9r (l:List ZB):qna (l.map V.str)=some (l.map V.str):=by
 have:(l.map V.str).any isHole=false:=by
  induction l with
  | nil=>rfl
  | cons x l a=>rw [List.map_cons,List.any_cons,a];rfl
 rw [qna,this];rfl
end Go.Proofs.YtpgchdcifbaioaaGreatDoor
