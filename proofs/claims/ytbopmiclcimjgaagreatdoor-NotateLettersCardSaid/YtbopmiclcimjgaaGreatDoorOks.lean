/- THE CONDITIONS of the functions on letters, of the law NotateLetters hold. -/
import Derived.Test.YtbopmiclcimjgaaGreatDoorVcs
namespace Go.Proofs.YtbopmiclcimjgaaGreatDoor
open Go Go.E2 Go.E3
set_option maxRecDepth 100000
theorem qms (a0:Int) (hp:I64 a0):qh9 a0:=by
 unfold qh9 qit letE
 refine ⟨fun h=>?_,fun h=>⟨fun h2=>?_,fun h2=>⟨⟨by omega,by omega⟩,⟨by omega,by omega,h2⟩,?_⟩⟩⟩
 .rw [zT (.inl h),zT (.inl h)];exact ⟨rfl,rfl,trivial⟩
 .rw [zT (.inr h2),zT (.inr h2)];exact ⟨rfl,rfl,trivial⟩
 .rw [zF (by omega),zF (by omega)];exact ⟨rfl,rfl,trivial⟩
theorem qt8 (a0:Int) (hp:I64 a0):qmt a0:=qms a0 hp
theorem qwk (a0:ZB) (hp:ln a0<=1000):qkg a0:=by
 unfold qkg qi3
 refine ⟨by decide,fun h=>?_,fun h=>?_⟩
 .obtain ⟨c,rfl⟩:∃ c,a0=[c]:=by
   cases a0 with
   | nil=>simp [ln] at h
   | cons c l=>cases l with
    | nil=>exact ⟨c,rfl⟩
    | cons d l=>rw [qv3,qv3] at h;have:=qxd l;omega
  have hb:=q1a [c]
  rw [q0j]
  by_cases hz:qdj [c]=0
  .rw [zT hz,zT hz,hz]
   exact ⟨fun hh=>absurd hh (by decide),fun _=>⟨rfl,rfl,trivial⟩⟩
  .rw [zF hz,zF hz]
   exact ⟨fun hh=>⟨⟨by omega,by omega⟩,by omega,rfl,trivial⟩,fun hh=>by omega⟩
 .rw [qzt h,zT rfl];exact ⟨rfl,rfl,trivial⟩
theorem qwn (a0:ZB) (hp:ln a0<=1000):qkh a0:=by
 unfold qkh qi3
 refine ⟨⟨zK 0,by decide,fun j h h'=>by omega⟩,fun i ⟨i1,i2,i3⟩=>⟨fun h=>⟨⟨by omega,by omega⟩,⟨i1,by omega,by show i+1<=8;omega⟩,fun he=>?_,fun hne=>⟨⟨by omega,by omega⟩,⟨by omega,by omega,fun j h0 h1=>?_⟩,by simp only [qc6];omega⟩⟩,fun h=>?_⟩⟩
 .have hi:i=0∨i=1∨i=2∨i=3∨i=4∨i=5∨i=6∨i=7:=by omega
  subst he
  rcases hi with rfl | rfl | rfl | rfl | rfl | rfl | rfl | rfl<;>exact ⟨⟨by decide,by decide⟩,by decide,by decide,trivial⟩
 .by_cases hj:j=i
  .subst hj;exact hne
  .exact i3 j h0 (by omega)
 .have hz:qdj a0=0:=by
   have k:∀ j,0<=j->j<8->a0≠sub ([88,76,66,83,77,81,70,90]:ZB) j (j+1):=fun j h0 h1=>i3 j h0 (by omega)
   unfold qdj
   rw [zF (show a0≠[88] from k 0 (by decide) (by decide)),zF (show a0≠[76] from k 1 (by decide) (by decide)),zF (show a0≠[66] from k 2 (by decide) (by decide)),zF (show a0≠[83] from k 3 (by decide) (by decide)),zF (show a0≠[77] from k 4 (by decide) (by decide)),zF (show a0≠[81] from k 5 (by decide) (by decide)),zF (show a0≠[70] from k 6 (by decide) (by decide)),zF (show a0≠[90] from k 7 (by decide) (by decide))]
  rw [hz,zT rfl];exact ⟨rfl,rfl,trivial⟩
theorem qo8 (a0:Int) (a1:ZB) (hp:I64 a0/\ln a1<=9223372036854775807):qe8 a0 a1:=by
 unfold qe8
 exact ⟨fun _=>⟨trivial,rfl,trivial⟩,fun h=>⟨hp.1,hp.1,by omega,by omega,fun _=>⟨fun _=>⟨fun _=>⟨fun _=>⟨trivial,rfl,trivial⟩,fun k=>absurd rfl k⟩,fun k=>absurd rfl k⟩,fun k=>absurd rfl k⟩,fun k=>absurd rfl k⟩⟩
end Go.Proofs.YtbopmiclcimjgaaGreatDoor
