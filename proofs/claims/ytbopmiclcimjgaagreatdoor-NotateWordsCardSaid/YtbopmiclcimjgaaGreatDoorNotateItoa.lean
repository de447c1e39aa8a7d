/- A NUMBER's TEXT: the package's own Itoa at the numbers that signs hold, run by the kernel over E2. No condition. -/
import Derived.Test.YtbopmiclcimjgaaGreatDoorNotateAwakeT
import Derived.Test.YtbopmiclcimjgaaGreatDoorNwSpec
import Derived.Test.YtbopmiclcimjgaaGreatDoorNotateGlob
namespace Go.Proofs.YtbopmiclcimjgaaGreatDoor.notateAwake
open Go
set_option maxRecDepth 100000
def qig (n:Int):E2.Fact:={f:=117,args:=[.int .i64 n],pre:=[(4,qrf)],next:=7,ro:=7,zd:=7,ret:=.str (zb n),post:=[],next':=if 0<=n/\n<100 then 7 else 8}
theorem zlb:((List.range 105).all fun k=>E2.Fact.ok2 (qig ((k:Int)-4)) (E2.qz Tryz.prog (E2.qgk [])) 1000)=true:=by kernel_rfl
theorem zmu {n:Int} (h0:-4<=n) (h1:n<=100):E2.Fact.ok2 (qig n) (E2.qz Tryz.prog (E2.qgk [])) 1000=true:=by
  have h:=List.all_eq_true.1 zlb (n+4).toNat (List.mem_range.2 (by omega))
  rw [show (((n+4).toNat:Nat):Int)-4=n by omega] at h
  exact h
def spI (args:List E2.V) (H:E2.Heap):Option (E2.CR×E2.Heap):=match args with
  | [.int .i64 n]=>if -4<=n/\n<=100 then (qig n).qvz [.int .i64 n] H else none
  | _=>none
theorem zkg:E2.qac Tryz.prog 117 spI:=by
  intro args H r H' ht
  unfold spI at ht
  split at ht
  . rename_i n
    split at ht
    . rename_i hn
      exact E2.qts (F:=qig n) Tryz.checked.mixed tables E2.qbf (by kernel_rfl) (zmu hn.1 hn.2) _ H r H' ht
    . cases ht
  . cases ht
theorem zdh:(match E2.assoc [(4,4)] 4,E2.qvu (E2.assoc [(4,4)]) qrf with
    | some k,some o=>Nat.beq k 4&&E2.qwe o qrf
    | _,_=>false)=true:=by kernel_rfl
/-- What it answers, whatever else there is in memory. -/
theorem zjp {H:E2.Heap} {n:Int} (h0:-4<=n) (h1:n<=100) (hg:H.zd=7) (ho:H.get 4=some qrf) (hl:4<H.next):spI [.int .i64 n] H=some (.ret (.str (zb n)),H):=by
  unfold spI
  simp only
  rw [if_pos ⟨h0,h1⟩]
  have hp:(qig n).pre.map (fun x=>(x.1,x.1))=[(4,4)]:=rfl
  have hfit:(qig n).fits [(4,4)] [.int .i64 n] H=true:=by
    have e1:E2.qdn (E2.assoc [(4,4)]) (qig n).args=some [.int .i64 n]:=rfl
    have e2:E2.qrw [.int .i64 n] [.int .i64 n]=true:=by simp [E2.qrw,E2.qia]
    have e3:E2.qpn (E2.assoc [(4,4)]) H (qig n).pre=true:=by
      have hp2:(qig n).pre=[(4,qrf)]:=rfl
      unfold E2.qpn
      rw [hp2,List.all_cons,List.all_nil,Bool.and_true]
      have:=zdh
      split at this
      . rename_i k o h1 h2
        simp only [Bool.and_eq_true] at this
        have hk:=Nat.eq_of_beq_eq_true this.1
        subst hk
        simp only [h1,h2,ho]
        exact this.2
      . cases this
    have e4:Nat.blt 4 H.next=true:=by rw [Nat.blt_eq];exact hl
    unfold E2.Fact.fits
    rw [e1,e3,hg]
    simp only [e2]
    simp only [List.all_cons,List.all_nil,e4,Bool.and_true,Bool.true_and]
    rfl
  have h2:Nat.beq (qig n).ro (qig n).next=true:=rfl
  have h3:E2.qia (qig n).ret ((E2.qen (fun _=>none) (qig n).ret).getD (.tuple [.nilp]))=true:=by
    simp [qig,E2.qen,E2.qia]
  unfold E2.Fact.qvz
  rw [hp,hfit,h2,h3]
  rfl
end Go.Proofs.YtbopmiclcimjgaaGreatDoor.notateAwake
