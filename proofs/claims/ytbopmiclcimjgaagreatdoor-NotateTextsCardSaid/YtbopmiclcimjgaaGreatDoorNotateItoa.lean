/- A NUMBER's TEXT: the package's own Itoa at the numbers that signs hold, run by the kernel over E2. No condition. -/
import Derived.Test.YtbopmiclcimjgaaGreatDoorNotateAwakeT
import Derived.Test.YtbopmiclcimjgaaGreatDoorNwSpec
import Derived.Test.YtbopmiclcimjgaaGreatDoorNotateGlob
namespace Go.Proofs.YtbopmiclcimjgaaGreatDoor.notateAwake
open Go
set_option maxRecDepth 100000
def qgy (n:Int):E2.Fact:={f:=117,args:=[.int .i64 n],pre:=[(4,qpg)],next:=7,ro:=7,qx:=7,ret:=.str (qu n),post:=[],next':=if 0<=n/\n<100 then 7 else 8}
theorem zfh:((List.range 105).all fun k=>E2.Fact.ok2 (qgy ((k:Int)-4)) (E2.qt Tryz.prog (E2.qfe [])) 1000)=true:=by kernel_rfl
theorem zgn {n:Int} (h0:-4<=n) (h1:n<=100):E2.Fact.ok2 (qgy n) (E2.qt Tryz.prog (E2.qfe [])) 1000=true:=by
  have h:=List.all_eq_true.1 zfh (n+4).toNat (List.mem_range.2 (by omega))
  rw [show (((n+4).toNat:Nat):Int)-4=n by omega] at h
  exact h
def spI (args:List E2.V) (H:E2.Heap):Option (E2.CR×E2.Heap):=match args with
  | [.int .i64 n]=>if -4<=n/\n<=100 then (qgy n).qtm [.int .i64 n] H else none
  | _=>none
theorem ze4:E2.jr Tryz.prog 117 spI:=by
  intro args H r H' ht
  unfold spI at ht
  split at ht
  . rename_i n
    split at ht
    . rename_i hn
      exact E2.qrp (F:=qgy n) Tryz.checked.mixed tables E2.qas (by kernel_rfl) (zgn hn.1 hn.2) _ H r H' ht
    . cases ht
  . cases ht
theorem q88:(match E2.assoc [(4,4)] 4,E2.qti (E2.assoc [(4,4)]) qpg with
    | some k,some o=>Nat.beq k 4&&E2.qt1 o qpg
    | _,_=>false)=true:=by kernel_rfl
/-- What it answers, whatever else there is in memory. -/
theorem zee {H:E2.Heap} {n:Int} (h0:-4<=n) (h1:n<=100) (hg:H.qx=7) (ho:H.get 4=some qpg) (hl:4<H.next):spI [.int .i64 n] H=some (.ret (.str (qu n)),H):=by
  unfold spI
  simp only
  rw [if_pos ⟨h0,h1⟩]
  have hp:(qgy n).pre.map (fun x=>(x.1,x.1))=[(4,4)]:=rfl
  have hfit:(qgy n).fits [(4,4)] [.int .i64 n] H=true:=by
    have e1:E2.qcx (E2.assoc [(4,4)]) (qgy n).args=some [.int .i64 n]:=rfl
    have e2:E2.qpv [.int .i64 n] [.int .i64 n]=true:=by simp [E2.qpv,E2.qgt]
    have e3:E2.qnm (E2.assoc [(4,4)]) H (qgy n).pre=true:=by
      have hp2:(qgy n).pre=[(4,qpg)]:=rfl
      unfold E2.qnm
      rw [hp2,List.all_cons,List.all_nil,Bool.and_true]
      have:=q88
      split at this
      . rename_i k o h1 h2
        simp only [Bool.and_eq_true] at this
        have hk:=Nat.eq_of_beq_eq_true this.1
        subst hk
        simp only [h1,h2,ho]
        exact this.2
      . cases this
    have e4:Nat.blt 4 H.next=true:=by rw [Nat.blt_eq];exact hl
    unfold E2.Fact.fits
    rw [e1,e3,hg]
    simp only [e2]
    simp only [List.all_cons,List.all_nil,e4,Bool.and_true,Bool.true_and]
    rfl
  have h2:Nat.beq (qgy n).ro (qgy n).next=true:=rfl
  have h3:E2.qgt (qgy n).ret ((E2.qdr (fun _=>none) (qgy n).ret).getD (.tuple [.nilp]))=true:=by
    simp [qgy,E2.qdr,E2.qgt]
  unfold E2.Fact.qtm
  rw [hp,hfit,h2,h3]
  rfl
end Go.Proofs.YtbopmiclcimjgaaGreatDoor.notateAwake
