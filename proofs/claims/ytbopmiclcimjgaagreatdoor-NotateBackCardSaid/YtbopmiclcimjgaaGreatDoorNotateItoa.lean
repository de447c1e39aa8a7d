import Derived.Test.YtbopmiclcimjgaaGreatDoorNotateAwakeF
import Derived.Test.YtbopmiclcimjgaaGreatDoorDall
import Derived.Test.YtbopmiclcimjgaaGreatDoorNotateGlob
namespace Go.Proofs.YtbopmiclcimjgaaGreatDoor.notateAwake
open Go
set_option maxRecDepth 100000
def qj7 (n:Int):E2.Fact:={f:=117,args:=[.int .i64 n],pre:=[(4,qu4)],next:=7,ro:=7,za:=7,ret:=.str (zd n),post:=[],next':=if 0<=n/\n<100 then 7 else 8}
theorem zwh:((List.range 105).all fun k=>E2.Fact.ok2 (qj7 ((k:Int)-4)) (E2.qq Tryz.prog (E2.qbe [])) 1000)=true:=by kernel_rfl
theorem zxz {n:Int} (h0:-4<=n) (h1:n<=100):E2.Fact.ok2 (qj7 n) (E2.qq Tryz.prog (E2.qbe [])) 1000=true:=by
 have h:=List.all_eq_true.1 zwh (n+4).toNat (List.mem_range.2 (by omega))
 rw [show (((n+4).toNat:Nat):Int)-4=n by omega] at h
 exact h
def spI (args:List E2.V) (H:E2.Heap):Option (E2.CR×E2.Heap):=match args with
 | [.int .i64 n]=>if -4<=n/\n<=100 then (qj7 n).q0g [.int .i64 n] H else none
 | _=>none
theorem zu4:E2.kg Tryz.prog 117 spI:=by
 intro args H r H' ht
 unfold spI at ht
 split at ht
 .rename_i n
  split at ht
  .rename_i hn
   exact E2.qx5 (F:=qj7 n) Tryz.checked.mixed tables E2.zr (by kernel_rfl) (zxz hn.1 hn.2) _ H r H' ht
  .cases ht
 .cases ht
theorem zl5:(match E2.assoc [(4,4)] 4,E2.q0b (E2.assoc [(4,4)]) qu4 with
  | some k,some o=>Nat.beq k 4&&E2.q03 o qu4
  | _,_=>false)=true:=by kernel_rfl
theorem zt6 {H:E2.Heap} {n:Int} (h0:-4<=n) (h1:n<=100) (hg:H.za=7) (ho:H.get 4=some qu4) (hl:4<H.next):spI [.int .i64 n] H=some (.ret (.str (zd n)),H):=by
 unfold spI
 simp only
 rw [zT ⟨h0,h1⟩]
 have hp:(qj7 n).pre.map (fun x=>(x.1,x.1))=[(4,4)]:=rfl
 have hfit:(qj7 n).fits [(4,4)] [.int .i64 n] H=true:=by
  have e1:E2.qet (E2.assoc [(4,4)]) (qj7 n).args=some [.int .i64 n]:=rfl
  have e2:E2.qvp [.int .i64 n] [.int .i64 n]=true:=by simp [E2.qvp,E2.qjz]
  have e3:E2.qsw (E2.assoc [(4,4)]) H (qj7 n).pre=true:=by
   have hp2:(qj7 n).pre=[(4,qu4)]:=rfl
   unfold E2.qsw
   rw [hp2,List.all_cons,List.all_nil,Bool.and_true]
   have:=zl5
   split at this
   .rename_i k o h1 h2
    simp only [zA] at this
    have hk:=zE this.1
    subst hk
    simp only [h1,h2,ho]
    exact this.2
   .cases this
  have e4:Nat.blt 4 H.next=true:=by rw [Nat.blt_eq];exact hl
  unfold E2.Fact.fits
  rw [e1,e3,hg]
  simp only [e2]
  simp only [List.all_cons,List.all_nil,e4,Bool.and_true,Bool.true_and]
  rfl
 have h2:Nat.beq (qj7 n).ro (qj7 n).next=true:=rfl
 have h3:E2.qjz (qj7 n).ret ((E2.qfw (fun _=>none) (qj7 n).ret).getD (.tuple [.nilp]))=true:=by
  simp [qj7,E2.qfw,E2.qjz]
 unfold E2.Fact.q0g
 rw [hp,hfit,h2,h3]
 rfl
end Go.Proofs.YtbopmiclcimjgaaGreatDoor.notateAwake
