import Derived.Test.YtbopmiclcimjgaaGreatDoorNotateAwakeT
import Derived.Test.YtbopmiclcimjgaaGreatDoorNwSpec
import Derived.Test.YtbopmiclcimjgaaGreatDoorNotateGlob
namespace Go.Proofs.YtbopmiclcimjgaaGreatDoor.notateAwake
open Go
set_option maxRecDepth 100000
def qjv (n:Int):E2.Fact:={f:=117,args:=[.int .i64 n],pre:=[(4,qt8)],next:=7,ro:=7,zf:=7,ret:=.str (q0c n),post:=[],next':=if 0<=n/\n<100 then 7 else 8}
theorem ztj:((List.range 105).all fun k=>E2.Fact.ok2 (qjv ((k:Int)-4)) (E2.za Tryz.prog (E2.qhr [])) 1000)=true:=by kernel_rfl
theorem zuw {n:Int} (h0:-4<=n) (h1:n<=100):E2.Fact.ok2 (qjv n) (E2.za Tryz.prog (E2.qhr [])) 1000=true:=by
 have h:=List.all_eq_true.1 ztj (n+4).toNat (List.mem_range.2 (by omega))
 rw [show (((n+4).toNat:Nat):Int)-4=n by omega] at h
 exact h
def spI (args:List E2.V) (H:E2.Heap):Option (E2.CR×E2.Heap):=match args with
 | [.int .i64 n]=>if -4<=n/\n<=100 then (qjv n).qze [.int .i64 n] H else none
 | _=>none
theorem zsk:E2.qaz Tryz.prog 117 spI:=by
 intro args H r H' ht
 unfold spI at ht
 split at ht
 .rename_i n
  split at ht
  .rename_i hn
   exact E2.qw2 (F:=qjv n) Tryz.checked.mixed tables E2.qcc (by kernel_rfl) (zuw hn.1 hn.2) _ H r H' ht
  .cases ht
 .cases ht
theorem zkg:(match E2.assoc [(4,4)] 4,E2.qy9 (E2.assoc [(4,4)]) qt8 with
  | some k,some o=>Nat.beq k 4&&E2.qzz o qt8
  | _,_=>false)=true:=by kernel_rfl
theorem zrv {H:E2.Heap} {n:Int} (h0:-4<=n) (h1:n<=100) (hg:H.zf=7) (ho:H.get 4=some qt8) (hl:4<H.next):spI [.int .i64 n] H=some (.ret (.str (q0c n)),H):=by
 unfold spI
 simp only
 rw [if_pos ⟨h0,h1⟩]
 have hp:(qjv n).pre.map (fun x=>(x.1,x.1))=[(4,4)]:=rfl
 have hfit:(qjv n).fits [(4,4)] [.int .i64 n] H=true:=by
  have e1:E2.qek (E2.assoc [(4,4)]) (qjv n).args=some [.int .i64 n]:=rfl
  have e2:E2.quu [.int .i64 n] [.int .i64 n]=true:=by simp [E2.quu,E2.qjp]
  have e3:E2.qr0 (E2.assoc [(4,4)]) H (qjv n).pre=true:=by
   have hp2:(qjv n).pre=[(4,qt8)]:=rfl
   unfold E2.qr0
   rw [hp2,List.all_cons,List.all_nil,Bool.and_true]
   have:=zkg
   split at this
   .rename_i k o h1 h2
    simp only [zA] at this
    have hk:=zE this.1
    subst hk
    simp only [h1,h2,ho]
    exact this.2
   .cases this
  have e4:Nat.blt 4 H.next=true:=by rw [Nat.blt_eq];exact hl
  unfold E2.Fact.fits
  rw [e1,e3,hg]
  simp only [e2]
  simp only [List.all_cons,List.all_nil,e4,Bool.and_true,Bool.true_and]
  rfl
 have h2:Nat.beq (qjv n).ro (qjv n).next=true:=rfl
 have h3:E2.qjp (qjv n).ret ((E2.qfl (fun _=>none) (qjv n).ret).getD (.tuple [.nilp]))=true:=by
  simp [qjv,E2.qfl,E2.qjp]
 unfold E2.Fact.qze
 rw [hp,hfit,h2,h3]
 rfl
end Go.Proofs.YtbopmiclcimjgaaGreatDoor.notateAwake
