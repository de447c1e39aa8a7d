/- A NUMBER's TEXT: the package's own Itoa at the numbers that signs hold, run by the kernel over E2. No condition. -/
import Derived.Test.YtbopmiclcimjgaaGreatDoorNotateAwakeT
import Derived.Test.YtbopmiclcimjgaaGreatDoorDall
import Derived.Test.YtbopmiclcimjgaaGreatDoorNotateGlob
namespace Go.Proofs.YtbopmiclcimjgaaGreatDoor.notateAwake
open Go
set_option maxRecDepth 100000
def qjz (n:Int):E2.Fact:={f:=117,args:=[.int .i64 n],pre:=[(4,qur)],next:=7,ro:=7,qz:=7,ret:=.str (zf n),post:=[],next':=if 0<=n/\n<100 then 7 else 8}
theorem zu8:((List.range 105).all fun k=>E2.Fact.ok2 (qjz ((k:Int)-4)) (E2.qp Tryz.prog (E2.qba [])) 1000)=true:=by kernel_rfl
theorem zws {n:Int} (h0:-4<=n) (h1:n<=100):E2.Fact.ok2 (qjz n) (E2.qp Tryz.prog (E2.qba [])) 1000=true:=by
 have h:=List.all_eq_true.1 zu8 (n+4).toNat (List.mem_range.2 (by omega))
 rw [show (((n+4).toNat:Nat):Int)-4=n by omega] at h
 exact h
def spI (args:List E2.V) (H:E2.Heap):Option (E2.CR×E2.Heap):=match args with
 | [.int .i64 n]=>if -4<=n/\n<=100 then (qjz n).qz3 [.int .i64 n] H else none
 | _=>none
theorem ztx:E2.ke Tryz.prog 117 spI:=by
 intro args H r H' ht
 unfold spI at ht
 split at ht
 .rename_i n
  split at ht
  .rename_i hn
   exact E2.qxu (F:=qjz n) Tryz.checked.mixed tables E2.zp (by kernel_rfl) (zws hn.1 hn.2) _ H r H' ht
  .cases ht
 .cases ht
theorem zkz:(match E2.assoc [(4,4)] 4,E2.qzz (E2.assoc [(4,4)]) qur with
  | some k,some o=>Nat.beq k 4&&E2.q0p o qur
  | _,_=>false)=true:=by kernel_rfl
theorem zsw {H:E2.Heap} {n:Int} (h0:-4<=n) (h1:n<=100) (hg:H.qz=7) (ho:H.get 4=some qur) (hl:4<H.next):spI [.int .i64 n] H=some (.ret (.str (zf n)),H):=by
 unfold spI
 simp only
 rw [zT ⟨h0,h1⟩]
 have hp:(qjz n).pre.map (fun x=>(x.1,x.1))=[(4,4)]:=rfl
 have hfit:(qjz n).fits [(4,4)] [.int .i64 n] H=true:=by
  have e1:E2.qeh (E2.assoc [(4,4)]) (qjz n).args=some [.int .i64 n]:=rfl
  have e2:E2.qvd [.int .i64 n] [.int .i64 n]=true:=by simp [E2.qvd,E2.qju]
  have e3:E2.qsp (E2.assoc [(4,4)]) H (qjz n).pre=true:=by
   have hp2:(qjz n).pre=[(4,qur)]:=rfl
   unfold E2.qsp
   rw [hp2,List.all_cons,List.all_nil,Bool.and_true]
   have:=zkz
   split at this
   .rename_i k o h1 h2
    simp only [zA] at this
    have hk:=zE this.1
    subst hk
    simp only [h1,h2,ho]
    exact this.2
   .cases this
  have e4:Nat.blt 4 H.next=true:=by rw [Nat.blt_eq];exact hl
  unfold E2.Fact.fits
  rw [e1,e3,hg]
  simp only [e2]
  simp only [List.all_cons,List.all_nil,e4,Bool.and_true,Bool.true_and]
  rfl
 have h2:Nat.beq (qjz n).ro (qjz n).next=true:=rfl
 have h3:E2.qju (qjz n).ret ((E2.qfj (fun _=>none) (qjz n).ret).getD (.tuple [.nilp]))=true:=by
  simp [qjz,E2.qfj,E2.qju]
 unfold E2.Fact.qz3
 rw [hp,hfit,h2,h3]
 rfl
end Go.Proofs.YtbopmiclcimjgaaGreatDoor.notateAwake
