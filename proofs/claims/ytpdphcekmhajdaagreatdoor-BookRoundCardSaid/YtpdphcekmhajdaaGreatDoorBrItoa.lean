import Derived.Test.YtpdphcekmhajdaaGreatDoorBookAwakeT
import Derived.Test.YtpdphcekmhajdaaGreatDoorDall
import Derived.Test.YtpdphcekmhajdaaGreatDoorBookAwakeGlob
namespace Go.Proofs.YtpdphcekmhajdaaGreatDoor.bookAwake
open Go
set_option maxRecDepth 100000
def qlm (n:Int):E2.Fact:={f:=30,args:=[.int .i64 n],pre:=[(1,g1)],next:=7,ro:=7,zf:=7,ret:=.str (qu n),post:=[],next':=if 0<=n/\n<100 then 7 else 8}
theorem zzb:((List.range 105).all λk=>E2.Fact.ok2 (qlm ((k:Int)-4)) (E2.zj Tryz.prog (E2.qi7 [])) 1000)=true:=by kernel_rfl
theorem z0z {n:Int} (a:-4<=n) (b:n<=100):E2.Fact.ok2 (qlm n) (E2.zj Tryz.prog (E2.qi7 [])) 1000=true:=by
 have h:=List.all_eq_true.1 zzb (n+4).toNat (List.mem_range.2 (by omega));rw [show (((n+4).toNat:Nat):Int)-4=n by omega] at h;exact h
def spI (args:List E2.V) (H:E2.Heap):Option (E2.CR×E2.Heap):=match args with
 | [.int .i64 n]=>if -4<=n/\n<=100 then (qlm n).q19 [.int .i64 n] H else none
 | _=>none
theorem zyi:E2.qan Tryz.prog 30 spI:=by
 intro args H r H' a;unfold spI at a;split at a
 .rename_i n;split at a
  .rename_i b;exact E2.qy9 (F:=qlm n) Tryz.checked.mixed tables E2.qct (by kernel_rfl) (z0z b.1 b.2) _ H r H' a
  .cases a
 .cases a
theorem zog:(match E2.assoc [(1,1)] 1,E2.q15 (E2.assoc [(1,1)]) g1 with
  | some k,some o=>Nat.beq k 1&&E2.q2w o g1
  | _,_=>false)=true:=by kernel_rfl
theorem zxf {H:E2.Heap} {n:Int} (e:-4<=n) (b:n<=100) (f:H.zf=7) (g:H.get 1=some g1) (h:1<H.next):spI [.int .i64 n] H=some (.ret (.str (qu n)),H):=by
 unfold spI;simp only;rw [zT ⟨e,b⟩];have i:(qlm n).pre.map (λx=>(x.1,x.1))=[(1,1)]:=rfl;have a:(qlm n).fits [(1,1)] [.int .i64 n] H=true:=by
  have j:E2.qfj (E2.assoc [(1,1)]) (qlm n).args=some [.int .i64 n]:=rfl;have l:E2.qwv [.int .i64 n] [.int .i64 n]=true:=by simp [E2.qwv,E2.qlj]
  have m:E2.quk (E2.assoc [(1,1)]) H (qlm n).pre=true:=by
   have c:(qlm n).pre=[(1,g1)]:=rfl;unfold E2.quk;rw [c,List.all_cons,List.all_nil,Bool.and_true];have:=zog;split at this
   .rename_i k o b d;simp only [zA] at this;have p:=zE this.1;subst p;simp only [b,d,g];exact this.2
   .cases this
  have q:Nat.blt 1 H.next=true:=by rw [Nat.blt_eq];exact h
  unfold E2.Fact.fits;rw [j,m,f];simp only [l];simp only [List.all_cons,List.all_nil,q,Bool.and_true,Bool.true_and];rfl
 have d:Nat.beq (qlm n).ro (qlm n).next=true:=rfl
 have r:E2.qlj (qlm n).ret ((E2.qgo (λ_=>none) (qlm n).ret).getD (.tuple [.nilp]))=true:=by
  simp [qlm,E2.qgo,E2.qlj]
 unfold E2.Fact.q19;rw [i,a,d,r];rfl
end Go.Proofs.YtpdphcekmhajdaaGreatDoor.bookAwake
