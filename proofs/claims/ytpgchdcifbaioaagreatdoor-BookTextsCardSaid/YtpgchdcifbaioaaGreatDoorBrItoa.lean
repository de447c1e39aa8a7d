import Derived.Test.YtpgchdcifbaioaaGreatDoorBookAwakeT
import Derived.Test.YtpgchdcifbaioaaGreatDoorDall
import Derived.Test.YtpgchdcifbaioaaGreatDoorBookAwakeGlob
namespace Go.Proofs.YtpgchdcifbaioaaGreatDoor.bookAwake
open Go
set_option maxRecDepth 100000
def qmt (n:Int):E2.Fact:={f:=17,args:=[.int .i64 n],pre:=[(1,g1)],next:=7,ro:=7,zm:=7,ret:=.str (qi n),post:=[],next':=if 0<=n/\n<100 then 7 else 8}
theorem z7s:((List.range 105).all λk=>E2.Fact.ok2 (qmt ((k:Int)-4)) (E2.zr Tryz.prog (E2.qpj [])) 1000)=true:=by kernel_rfl
theorem z9n {n:Int} (a:-4<=n) (b:n<=100):E2.Fact.ok2 (qmt n) (E2.zr Tryz.prog (E2.qpj [])) 1000=true:=by
 have h:=List.all_eq_true.1 z7s (n+4).toNat (List.mem_range.2 (by omega));rw [show (((n+4).toNat:Nat):Int)-4=n by omega] at h;exact h
def spI (args:List E2.V) (H:E2.Heap):Option (E2.CR×E2.Heap):=match args with
 | [.int .i64 n]=>if -4<=n/\n<=100 then (qmt n).q5d [.int .i64 n] H else none
 | _=>none
theorem z6t:E2.qbx Tryz.prog 17 spI:=by
 intro args H r H' a;unfold spI at a;split at a
 .rename_i n;split at a
  .rename_i b;exact E2.q1s (F:=qmt n) Tryz.checked.mixed tables E2.qir (by kernel_rfl) (z9n b.1 b.2) _ H r H' a
  .cases a
 .cases a
theorem zvu:(match E2.assoc [(1,1)] 1,E2.q47 (E2.assoc [(1,1)]) g1 with
  | some k,some o=>Nat.beq k 1&&E2.q56 o g1
  | _,_=>false)=true:=by kernel_rfl
theorem z5t {H:E2.Heap} {n:Int} (e:-4<=n) (b:n<=100) (f:H.zm=7) (g:H.get 1=some g1) (h:1<H.next):spI [.int .i64 n] H=some (.ret (.str (qi n)),H):=by
 unfold spI;simp only;rw [zT ⟨e,b⟩];have i:(qmt n).pre.map (λx=>(x.1,x.1))=[(1,1)]:=rfl;have a:(qmt n).fits [(1,1)] [.int .i64 n] H=true:=by
  have j:E2.qf4 (E2.assoc [(1,1)]) (qmt n).args=some [.int .i64 n]:=rfl;have l:E2.qy8 [.int .i64 n] [.int .i64 n]=true:=by simp [E2.qy8,E2.qmn]
  have m:E2.qwo (E2.assoc [(1,1)]) H (qmt n).pre=true:=by
   have c:(qmt n).pre=[(1,g1)]:=rfl;unfold E2.qwo;rw [c,List.all_cons,List.all_nil,Bool.and_true];have:=zvu;split at this
   .rename_i k o b d;simp only [zA] at this;have p:=zE this.1;subst p;simp only [b,d,g];exact this.2
   .cases this
  have q:Nat.blt 1 H.next=true:=by rw [Nat.blt_eq];exact h
  unfold E2.Fact.fits;rw [j,m,f];simp only [l];simp only [List.all_cons,List.all_nil,q,Bool.and_true,Bool.true_and];rfl
 have d:Nat.beq (qmt n).ro (qmt n).next=true:=rfl
 have r:E2.qmn (qmt n).ret ((E2.qg7 (λ_=>none) (qmt n).ret).getD (.tuple [.nilp]))=true:=by
  simp [qmt,E2.qg7,E2.qmn]
 unfold E2.Fact.q5d;rw [i,a,d,r];rfl
end Go.Proofs.YtpgchdcifbaioaaGreatDoor.bookAwake
