import Derived.Test.YtpdphcekmhajdaaGreatDoorRows
import Derived.Test.YtpdphcekmhajdaaGreatDoorM2
import Derived.WalkKit
import Derived.ProofKit
import Derived.OpenShut
import Derived.ChangeMaps5
import Derived.Deep.DeepHandedRow
namespace Go.Proofs.YtpdphcekmhajdaaGreatDoor.bookRound
open Go.ChangeShapes Go.WideShapes Go.ChangeAt Go.RowKit Go.ChangeMaps
set_option maxRecDepth 100000
theorem qyh {a b:Array Value} {t c:TypeId} {f d:Nat×Nat} (h:some (Obj.cells a t f)=some (Obj.cells b c d)):t=c:=by
 cases h;rfl
theorem globals:Tryz.prog.globals.size=7:=by kernel_rfl
theorem ziz:(Rows.bookRoundRow.laid.filter λx=>x.2.handleName?.isSome)=[]:=by kernel_rfl
noncomputable def qox:List Value:=(E2.qlo Tryz.prog 10 136 Rows.laid_tactus_sign_uses).getD []
theorem zx6:E2.qlo Tryz.prog 10 136 Rows.laid_tactus_sign_uses=some qox:=by kernel_rfl
theorem zzg:qox≠[]:=by
 intro h;have:qox.isEmpty=false:=by kernel_rfl
 rw [h] at this;cases this
theorem zwi:Tryz.prog.globalNamed "tactus/sign.uses" = some 0:=by kernel_rfl
theorem zxm:(Tryz.prog.globals[0]?).map (·.type)=some 136:=by kernel_rfl
theorem z0m:((((begin Tryz.prog (λ_ _=>0) default).world).heap[0]?).bind Obj.row?).map (·.2)=some 136:=by kernel_rfl
theorem zr5:("tactus/sign.uses",Rows.laid_tactus_sign_uses) ∈ Rows.bookRoundRow.laid:=by
 exact List.mem_of_getElem? (i:=4) rfl
theorem zt8 {W:World} (f:laidMet Tryz.prog Rows.bookRoundRow.laid W) (a:W.ShapedOpen Tryz.prog):W.heap[0]? = some (.cells qox.toArray 136 (0,0)):=by
 obtain ⟨ps,g,_,h⟩:=f;obtain ⟨n,c⟩:=E2.qrx g (λb off i=>(h b off i).1) (name:= "tactus/sign.uses") (d:=Rows.laid_tactus_sign_uses) zr5 zwi zxm zx6 zzg;have j:=z0m;obtain ⟨⟨zero,t⟩,k,e⟩:=zM.1 j;simp only at e;subst e;obtain ⟨cs,l,_⟩:=a.1 0 zero 136 (by rw [globals];decide) k;have m:=qyh (c.symm.trans l);rw [m] at c;exact c
noncomputable def qyf:List Value:=(E2.qlo Tryz.prog 10 184 Rows.laid_internal_strconv_uint64pow10).getD []
theorem zx7:E2.qlo Tryz.prog 10 184 Rows.laid_internal_strconv_uint64pow10=some qyf:=by kernel_rfl
theorem zzh:qyf≠[]:=by
 intro h;have:qyf.isEmpty=false:=by kernel_rfl
 rw [h] at this;cases this
theorem zwj:Tryz.prog.globalNamed "internal/strconv.uint64pow10" = some 1:=by kernel_rfl
theorem zxn:(Tryz.prog.globals[1]?).map (·.type)=some 184:=by kernel_rfl
theorem z0n:((((begin Tryz.prog (λ_ _=>0) default).world).heap[1]?).bind Obj.row?).map (·.2)=some 184:=by kernel_rfl
theorem zr6:("internal/strconv.uint64pow10",Rows.laid_internal_strconv_uint64pow10) ∈ Rows.bookRoundRow.laid:=by
 exact List.mem_of_getElem? (i:=2) rfl
theorem zym {W:World} (f:laidMet Tryz.prog Rows.bookRoundRow.laid W) (a:W.ShapedOpen Tryz.prog):W.heap[1]? = some (.cells qyf.toArray 184 (0,0)):=by
 obtain ⟨ps,g,_,h⟩:=f;obtain ⟨n,c⟩:=E2.qrx g (λb off i=>(h b off i).1) (name:= "internal/strconv.uint64pow10") (d:=Rows.laid_internal_strconv_uint64pow10) zr6 zwj zxn zx7 zzh;have j:=z0n;obtain ⟨⟨zero,t⟩,k,e⟩:=zM.1 j;simp only at e;subst e;obtain ⟨cs,l,_⟩:=a.1 1 zero 184 (by rw [globals];decide) k;have m:=qyh (c.symm.trans l);rw [m] at c;exact c
theorem z0o:((((begin Tryz.prog (λ_ _=>0) default).world).heap[6]?).bind Obj.row?).map (·.2)=some 199:=by kernel_rfl
theorem zo1 {W:World} (a:W.ShapedOpen Tryz.prog):7<=W.heap.size:=by
 obtain ⟨⟨zero,t⟩,b,d⟩:=zM.1 z0o;obtain ⟨cs,c,_⟩:=a.1 6 zero t (by rw [globals];decide) b;exact (Array.getElem?_eq_some_iff.1 c).1
end Go.Proofs.YtpdphcekmhajdaaGreatDoor.bookRound
