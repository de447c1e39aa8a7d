import Derived.Test.YtpgchdcifbaioaaGreatDoorRows
import Derived.Test.YtpgchdcifbaioaaGreatDoorM2
import Derived.WalkKit
import Derived.ProofKit
import Derived.OpenShut
import Derived.ChangeMaps5
import Derived.Deep.DeepHandedRow
namespace Go.Proofs.YtpgchdcifbaioaaGreatDoor.bookTexts
open Go.ChangeShapes Go.WideShapes Go.ChangeAt Go.RowKit Go.ChangeMaps
set_option maxRecDepth 100000
theorem q02 {a b:Array Value} {t c:TypeId} {f d:Nat×Nat} (h:some (Obj.cells a t f)=some (Obj.cells b c d)):t=c:=by
 cases h;rfl
theorem globals:Tryz.prog.globals.size=7:=by kernel_rfl
theorem zoo:(Rows.bookTextsRow.laid.filter λx=>x.2.handleName?.isSome)=[]:=by kernel_rfl
noncomputable def qok:List Value:=(E2.qmv Tryz.prog 10 133 Rows.laid_tactus_sign_uses).getD []
theorem z6m:E2.qmv Tryz.prog 10 133 Rows.laid_tactus_sign_uses=some qok:=by kernel_rfl
theorem z7x:qok≠[]:=by
 intro h;have:qok.isEmpty=false:=by kernel_rfl
 rw [h] at this;cases this
theorem z4s:Tryz.prog.globalNamed "tactus/sign.uses" = some 0:=by kernel_rfl
theorem z52:(Tryz.prog.globals[0]?).map (·.type)=some 133:=by kernel_rfl
theorem z9f:((((begin Tryz.prog (λ_ _=>0) default).world).heap[0]?).bind Obj.row?).map (·.2)=some 133:=by kernel_rfl
theorem zz5:("tactus/sign.uses",Rows.laid_tactus_sign_uses) ∈ Rows.bookTextsRow.laid:=by
 exact List.mem_of_getElem? (i:=4) rfl
theorem z18 {W:World} (f:laidMet Tryz.prog Rows.bookTextsRow.laid W) (a:W.ShapedOpen Tryz.prog):W.heap[0]? = some (.cells qok.toArray 133 (0,0)):=by
 obtain ⟨ps,g,_,h⟩:=f;obtain ⟨n,c⟩:=E2.qti g (λb off i=>(h b off i).1) (name:= "tactus/sign.uses") (d:=Rows.laid_tactus_sign_uses) zz5 z4s z52 z6m z7x;have j:=z9f;obtain ⟨⟨zero,t⟩,k,e⟩:=zM.1 j;simp only at e;subst e;obtain ⟨cs,l,_⟩:=a.1 0 zero 133 (by rw [globals];decide) k;have m:=q02 (c.symm.trans l);rw [m] at c;exact c
noncomputable def qwh:List Value:=(E2.qmv Tryz.prog 10 187 Rows.laid_internal_strconv_uint64pow10).getD []
theorem z6n:E2.qmv Tryz.prog 10 187 Rows.laid_internal_strconv_uint64pow10=some qwh:=by kernel_rfl
theorem z7y:qwh≠[]:=by
 intro h;have:qwh.isEmpty=false:=by kernel_rfl
 rw [h] at this;cases this
theorem z4t:Tryz.prog.globalNamed "internal/strconv.uint64pow10" = some 1:=by kernel_rfl
theorem z54:(Tryz.prog.globals[1]?).map (·.type)=some 187:=by kernel_rfl
theorem z9g:((((begin Tryz.prog (λ_ _=>0) default).world).heap[1]?).bind Obj.row?).map (·.2)=some 187:=by kernel_rfl
theorem zz6:("internal/strconv.uint64pow10",Rows.laid_internal_strconv_uint64pow10) ∈ Rows.bookTextsRow.laid:=by
 exact List.mem_of_getElem? (i:=2) rfl
theorem z6x {W:World} (f:laidMet Tryz.prog Rows.bookTextsRow.laid W) (a:W.ShapedOpen Tryz.prog):W.heap[1]? = some (.cells qwh.toArray 187 (0,0)):=by
 obtain ⟨ps,g,_,h⟩:=f;obtain ⟨n,c⟩:=E2.qti g (λb off i=>(h b off i).1) (name:= "internal/strconv.uint64pow10") (d:=Rows.laid_internal_strconv_uint64pow10) zz6 z4t z54 z6n z7y;have j:=z9g;obtain ⟨⟨zero,t⟩,k,e⟩:=zM.1 j;simp only at e;subst e;obtain ⟨cs,l,_⟩:=a.1 1 zero 187 (by rw [globals];decide) k;have m:=q02 (c.symm.trans l);rw [m] at c;exact c
theorem z9h:((((begin Tryz.prog (λ_ _=>0) default).world).heap[6]?).bind Obj.row?).map (·.2)=some 210:=by kernel_rfl
theorem zwg {W:World} (a:W.ShapedOpen Tryz.prog):7<=W.heap.size:=by
 obtain ⟨⟨zero,t⟩,b,d⟩:=zM.1 z9h;obtain ⟨cs,c,_⟩:=a.1 6 zero t (by rw [globals];decide) b;exact (Array.getElem?_eq_some_iff.1 c).1
end Go.Proofs.YtpgchdcifbaioaaGreatDoor.bookTexts
