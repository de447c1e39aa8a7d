import Derived.Test.YtpofmogdhigakaaGreatDoorRows
import Derived.Test.YtpofmogdhigakaaGreatDoorM2
import Derived.WalkKit
import Derived.ProofKit
import Derived.OpenShut
import Derived.ChangeMaps5
import Derived.Deep.DeepHandedRow
namespace Go.Proofs.YtpofmogdhigakaaGreatDoor.solveTimes
open Go.ChangeShapes Go.WideShapes Go.ChangeAt Go.RowKit Go.ChangeMaps
set_option maxRecDepth 100000
theorem qqu {a b:Array Value} {t c:TypeId} {f d:Nat×Nat} (h:some (Obj.cells a t f)=some (Obj.cells b c d)):t=c:=by
 cases h;rfl
theorem globals:Tryz.prog.globals.size=3:=by kernel_rfl
theorem q1j:(Rows.solveTimesRow.laid.filter λx=>x.2.handleName?.isSome)=[]:=by kernel_rfl
noncomputable def qm5:List Value:=(E2.qhz Tryz.prog 10 145 Rows.laid_tactus_sign_uses).getD []
theorem zr6:E2.qhz Tryz.prog 10 145 Rows.laid_tactus_sign_uses=some qm5:=by kernel_rfl
theorem zue:qm5≠[]:=by
 intro h;have:qm5.isEmpty=false:=by kernel_rfl
 rw [h] at this;cases this
theorem zpo:Tryz.prog.globalNamed "tactus/sign.uses" = some 0:=by kernel_rfl
theorem zqt:(Tryz.prog.globals[0]?).map (·.type)=some 145:=by kernel_rfl
theorem zvg:((((begin Tryz.prog (λ_ _=>0) default).world).heap[0]?).bind Obj.row?).map (·.2)=some 145:=by kernel_rfl
theorem ziv:("tactus/sign.uses",Rows.laid_tactus_sign_uses) ∈ Rows.solveTimesRow.laid:=by
 exact List.mem_of_getElem? (i:=1) rfl
theorem zlk {W:World} (f:laidMet Tryz.prog Rows.solveTimesRow.laid W) (a:W.ShapedOpen Tryz.prog):W.heap[0]? = some (.cells qm5.toArray 145 (0,0)):=by
 obtain ⟨ps,g,_,h⟩:=f;obtain ⟨n,c⟩:=E2.ql9 g (λb off i=>(h b off i).1) (name:= "tactus/sign.uses") (d:=Rows.laid_tactus_sign_uses) ziv zpo zqt zr6 zue;have j:=zvg;obtain ⟨⟨zero,t⟩,k,e⟩:=zM.1 j;simp only at e;subst e;obtain ⟨cs,l,_⟩:=a.1 0 zero 145 (by rw [globals];decide) k;have m:=qqu (c.symm.trans l);rw [m] at c;exact c
noncomputable def qxa:List Value:=(E2.qhz Tryz.prog 10 35 Rows.laid_tactus_item_half).getD []
theorem zr7:E2.qhz Tryz.prog 10 35 Rows.laid_tactus_item_half=some qxa:=by kernel_rfl
theorem zuf:qxa≠[]:=by
 intro h;have:qxa.isEmpty=false:=by kernel_rfl
 rw [h] at this;cases this
theorem zpp:Tryz.prog.globalNamed "tactus/item.half" = some 1:=by kernel_rfl
theorem zqu:(Tryz.prog.globals[1]?).map (·.type)=some 35:=by kernel_rfl
theorem zvh:((((begin Tryz.prog (λ_ _=>0) default).world).heap[1]?).bind Obj.row?).map (·.2)=some 35:=by kernel_rfl
theorem ziw:("tactus/item.half",Rows.laid_tactus_item_half) ∈ Rows.solveTimesRow.laid:=by
 exact List.mem_of_getElem? (i:=0) rfl
theorem zss {W:World} (f:laidMet Tryz.prog Rows.solveTimesRow.laid W) (a:W.ShapedOpen Tryz.prog):W.heap[1]? = some (.cells qxa.toArray 35 (0,0)):=by
 obtain ⟨ps,g,_,h⟩:=f;obtain ⟨n,c⟩:=E2.ql9 g (λb off i=>(h b off i).1) (name:= "tactus/item.half") (d:=Rows.laid_tactus_item_half) ziw zpp zqu zr7 zuf;have j:=zvh;obtain ⟨⟨zero,t⟩,k,e⟩:=zM.1 j;simp only at e;subst e;obtain ⟨cs,l,_⟩:=a.1 1 zero 35 (by rw [globals];decide) k;have m:=qqu (c.symm.trans l);rw [m] at c;exact c
noncomputable def qm6:List Value:=(E2.qhz Tryz.prog 10 216 Rows.laid_tactus_sign_classes).getD []
theorem zr8:E2.qhz Tryz.prog 10 216 Rows.laid_tactus_sign_classes=some qm6:=by kernel_rfl
theorem zug:qm6≠[]:=by
 intro h;have:qm6.isEmpty=false:=by kernel_rfl
 rw [h] at this;cases this
theorem zpq:Tryz.prog.globalNamed "tactus/sign.classes" = some 2:=by kernel_rfl
theorem zqv:(Tryz.prog.globals[2]?).map (·.type)=some 216:=by kernel_rfl
theorem zcz:((((begin Tryz.prog (λ_ _=>0) default).world).heap[2]?).bind Obj.row?).map (·.2)=some 216:=by kernel_rfl
theorem zix:("tactus/sign.classes",Rows.laid_tactus_sign_classes) ∈ Rows.solveTimesRow.laid:=by
 exact List.mem_of_getElem? (i:=2) rfl
theorem zll {W:World} (f:laidMet Tryz.prog Rows.solveTimesRow.laid W) (a:W.ShapedOpen Tryz.prog):W.heap[2]? = some (.cells qm6.toArray 216 (0,0)):=by
 obtain ⟨ps,g,_,h⟩:=f;obtain ⟨n,c⟩:=E2.ql9 g (λb off i=>(h b off i).1) (name:= "tactus/sign.classes") (d:=Rows.laid_tactus_sign_classes) zix zpq zqv zr8 zug;have j:=zcz;obtain ⟨⟨zero,t⟩,k,e⟩:=zM.1 j;simp only at e;subst e;obtain ⟨cs,l,_⟩:=a.1 2 zero 216 (by rw [globals];decide) k;have m:=qqu (c.symm.trans l);rw [m] at c;exact c
theorem q1r {W:World} (a:W.ShapedOpen Tryz.prog):3<=W.heap.size:=by
 obtain ⟨⟨zero,t⟩,b,d⟩:=zM.1 zcz;obtain ⟨cs,c,_⟩:=a.1 2 zero t (by rw [globals];decide) b;exact (Array.getElem?_eq_some_iff.1 c).1
end Go.Proofs.YtpofmogdhigakaaGreatDoor.solveTimes
