import Derived.Test.YtcnoipglgpkpeaaGreatDoorRows
import Derived.Test.YtcnoipglgpkpeaaGreatDoorM2
import Derived.WalkKit
import Derived.ProofKit
import Derived.OpenShut
import Derived.ChangeMaps5
import Derived.Deep.DeepHandedRow
namespace Go.Proofs.YtcnoipglgpkpeaaGreatDoor.canonTwice
open Go.ChangeShapes Go.WideShapes Go.ChangeAt Go.RowKit Go.ChangeMaps
set_option maxRecDepth 100000
theorem qlr {a b:Array Value} {t t':TypeId} {f f':Nat×Nat} (h:some (Obj.cells a t f)=some (Obj.cells b t' f')):t=t':=by
 cases h
 rfl
theorem globals:Tryz.prog.globals.size=4:=by kernel_rfl
theorem q6g:(Rows.canonTwiceRow.laid.filter fun x=>x.2.handleName?.isSome)=[]:=by kernel_rfl
noncomputable def qrg:List Value:=(E2.qfv Tryz.prog 10 156 Rows.laid_tactus_sign_uses).getD []
theorem zfu:E2.qfv Tryz.prog 10 156 Rows.laid_tactus_sign_uses=some qrg:=by kernel_rfl
theorem zhf:qrg≠[]:=by
 intro h
 have:qrg.isEmpty=false:=by kernel_rfl
 rw [h] at this
 cases this
theorem ze1:Tryz.prog.globalNamed "tactus/sign.uses" = some 1:=by kernel_rfl
theorem zfh:(Tryz.prog.globals[1]?).map (·.type)=some 156:=by kernel_rfl
theorem zht:((((begin Tryz.prog (fun _ _=>0) default).world).heap[1]?).bind Obj.row?).map (·.2)=some 156:=by kernel_rfl
theorem zbw:("tactus/sign.uses",Rows.laid_tactus_sign_uses) ∈ Rows.canonTwiceRow.laid:=by
 exact List.mem_of_getElem? (i:=1) rfl
theorem zf7 {W:World} (hL:laidMet Tryz.prog Rows.canonTwiceRow.laid W) (hsh:W.ShapedOpen Tryz.prog):W.heap[1]? = some (.cells qrg.toArray 156 (0,0)):=by
 obtain ⟨ps,h1,_,h2⟩:=hL
 obtain ⟨t',h3⟩:=E2.qit h1 (fun b off hb=>(h2 b off hb).1) (name:= "tactus/sign.uses") (d:=Rows.laid_tactus_sign_uses) zbw ze1 zfh zfu zhf
 have h4:=zht
 obtain ⟨⟨zero,t⟩,h5,h6⟩:=zM.1 h4
 simp only at h6
 subst h6
 obtain ⟨cs,h7,_⟩:=hsh.1 1 zero 156 (by rw [globals];decide) h5
 have h9:=qlr (h3.symm.trans h7)
 rw [h9] at h3
 exact h3
noncomputable def qrh:List Value:=(E2.qfv Tryz.prog 10 26 Rows.laid_tactus_item_half).getD []
theorem zfv:E2.qfv Tryz.prog 10 26 Rows.laid_tactus_item_half=some qrh:=by kernel_rfl
theorem zhg:qrh≠[]:=by
 intro h
 have:qrh.isEmpty=false:=by kernel_rfl
 rw [h] at this
 cases this
theorem ze2:Tryz.prog.globalNamed "tactus/item.half" = some 2:=by kernel_rfl
theorem zfi:(Tryz.prog.globals[2]?).map (·.type)=some 26:=by kernel_rfl
theorem zhu:((((begin Tryz.prog (fun _ _=>0) default).world).heap[2]?).bind Obj.row?).map (·.2)=some 26:=by kernel_rfl
theorem zbx:("tactus/item.half",Rows.laid_tactus_item_half) ∈ Rows.canonTwiceRow.laid:=by
 exact List.mem_of_getElem? (i:=0) rfl
theorem zf8 {W:World} (hL:laidMet Tryz.prog Rows.canonTwiceRow.laid W) (hsh:W.ShapedOpen Tryz.prog):W.heap[2]? = some (.cells qrh.toArray 26 (0,0)):=by
 obtain ⟨ps,h1,_,h2⟩:=hL
 obtain ⟨t',h3⟩:=E2.qit h1 (fun b off hb=>(h2 b off hb).1) (name:= "tactus/item.half") (d:=Rows.laid_tactus_item_half) zbx ze2 zfi zfv zhg
 have h4:=zhu
 obtain ⟨⟨zero,t⟩,h5,h6⟩:=zM.1 h4
 simp only at h6
 subst h6
 obtain ⟨cs,h7,_⟩:=hsh.1 2 zero 26 (by rw [globals];decide) h5
 have h9:=qlr (h3.symm.trans h7)
 rw [h9] at h3
 exact h3
noncomputable def qri:List Value:=(E2.qfv Tryz.prog 10 289 Rows.laid_tactus_sign_classes).getD []
theorem zfw:E2.qfv Tryz.prog 10 289 Rows.laid_tactus_sign_classes=some qri:=by kernel_rfl
theorem zhh:qri≠[]:=by
 intro h
 have:qri.isEmpty=false:=by kernel_rfl
 rw [h] at this
 cases this
theorem ze3:Tryz.prog.globalNamed "tactus/sign.classes" = some 3:=by kernel_rfl
theorem zfj:(Tryz.prog.globals[3]?).map (·.type)=some 289:=by kernel_rfl
theorem zgl:((((begin Tryz.prog (fun _ _=>0) default).world).heap[3]?).bind Obj.row?).map (·.2)=some 289:=by kernel_rfl
theorem zby:("tactus/sign.classes",Rows.laid_tactus_sign_classes) ∈ Rows.canonTwiceRow.laid:=by
 exact List.mem_of_getElem? (i:=2) rfl
theorem zf9 {W:World} (hL:laidMet Tryz.prog Rows.canonTwiceRow.laid W) (hsh:W.ShapedOpen Tryz.prog):W.heap[3]? = some (.cells qri.toArray 289 (0,0)):=by
 obtain ⟨ps,h1,_,h2⟩:=hL
 obtain ⟨t',h3⟩:=E2.qit h1 (fun b off hb=>(h2 b off hb).1) (name:= "tactus/sign.classes") (d:=Rows.laid_tactus_sign_classes) zby ze3 zfj zfw zhh
 have h4:=zgl
 obtain ⟨⟨zero,t⟩,h5,h6⟩:=zM.1 h4
 simp only at h6
 subst h6
 obtain ⟨cs,h7,_⟩:=hsh.1 3 zero 289 (by rw [globals];decide) h5
 have h9:=qlr (h3.symm.trans h7)
 rw [h9] at h3
 exact h3
theorem zdi {W:World} (hsh:W.ShapedOpen Tryz.prog):4<=W.heap.size:=by
 obtain ⟨⟨zero,t⟩,h5,h6⟩:=zM.1 zgl
 obtain ⟨cs,h7,_⟩:=hsh.1 3 zero t (by rw [globals];decide) h5
 exact (Array.getElem?_eq_some_iff.1 h7).1
end Go.Proofs.YtcnoipglgpkpeaaGreatDoor.canonTwice
