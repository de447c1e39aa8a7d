import Derived.Test.YtpbliaccnbgapaaGreatDoorRows
import Derived.Test.YtpbliaccnbgapaaGreatDoorM2
import Derived.WalkKit
import Derived.ProofKit
import Derived.OpenShut
import Derived.ChangeMaps5
import Derived.Deep.DeepHandedRow
namespace Go.Proofs.YtpbliaccnbgapaaGreatDoor.eventTexts
open Go.ChangeShapes Go.WideShapes Go.ChangeAt Go.RowKit Go.ChangeMaps
set_option maxRecDepth 100000
theorem qnx {a b:Array Value} {t t':TypeId} {f f':Nat×Nat} (h:some (Obj.cells a t f)=some (Obj.cells b t' f')):t=t':=by
 cases h
 rfl
theorem globals:Tryz.prog.globals.size=9:=by kernel_rfl
theorem zef:(Rows.eventTextsRow.laid.filter fun x=>x.2.handleName?.isSome)=[]:=by kernel_rfl
noncomputable def qu0:List Value:=(E2.qhh Tryz.prog 10 235 Rows.laid_internal_strconv_uint64pow10).getD []
theorem zpk:E2.qhh Tryz.prog 10 235 Rows.laid_internal_strconv_uint64pow10=some qu0:=by kernel_rfl
theorem zqe:qu0≠[]:=by
 intro h
 have:qu0.isEmpty=false:=by kernel_rfl
 rw [h] at this
 cases this
theorem zos:Tryz.prog.globalNamed "internal/strconv.uint64pow10" = some 0:=by kernel_rfl
theorem zpa:(Tryz.prog.globals[0]?).map (·.type)=some 235:=by kernel_rfl
theorem zqs:((((begin Tryz.prog (fun _ _=>0) default).world).heap[0]?).bind Obj.row?).map (·.2)=some 235:=by kernel_rfl
theorem zlh:("internal/strconv.uint64pow10",Rows.laid_internal_strconv_uint64pow10) ∈ Rows.eventTextsRow.laid:=by
 exact List.mem_of_getElem? (i:=2) rfl
theorem zpv {W:World} (hL:laidMet Tryz.prog Rows.eventTextsRow.laid W) (hsh:W.ShapedOpen Tryz.prog):W.heap[0]? = some (.cells qu0.toArray 235 (0,0)):=by
 obtain ⟨ps,h1,_,h2⟩:=hL
 obtain ⟨t',h3⟩:=E2.qku h1 (fun b off hb=>(h2 b off hb).1) (name:= "internal/strconv.uint64pow10") (d:=Rows.laid_internal_strconv_uint64pow10) zlh zos zpa zpk zqe
 have h4:=zqs
 obtain ⟨⟨zero,t⟩,h5,h6⟩:=zM.1 h4
 simp only at h6
 subst h6
 obtain ⟨cs,h7,_⟩:=hsh.1 0 zero 235 (by rw [globals];decide) h5
 have h9:=qnx (h3.symm.trans h7)
 rw [h9] at h3
 exact h3
noncomputable def qu1:List Value:=(E2.qhh Tryz.prog 10 265 Rows.laid_tactus_sign_uses).getD []
theorem zpl:E2.qhh Tryz.prog 10 265 Rows.laid_tactus_sign_uses=some qu1:=by kernel_rfl
theorem zqf:qu1≠[]:=by
 intro h
 have:qu1.isEmpty=false:=by kernel_rfl
 rw [h] at this
 cases this
theorem zot:Tryz.prog.globalNamed "tactus/sign.uses" = some 1:=by kernel_rfl
theorem zpb:(Tryz.prog.globals[1]?).map (·.type)=some 265:=by kernel_rfl
theorem zqt:((((begin Tryz.prog (fun _ _=>0) default).world).heap[1]?).bind Obj.row?).map (·.2)=some 265:=by kernel_rfl
theorem zli:("tactus/sign.uses",Rows.laid_tactus_sign_uses) ∈ Rows.eventTextsRow.laid:=by
 exact List.mem_of_getElem? (i:=4) rfl
theorem zpw {W:World} (hL:laidMet Tryz.prog Rows.eventTextsRow.laid W) (hsh:W.ShapedOpen Tryz.prog):W.heap[1]? = some (.cells qu1.toArray 265 (0,0)):=by
 obtain ⟨ps,h1,_,h2⟩:=hL
 obtain ⟨t',h3⟩:=E2.qku h1 (fun b off hb=>(h2 b off hb).1) (name:= "tactus/sign.uses") (d:=Rows.laid_tactus_sign_uses) zli zot zpb zpl zqf
 have h4:=zqt
 obtain ⟨⟨zero,t⟩,h5,h6⟩:=zM.1 h4
 simp only at h6
 subst h6
 obtain ⟨cs,h7,_⟩:=hsh.1 1 zero 265 (by rw [globals];decide) h5
 have h9:=qnx (h3.symm.trans h7)
 rw [h9] at h3
 exact h3
noncomputable def qu2:List Value:=(E2.qhh Tryz.prog 10 319 Rows.laid_tactus_sign_classes).getD []
theorem zpm:E2.qhh Tryz.prog 10 319 Rows.laid_tactus_sign_classes=some qu2:=by kernel_rfl
theorem zqg:qu2≠[]:=by
 intro h
 have:qu2.isEmpty=false:=by kernel_rfl
 rw [h] at this
 cases this
theorem zou:Tryz.prog.globalNamed "tactus/sign.classes" = some 8:=by kernel_rfl
theorem zpc:(Tryz.prog.globals[8]?).map (·.type)=some 319:=by kernel_rfl
theorem zqb:((((begin Tryz.prog (fun _ _=>0) default).world).heap[8]?).bind Obj.row?).map (·.2)=some 319:=by kernel_rfl
theorem zlj:("tactus/sign.classes",Rows.laid_tactus_sign_classes) ∈ Rows.eventTextsRow.laid:=by
 exact List.mem_of_getElem? (i:=5) rfl
theorem zpx {W:World} (hL:laidMet Tryz.prog Rows.eventTextsRow.laid W) (hsh:W.ShapedOpen Tryz.prog):W.heap[8]? = some (.cells qu2.toArray 319 (0,0)):=by
 obtain ⟨ps,h1,_,h2⟩:=hL
 obtain ⟨t',h3⟩:=E2.qku h1 (fun b off hb=>(h2 b off hb).1) (name:= "tactus/sign.classes") (d:=Rows.laid_tactus_sign_classes) zlj zou zpc zpm zqg
 have h4:=zqb
 obtain ⟨⟨zero,t⟩,h5,h6⟩:=zM.1 h4
 simp only at h6
 subst h6
 obtain ⟨cs,h7,_⟩:=hsh.1 8 zero 319 (by rw [globals];decide) h5
 have h9:=qnx (h3.symm.trans h7)
 rw [h9] at h3
 exact h3
theorem zbh {W:World} (hsh:W.ShapedOpen Tryz.prog):9<=W.heap.size:=by
 obtain ⟨⟨zero,t⟩,h5,h6⟩:=zM.1 zqb
 obtain ⟨cs,h7,_⟩:=hsh.1 8 zero t (by rw [globals];decide) h5
 exact (Array.getElem?_eq_some_iff.1 h7).1
end Go.Proofs.YtpbliaccnbgapaaGreatDoor.eventTexts
