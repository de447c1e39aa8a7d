import Derived.Test.YtpbliaccnbgapaaGreatDoorRows
import Derived.Test.YtpbliaccnbgapaaGreatDoorM2
import Derived.WalkKit
import Derived.ProofKit
import Derived.OpenShut
import Derived.ChangeMaps5
import Derived.Deep.DeepHandedRow
namespace Go.Proofs.YtpbliaccnbgapaaGreatDoor.eventSounds
open Go.ChangeShapes Go.WideShapes Go.ChangeAt Go.RowKit Go.ChangeMaps
set_option maxRecDepth 100000
theorem qj3 {a b:Array Value} {t t':TypeId} {f f':Nat×Nat} (h:some (Obj.cells a t f)=some (Obj.cells b t' f')):t=t':=by
 cases h
 rfl
theorem globals:Tryz.prog.globals.size=9:=by kernel_rfl
theorem zdt:(Rows.eventSoundsRow.laid.filter fun x=>x.2.handleName?.isSome)=[]:=by kernel_rfl
noncomputable def quq:List Value:=(E2.qfx Tryz.prog 10 235 Rows.laid_internal_strconv_uint64pow10).getD []
theorem zqd:E2.qfx Tryz.prog 10 235 Rows.laid_internal_strconv_uint64pow10=some quq:=by kernel_rfl
theorem zsb:quq≠[]:=by
 intro h
 have:quq.isEmpty=false:=by kernel_rfl
 rw [h] at this
 cases this
theorem zo8:Tryz.prog.globalNamed "internal/strconv.uint64pow10" = some 0:=by kernel_rfl
theorem zpy:(Tryz.prog.globals[0]?).map (·.type)=some 235:=by kernel_rfl
theorem zss:((((begin Tryz.prog (fun _ _=>0) default).world).heap[0]?).bind Obj.row?).map (·.2)=some 235:=by kernel_rfl
theorem zlg:("internal/strconv.uint64pow10",Rows.laid_internal_strconv_uint64pow10) ∈ Rows.eventSoundsRow.laid:=by
 exact List.mem_of_getElem? (i:=2) rfl
theorem zqo {W:World} (hL:laidMet Tryz.prog Rows.eventSoundsRow.laid W) (hsh:W.ShapedOpen Tryz.prog):W.heap[0]? = some (.cells quq.toArray 235 (0,0)):=by
 obtain ⟨ps,h1,_,h2⟩:=hL
 obtain ⟨t',h3⟩:=E2.qif h1 (fun b off hb=>(h2 b off hb).1) (name:= "internal/strconv.uint64pow10") (d:=Rows.laid_internal_strconv_uint64pow10) zlg zo8 zpy zqd zsb
 have h4:=zss
 obtain ⟨⟨zero,t⟩,h5,h6⟩:=zM.1 h4
 simp only at h6
 subst h6
 obtain ⟨cs,h7,_⟩:=hsh.1 0 zero 235 (by rw [globals];decide) h5
 have h9:=qj3 (h3.symm.trans h7)
 rw [h9] at h3
 exact h3
noncomputable def qur:List Value:=(E2.qfx Tryz.prog 10 265 Rows.laid_tactus_sign_uses).getD []
theorem zqe:E2.qfx Tryz.prog 10 265 Rows.laid_tactus_sign_uses=some qur:=by kernel_rfl
theorem zsc:qur≠[]:=by
 intro h
 have:qur.isEmpty=false:=by kernel_rfl
 rw [h] at this
 cases this
theorem zo9:Tryz.prog.globalNamed "tactus/sign.uses" = some 1:=by kernel_rfl
theorem zpz:(Tryz.prog.globals[1]?).map (·.type)=some 265:=by kernel_rfl
theorem zst:((((begin Tryz.prog (fun _ _=>0) default).world).heap[1]?).bind Obj.row?).map (·.2)=some 265:=by kernel_rfl
theorem zlh:("tactus/sign.uses",Rows.laid_tactus_sign_uses) ∈ Rows.eventSoundsRow.laid:=by
 exact List.mem_of_getElem? (i:=5) rfl
theorem zqp {W:World} (hL:laidMet Tryz.prog Rows.eventSoundsRow.laid W) (hsh:W.ShapedOpen Tryz.prog):W.heap[1]? = some (.cells qur.toArray 265 (0,0)):=by
 obtain ⟨ps,h1,_,h2⟩:=hL
 obtain ⟨t',h3⟩:=E2.qif h1 (fun b off hb=>(h2 b off hb).1) (name:= "tactus/sign.uses") (d:=Rows.laid_tactus_sign_uses) zlh zo9 zpz zqe zsc
 have h4:=zst
 obtain ⟨⟨zero,t⟩,h5,h6⟩:=zM.1 h4
 simp only at h6
 subst h6
 obtain ⟨cs,h7,_⟩:=hsh.1 1 zero 265 (by rw [globals];decide) h5
 have h9:=qj3 (h3.symm.trans h7)
 rw [h9] at h3
 exact h3
noncomputable def qus:List Value:=(E2.qfx Tryz.prog 10 39 Rows.laid_tactus_item_half).getD []
theorem zqf:E2.qfx Tryz.prog 10 39 Rows.laid_tactus_item_half=some qus:=by kernel_rfl
theorem zsd:qus≠[]:=by
 intro h
 have:qus.isEmpty=false:=by kernel_rfl
 rw [h] at this
 cases this
theorem zpa:Tryz.prog.globalNamed "tactus/item.half" = some 3:=by kernel_rfl
theorem zp0:(Tryz.prog.globals[3]?).map (·.type)=some 39:=by kernel_rfl
theorem zsu:((((begin Tryz.prog (fun _ _=>0) default).world).heap[3]?).bind Obj.row?).map (·.2)=some 39:=by kernel_rfl
theorem zli:("tactus/item.half",Rows.laid_tactus_item_half) ∈ Rows.eventSoundsRow.laid:=by
 exact List.mem_of_getElem? (i:=4) rfl
theorem zqq {W:World} (hL:laidMet Tryz.prog Rows.eventSoundsRow.laid W) (hsh:W.ShapedOpen Tryz.prog):W.heap[3]? = some (.cells qus.toArray 39 (0,0)):=by
 obtain ⟨ps,h1,_,h2⟩:=hL
 obtain ⟨t',h3⟩:=E2.qif h1 (fun b off hb=>(h2 b off hb).1) (name:= "tactus/item.half") (d:=Rows.laid_tactus_item_half) zli zpa zp0 zqf zsd
 have h4:=zsu
 obtain ⟨⟨zero,t⟩,h5,h6⟩:=zM.1 h4
 simp only at h6
 subst h6
 obtain ⟨cs,h7,_⟩:=hsh.1 3 zero 39 (by rw [globals];decide) h5
 have h9:=qj3 (h3.symm.trans h7)
 rw [h9] at h3
 exact h3
noncomputable def qut:List Value:=(E2.qfx Tryz.prog 10 319 Rows.laid_tactus_sign_classes).getD []
theorem zqg:E2.qfx Tryz.prog 10 319 Rows.laid_tactus_sign_classes=some qut:=by kernel_rfl
theorem zse:qut≠[]:=by
 intro h
 have:qut.isEmpty=false:=by kernel_rfl
 rw [h] at this
 cases this
theorem zpb:Tryz.prog.globalNamed "tactus/sign.classes" = some 8:=by kernel_rfl
theorem zp1:(Tryz.prog.globals[8]?).map (·.type)=some 319:=by kernel_rfl
theorem zq9:((((begin Tryz.prog (fun _ _=>0) default).world).heap[8]?).bind Obj.row?).map (·.2)=some 319:=by kernel_rfl
theorem zlj:("tactus/sign.classes",Rows.laid_tactus_sign_classes) ∈ Rows.eventSoundsRow.laid:=by
 exact List.mem_of_getElem? (i:=6) rfl
theorem zqr {W:World} (hL:laidMet Tryz.prog Rows.eventSoundsRow.laid W) (hsh:W.ShapedOpen Tryz.prog):W.heap[8]? = some (.cells qut.toArray 319 (0,0)):=by
 obtain ⟨ps,h1,_,h2⟩:=hL
 obtain ⟨t',h3⟩:=E2.qif h1 (fun b off hb=>(h2 b off hb).1) (name:= "tactus/sign.classes") (d:=Rows.laid_tactus_sign_classes) zlj zpb zp1 zqg zse
 have h4:=zq9
 obtain ⟨⟨zero,t⟩,h5,h6⟩:=zM.1 h4
 simp only at h6
 subst h6
 obtain ⟨cs,h7,_⟩:=hsh.1 8 zero 319 (by rw [globals];decide) h5
 have h9:=qj3 (h3.symm.trans h7)
 rw [h9] at h3
 exact h3
theorem zay {W:World} (hsh:W.ShapedOpen Tryz.prog):9<=W.heap.size:=by
 obtain ⟨⟨zero,t⟩,h5,h6⟩:=zM.1 zq9
 obtain ⟨cs,h7,_⟩:=hsh.1 8 zero t (by rw [globals];decide) h5
 exact (Array.getElem?_eq_some_iff.1 h7).1
end Go.Proofs.YtpbliaccnbgapaaGreatDoor.eventSounds
