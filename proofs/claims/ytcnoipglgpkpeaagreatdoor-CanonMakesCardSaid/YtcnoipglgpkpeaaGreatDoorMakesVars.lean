import Derived.Test.YtcnoipglgpkpeaaGreatDoorRows
import Derived.Test.YtcnoipglgpkpeaaGreatDoorM2
import Derived.WalkKit
import Derived.ProofKit
import Derived.OpenShut
import Derived.ChangeMaps5
import Derived.Deep.DeepHandedRow
namespace Go.Proofs.YtcnoipglgpkpeaaGreatDoor.canonMakes
open Go.ChangeShapes Go.WideShapes Go.ChangeAt Go.RowKit Go.ChangeMaps
set_option maxRecDepth 100000
theorem qj6 {a b:Array Value} {t t':TypeId} {f f':Nat×Nat} (h:some (Obj.cells a t f)=some (Obj.cells b t' f')):t=t':=by
 cases h
 rfl
theorem globals:Tryz.prog.globals.size=4:=by kernel_rfl
theorem qz0:(Rows.canonMakesRow.laid.filter fun x=>x.2.handleName?.isSome)=[]:=by kernel_rfl
noncomputable def qqm:List Value:=(E2.qfx Tryz.prog 10 152 Rows.laid_tactus_pitch_halves).getD []
theorem zqo:E2.qfx Tryz.prog 10 152 Rows.laid_tactus_pitch_halves=some qqm:=by kernel_rfl
theorem zr5:qqm≠[]:=by
 intro h
 have:qqm.isEmpty=false:=by kernel_rfl
 rw [h] at this
 cases this
theorem zpv:Tryz.prog.globalNamed "tactus/pitch.halves" = some 0:=by kernel_rfl
theorem zqe:(Tryz.prog.globals[0]?).map (·.type)=some 152:=by kernel_rfl
theorem zsk:((((begin Tryz.prog (fun _ _=>0) default).world).heap[0]?).bind Obj.row?).map (·.2)=some 152:=by kernel_rfl
theorem zl5:("tactus/pitch.halves",Rows.laid_tactus_pitch_halves) ∈ Rows.canonMakesRow.laid:=by
 exact List.mem_of_getElem? (i:=1) rfl
theorem zq2 {W:World} (hL:laidMet Tryz.prog Rows.canonMakesRow.laid W) (hsh:W.ShapedOpen Tryz.prog):W.heap[0]? = some (.cells qqm.toArray 152 (0,0)):=by
 obtain ⟨ps,h1,_,h2⟩:=hL
 obtain ⟨t',h3⟩:=E2.qim h1 (fun b off hb=>(h2 b off hb).1) (name:= "tactus/pitch.halves") (d:=Rows.laid_tactus_pitch_halves) zl5 zpv zqe zqo zr5
 have h4:=zsk
 obtain ⟨⟨zero,t⟩,h5,h6⟩:=zM.1 h4
 simp only at h6
 subst h6
 obtain ⟨cs,h7,_⟩:=hsh.1 0 zero 152 (by rw [globals];decide) h5
 have h9:=qj6 (h3.symm.trans h7)
 rw [h9] at h3
 exact h3
noncomputable def qur:List Value:=(E2.qfx Tryz.prog 10 156 Rows.laid_tactus_sign_uses).getD []
theorem zqp:E2.qfx Tryz.prog 10 156 Rows.laid_tactus_sign_uses=some qur:=by kernel_rfl
theorem zr6:qur≠[]:=by
 intro h
 have:qur.isEmpty=false:=by kernel_rfl
 rw [h] at this
 cases this
theorem zpw:Tryz.prog.globalNamed "tactus/sign.uses" = some 1:=by kernel_rfl
theorem zqf:(Tryz.prog.globals[1]?).map (·.type)=some 156:=by kernel_rfl
theorem zsl:((((begin Tryz.prog (fun _ _=>0) default).world).heap[1]?).bind Obj.row?).map (·.2)=some 156:=by kernel_rfl
theorem zl6:("tactus/sign.uses",Rows.laid_tactus_sign_uses) ∈ Rows.canonMakesRow.laid:=by
 exact List.mem_of_getElem? (i:=2) rfl
theorem zq3 {W:World} (hL:laidMet Tryz.prog Rows.canonMakesRow.laid W) (hsh:W.ShapedOpen Tryz.prog):W.heap[1]? = some (.cells qur.toArray 156 (0,0)):=by
 obtain ⟨ps,h1,_,h2⟩:=hL
 obtain ⟨t',h3⟩:=E2.qim h1 (fun b off hb=>(h2 b off hb).1) (name:= "tactus/sign.uses") (d:=Rows.laid_tactus_sign_uses) zl6 zpw zqf zqp zr6
 have h4:=zsl
 obtain ⟨⟨zero,t⟩,h5,h6⟩:=zM.1 h4
 simp only at h6
 subst h6
 obtain ⟨cs,h7,_⟩:=hsh.1 1 zero 156 (by rw [globals];decide) h5
 have h9:=qj6 (h3.symm.trans h7)
 rw [h9] at h3
 exact h3
noncomputable def qus:List Value:=(E2.qfx Tryz.prog 10 26 Rows.laid_tactus_item_half).getD []
theorem zqq:E2.qfx Tryz.prog 10 26 Rows.laid_tactus_item_half=some qus:=by kernel_rfl
theorem zr7:qus≠[]:=by
 intro h
 have:qus.isEmpty=false:=by kernel_rfl
 rw [h] at this
 cases this
theorem zpx:Tryz.prog.globalNamed "tactus/item.half" = some 2:=by kernel_rfl
theorem zqg:(Tryz.prog.globals[2]?).map (·.type)=some 26:=by kernel_rfl
theorem zsm:((((begin Tryz.prog (fun _ _=>0) default).world).heap[2]?).bind Obj.row?).map (·.2)=some 26:=by kernel_rfl
theorem zl7:("tactus/item.half",Rows.laid_tactus_item_half) ∈ Rows.canonMakesRow.laid:=by
 exact List.mem_of_getElem? (i:=0) rfl
theorem zq4 {W:World} (hL:laidMet Tryz.prog Rows.canonMakesRow.laid W) (hsh:W.ShapedOpen Tryz.prog):W.heap[2]? = some (.cells qus.toArray 26 (0,0)):=by
 obtain ⟨ps,h1,_,h2⟩:=hL
 obtain ⟨t',h3⟩:=E2.qim h1 (fun b off hb=>(h2 b off hb).1) (name:= "tactus/item.half") (d:=Rows.laid_tactus_item_half) zl7 zpx zqg zqq zr7
 have h4:=zsm
 obtain ⟨⟨zero,t⟩,h5,h6⟩:=zM.1 h4
 simp only at h6
 subst h6
 obtain ⟨cs,h7,_⟩:=hsh.1 2 zero 26 (by rw [globals];decide) h5
 have h9:=qj6 (h3.symm.trans h7)
 rw [h9] at h3
 exact h3
noncomputable def qut:List Value:=(E2.qfx Tryz.prog 10 289 Rows.laid_tactus_sign_classes).getD []
theorem zqr:E2.qfx Tryz.prog 10 289 Rows.laid_tactus_sign_classes=some qut:=by kernel_rfl
theorem zr8:qut≠[]:=by
 intro h
 have:qut.isEmpty=false:=by kernel_rfl
 rw [h] at this
 cases this
theorem zpy:Tryz.prog.globalNamed "tactus/sign.classes" = some 3:=by kernel_rfl
theorem zqh:(Tryz.prog.globals[3]?).map (·.type)=some 289:=by kernel_rfl
theorem zrb:((((begin Tryz.prog (fun _ _=>0) default).world).heap[3]?).bind Obj.row?).map (·.2)=some 289:=by kernel_rfl
theorem zl8:("tactus/sign.classes",Rows.laid_tactus_sign_classes) ∈ Rows.canonMakesRow.laid:=by
 exact List.mem_of_getElem? (i:=3) rfl
theorem zq5 {W:World} (hL:laidMet Tryz.prog Rows.canonMakesRow.laid W) (hsh:W.ShapedOpen Tryz.prog):W.heap[3]? = some (.cells qut.toArray 289 (0,0)):=by
 obtain ⟨ps,h1,_,h2⟩:=hL
 obtain ⟨t',h3⟩:=E2.qim h1 (fun b off hb=>(h2 b off hb).1) (name:= "tactus/sign.classes") (d:=Rows.laid_tactus_sign_classes) zl8 zpy zqh zqr zr8
 have h4:=zrb
 obtain ⟨⟨zero,t⟩,h5,h6⟩:=zM.1 h4
 simp only at h6
 subst h6
 obtain ⟨cs,h7,_⟩:=hsh.1 3 zero 289 (by rw [globals];decide) h5
 have h9:=qj6 (h3.symm.trans h7)
 rw [h9] at h3
 exact h3
theorem zi2 {W:World} (hsh:W.ShapedOpen Tryz.prog):4<=W.heap.size:=by
 obtain ⟨⟨zero,t⟩,h5,h6⟩:=zM.1 zrb
 obtain ⟨cs,h7,_⟩:=hsh.1 3 zero t (by rw [globals];decide) h5
 exact (Array.getElem?_eq_some_iff.1 h7).1
end Go.Proofs.YtcnoipglgpkpeaaGreatDoor.canonMakes
