import Derived.Test.YtcnoipglgpkpeaaGreatDoorRows
import Derived.Test.YtcnoipglgpkpeaaGreatDoorM2
import Derived.WalkKit
import Derived.ProofKit
import Derived.OpenShut
import Derived.ChangeMaps5
import Derived.Deep.DeepHandedRow
namespace Go.Proofs.YtcnoipglgpkpeaaGreatDoor.canonMatches
open Go.ChangeShapes Go.WideShapes Go.ChangeAt Go.RowKit Go.ChangeMaps
set_option maxRecDepth 100000
theorem qjl {a b:Array Value} {t t':TypeId} {f f':Nat×Nat} (h:some (Obj.cells a t f)=some (Obj.cells b t' f')):t=t':=by
 cases h
 rfl
theorem globals:Tryz.prog.globals.size=4:=by kernel_rfl
theorem qxs:(Rows.canonMatchesRow.laid.filter fun x=>x.2.handleName?.isSome)=[]:=by kernel_rfl
noncomputable def qpm:List Value:=(E2.qfk Tryz.prog 10 152 Rows.laid_tactus_pitch_halves).getD []
theorem zkw:E2.qfk Tryz.prog 10 152 Rows.laid_tactus_pitch_halves=some qpm:=by kernel_rfl
theorem zmk:qpm≠[]:=by
 intro h
 have:qpm.isEmpty=false:=by kernel_rfl
 rw [h] at this
 cases this
theorem zjw:Tryz.prog.globalNamed "tactus/pitch.halves" = some 0:=by kernel_rfl
theorem zkj:(Tryz.prog.globals[0]?).map (·.type)=some 152:=by kernel_rfl
theorem zm2:((((begin Tryz.prog (fun _ _=>0) default).world).heap[0]?).bind Obj.row?).map (·.2)=some 152:=by kernel_rfl
theorem zgi:("tactus/pitch.halves",Rows.laid_tactus_pitch_halves) ∈ Rows.canonMatchesRow.laid:=by
 exact List.mem_of_getElem? (i:=1) rfl
theorem zla {W:World} (hL:laidMet Tryz.prog Rows.canonMatchesRow.laid W) (hsh:W.ShapedOpen Tryz.prog):W.heap[0]? = some (.cells qpm.toArray 152 (0,0)):=by
 obtain ⟨ps,h1,_,h2⟩:=hL
 obtain ⟨t',h3⟩:=E2.qh7 h1 (fun b off hb=>(h2 b off hb).1) (name:= "tactus/pitch.halves") (d:=Rows.laid_tactus_pitch_halves) zgi zjw zkj zkw zmk
 have h4:=zm2
 obtain ⟨⟨zero,t⟩,h5,h6⟩:=zM.1 h4
 simp only at h6
 subst h6
 obtain ⟨cs,h7,_⟩:=hsh.1 0 zero 152 (by rw [globals];decide) h5
 have h9:=qjl (h3.symm.trans h7)
 rw [h9] at h3
 exact h3
noncomputable def qs7:List Value:=(E2.qfk Tryz.prog 10 156 Rows.laid_tactus_sign_uses).getD []
theorem zkx:E2.qfk Tryz.prog 10 156 Rows.laid_tactus_sign_uses=some qs7:=by kernel_rfl
theorem zml:qs7≠[]:=by
 intro h
 have:qs7.isEmpty=false:=by kernel_rfl
 rw [h] at this
 cases this
theorem zjx:Tryz.prog.globalNamed "tactus/sign.uses" = some 1:=by kernel_rfl
theorem zkk:(Tryz.prog.globals[1]?).map (·.type)=some 156:=by kernel_rfl
theorem zm3:((((begin Tryz.prog (fun _ _=>0) default).world).heap[1]?).bind Obj.row?).map (·.2)=some 156:=by kernel_rfl
theorem zgj:("tactus/sign.uses",Rows.laid_tactus_sign_uses) ∈ Rows.canonMatchesRow.laid:=by
 exact List.mem_of_getElem? (i:=2) rfl
theorem zlb {W:World} (hL:laidMet Tryz.prog Rows.canonMatchesRow.laid W) (hsh:W.ShapedOpen Tryz.prog):W.heap[1]? = some (.cells qs7.toArray 156 (0,0)):=by
 obtain ⟨ps,h1,_,h2⟩:=hL
 obtain ⟨t',h3⟩:=E2.qh7 h1 (fun b off hb=>(h2 b off hb).1) (name:= "tactus/sign.uses") (d:=Rows.laid_tactus_sign_uses) zgj zjx zkk zkx zml
 have h4:=zm3
 obtain ⟨⟨zero,t⟩,h5,h6⟩:=zM.1 h4
 simp only at h6
 subst h6
 obtain ⟨cs,h7,_⟩:=hsh.1 1 zero 156 (by rw [globals];decide) h5
 have h9:=qjl (h3.symm.trans h7)
 rw [h9] at h3
 exact h3
noncomputable def qs8:List Value:=(E2.qfk Tryz.prog 10 26 Rows.laid_tactus_item_half).getD []
theorem zky:E2.qfk Tryz.prog 10 26 Rows.laid_tactus_item_half=some qs8:=by kernel_rfl
theorem zmm:qs8≠[]:=by
 intro h
 have:qs8.isEmpty=false:=by kernel_rfl
 rw [h] at this
 cases this
theorem zjy:Tryz.prog.globalNamed "tactus/item.half" = some 2:=by kernel_rfl
theorem zkl:(Tryz.prog.globals[2]?).map (·.type)=some 26:=by kernel_rfl
theorem zm4:((((begin Tryz.prog (fun _ _=>0) default).world).heap[2]?).bind Obj.row?).map (·.2)=some 26:=by kernel_rfl
theorem zgk:("tactus/item.half",Rows.laid_tactus_item_half) ∈ Rows.canonMatchesRow.laid:=by
 exact List.mem_of_getElem? (i:=0) rfl
theorem zlc {W:World} (hL:laidMet Tryz.prog Rows.canonMatchesRow.laid W) (hsh:W.ShapedOpen Tryz.prog):W.heap[2]? = some (.cells qs8.toArray 26 (0,0)):=by
 obtain ⟨ps,h1,_,h2⟩:=hL
 obtain ⟨t',h3⟩:=E2.qh7 h1 (fun b off hb=>(h2 b off hb).1) (name:= "tactus/item.half") (d:=Rows.laid_tactus_item_half) zgk zjy zkl zky zmm
 have h4:=zm4
 obtain ⟨⟨zero,t⟩,h5,h6⟩:=zM.1 h4
 simp only at h6
 subst h6
 obtain ⟨cs,h7,_⟩:=hsh.1 2 zero 26 (by rw [globals];decide) h5
 have h9:=qjl (h3.symm.trans h7)
 rw [h9] at h3
 exact h3
noncomputable def qs9:List Value:=(E2.qfk Tryz.prog 10 289 Rows.laid_tactus_sign_classes).getD []
theorem zkz:E2.qfk Tryz.prog 10 289 Rows.laid_tactus_sign_classes=some qs9:=by kernel_rfl
theorem zmn:qs9≠[]:=by
 intro h
 have:qs9.isEmpty=false:=by kernel_rfl
 rw [h] at this
 cases this
theorem zjz:Tryz.prog.globalNamed "tactus/sign.classes" = some 3:=by kernel_rfl
theorem zkm:(Tryz.prog.globals[3]?).map (·.type)=some 289:=by kernel_rfl
theorem zlq:((((begin Tryz.prog (fun _ _=>0) default).world).heap[3]?).bind Obj.row?).map (·.2)=some 289:=by kernel_rfl
theorem zgl:("tactus/sign.classes",Rows.laid_tactus_sign_classes) ∈ Rows.canonMatchesRow.laid:=by
 exact List.mem_of_getElem? (i:=3) rfl
theorem zld {W:World} (hL:laidMet Tryz.prog Rows.canonMatchesRow.laid W) (hsh:W.ShapedOpen Tryz.prog):W.heap[3]? = some (.cells qs9.toArray 289 (0,0)):=by
 obtain ⟨ps,h1,_,h2⟩:=hL
 obtain ⟨t',h3⟩:=E2.qh7 h1 (fun b off hb=>(h2 b off hb).1) (name:= "tactus/sign.classes") (d:=Rows.laid_tactus_sign_classes) zgl zjz zkm zkz zmn
 have h4:=zlq
 obtain ⟨⟨zero,t⟩,h5,h6⟩:=zM.1 h4
 simp only at h6
 subst h6
 obtain ⟨cs,h7,_⟩:=hsh.1 3 zero 289 (by rw [globals];decide) h5
 have h9:=qjl (h3.symm.trans h7)
 rw [h9] at h3
 exact h3
theorem zd2 {W:World} (hsh:W.ShapedOpen Tryz.prog):4<=W.heap.size:=by
 obtain ⟨⟨zero,t⟩,h5,h6⟩:=zM.1 zlq
 obtain ⟨cs,h7,_⟩:=hsh.1 3 zero t (by rw [globals];decide) h5
 exact (Array.getElem?_eq_some_iff.1 h7).1
end Go.Proofs.YtcnoipglgpkpeaaGreatDoor.canonMatches
