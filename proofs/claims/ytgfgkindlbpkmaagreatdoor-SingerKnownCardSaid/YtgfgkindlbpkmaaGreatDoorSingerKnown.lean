/- THE LAW SingerKnown of the chapter 40: the call returns true and nothing that was there before it is turned. No condition beyond its row's own: the listed variables read as the program's text lays them. -/
import Derived.Test.YtgfgkindlbpkmaaGreatDoorCards
import Derived.Test.YtgfgkindlbpkmaaGreatDoorTie
import Derived.Test.YtgfgkindlbpkmaaGreatDoorSingerKnownRun
import Derived.WalkKit
import Derived.ProofKit
import Derived.OpenShut
import Derived.Deep.DeepHandedRow
namespace Go.Proofs.YtgfgkindlbpkmaaGreatDoor.singerKnown
open Go.ChangeShapes Go.WideShapes Go.ChangeAt Go.RowKit

theorem cells_type {a b : Array Value} {t t' : TypeId} {f f' : Nat × Nat} (h : some (Obj.cells a t f) = some (Obj.cells b t' f')) : t = t' := by
  cases h
  rfl
theorem own : ownKnob Tryz.prog.godebug = none := by kernel_rfl
theorem globals : Tryz.prog.globals.size = 3 := by kernel_rfl
theorem plainList : (Rows.singerKnownRow.laid.filter fun x => x.2.handleName?.isSome) = [] := by kernel_rfl

/-! ### tactus/sign.uses -/
noncomputable def cells0 : List Value := (E2.flatV Tryz.prog 10 205 Rows.laid_tactus_sign_uses).getD []
theorem flat0 : E2.flatV Tryz.prog 10 205 Rows.laid_tactus_sign_uses = some cells0 := by kernel_rfl
theorem some0 : cells0 ≠ [] := by
  intro h
  have : cells0.isEmpty = false := by kernel_rfl
  rw [h] at this
  cases this
theorem named0 : Tryz.prog.globalNamed "tactus/sign.uses" = some 0 := by kernel_rfl
theorem typed0 : (Tryz.prog.globals[0]?).map (·.type) = some 205 := by kernel_rfl
theorem row0 : ((((begin Tryz.prog (fun _ _ => 0) default).world).heap[0]?).bind Obj.row?).map (·.2) = some 205 := by kernel_rfl
theorem listed0 : ("tactus/sign.uses", Rows.laid_tactus_sign_uses) ∈ Rows.singerKnownRow.laid := by
  exact List.mem_of_getElem? (i := 1) rfl
theorem heap0 {W : World} (hL : laidMet Tryz.prog Rows.singerKnownRow.laid W) (hsh : W.ShapedOpen Tryz.prog) : W.heap[0]? = some (.cells cells0.toArray 205 (0, 0)) := by
  obtain ⟨ps, h1, _, h2⟩ := hL
  obtain ⟨t', h3⟩ := E2.laid_cells h1 (fun b off hb => (h2 b off hb).1) (name := "tactus/sign.uses") (d := Rows.laid_tactus_sign_uses) listed0 named0 typed0 flat0 some0
  have h4 := row0
  obtain ⟨⟨zero, t⟩, h5, h6⟩ := Option.map_eq_some_iff.1 h4
  simp only at h6
  subst h6
  obtain ⟨cs, h7, _⟩ := hsh.1 0 zero 205 (by rw [globals]; decide) h5
  have h9 := cells_type (h3.symm.trans h7)
  rw [h9] at h3
  exact h3

/-! ### tactus/item.half -/
noncomputable def cells1 : List Value := (E2.flatV Tryz.prog 10 29 Rows.laid_tactus_item_half).getD []
theorem flat1 : E2.flatV Tryz.prog 10 29 Rows.laid_tactus_item_half = some cells1 := by kernel_rfl
theorem some1 : cells1 ≠ [] := by
  intro h
  have : cells1.isEmpty = false := by kernel_rfl
  rw [h] at this
  cases this
theorem named1 : Tryz.prog.globalNamed "tactus/item.half" = some 1 := by kernel_rfl
theorem typed1 : (Tryz.prog.globals[1]?).map (·.type) = some 29 := by kernel_rfl
theorem row1 : ((((begin Tryz.prog (fun _ _ => 0) default).world).heap[1]?).bind Obj.row?).map (·.2) = some 29 := by kernel_rfl
theorem listed1 : ("tactus/item.half", Rows.laid_tactus_item_half) ∈ Rows.singerKnownRow.laid := by
  exact List.mem_of_getElem? (i := 0) rfl
theorem heap1 {W : World} (hL : laidMet Tryz.prog Rows.singerKnownRow.laid W) (hsh : W.ShapedOpen Tryz.prog) : W.heap[1]? = some (.cells cells1.toArray 29 (0, 0)) := by
  obtain ⟨ps, h1, _, h2⟩ := hL
  obtain ⟨t', h3⟩ := E2.laid_cells h1 (fun b off hb => (h2 b off hb).1) (name := "tactus/item.half") (d := Rows.laid_tactus_item_half) listed1 named1 typed1 flat1 some1
  have h4 := row1
  obtain ⟨⟨zero, t⟩, h5, h6⟩ := Option.map_eq_some_iff.1 h4
  simp only at h6
  subst h6
  obtain ⟨cs, h7, _⟩ := hsh.1 1 zero 29 (by rw [globals]; decide) h5
  have h9 := cells_type (h3.symm.trans h7)
  rw [h9] at h3
  exact h3

/-! ### tactus/sign.classes -/
noncomputable def cells2 : List Value := (E2.flatV Tryz.prog 10 285 Rows.laid_tactus_sign_classes).getD []
theorem flat2 : E2.flatV Tryz.prog 10 285 Rows.laid_tactus_sign_classes = some cells2 := by kernel_rfl
theorem some2 : cells2 ≠ [] := by
  intro h
  have : cells2.isEmpty = false := by kernel_rfl
  rw [h] at this
  cases this
theorem named2 : Tryz.prog.globalNamed "tactus/sign.classes" = some 2 := by kernel_rfl
theorem typed2 : (Tryz.prog.globals[2]?).map (·.type) = some 285 := by kernel_rfl
theorem row2 : ((((begin Tryz.prog (fun _ _ => 0) default).world).heap[2]?).bind Obj.row?).map (·.2) = some 285 := by kernel_rfl
theorem listed2 : ("tactus/sign.classes", Rows.laid_tactus_sign_classes) ∈ Rows.singerKnownRow.laid := by
  exact List.mem_of_getElem? (i := 2) rfl
theorem heap2 {W : World} (hL : laidMet Tryz.prog Rows.singerKnownRow.laid W) (hsh : W.ShapedOpen Tryz.prog) : W.heap[2]? = some (.cells cells2.toArray 285 (0, 0)) := by
  obtain ⟨ps, h1, _, h2⟩ := hL
  obtain ⟨t', h3⟩ := E2.laid_cells h1 (fun b off hb => (h2 b off hb).1) (name := "tactus/sign.classes") (d := Rows.laid_tactus_sign_classes) listed2 named2 typed2 flat2 some2
  have h4 := row2
  obtain ⟨⟨zero, t⟩, h5, h6⟩ := Option.map_eq_some_iff.1 h4
  simp only at h6
  subst h6
  obtain ⟨cs, h7, _⟩ := hsh.1 2 zero 285 (by rw [globals]; decide) h5
  have h9 := cells_type (h3.symm.trans h7)
  rw [h9] at h3
  exact h3

theorem abs : ∃ c0 c1 c2, E2.absL 1000 cells0 = some c0 ∧ E2.absL 1000 cells1 = some c1 ∧ E2.absL 1000 cells2 = some c2 ∧ glob = [(0, .row c0 205 0 0 0 false), (1, .row c1 29 0 0 0 false), (2, .row c2 285 0 0 0 false)] := ⟨_, _, _, by kernel_rfl, by kernel_rfl, by kernel_rfl, rfl⟩

/-- What the row's list says. -/
theorem start {W : World} (hL : laidMetH Tryz.prog Rows.singerKnownRow.laid W) (hsh : W.ShapedOpen Tryz.prog) : E2.Sim (E2.startH glob 3) (E2.startG glob) W := by
  have hL' : laidMet Tryz.prog Rows.singerKnownRow.laid W := by
    unfold laidMetH at hL
    rw [plainList] at hL
    exact hL
  refine E2.sim_start fun x hx => ?_
  obtain ⟨c0, c1, c2, h0, h1, h2, hg⟩ := abs
  rw [hg] at hx
  simp only [List.mem_cons, List.mem_nil_iff, or_false] at hx
  rcases hx with rfl | rfl | rfl
  · exact ⟨(show (0 : Nat) < 3 by decide), c0, 205, cells0, rfl, h0, heap0 hL' hsh⟩
  · exact ⟨(show (1 : Nat) < 3 by decide), c1, 29, cells1, rfl, h1, heap1 hL' hsh⟩
  · exact ⟨(show (2 : Nat) < 3 by decide), c2, 285, cells2, rfl, h2, heap2 hL' hsh⟩

theorem low : ∀ x ∈ glob, x.1 < 3 := by
  intro x hx
  obtain ⟨_, _, _, _, _, _, hg⟩ := abs
  rw [hg] at hx
  simp only [List.mem_cons, List.mem_nil_iff, or_false] at hx
  rcases hx with rfl | rfl | rfl
  · exact (show (0 : Nat) < 3 by decide)
  · exact (show (1 : Nat) < 3 by decide)
  · exact (show (2 : Nat) < 3 by decide)

theorem body : ∃ c, Tryz.f3.body = some c := ⟨_, rfl⟩

theorem contract (H : Type) (enc : TypeId × Value → H) (W : World) (args : Array Value) (ds gs : List (DataW H)) (before : List MemPlace)
    (hW : DataW.Whole enc Tryz.prog Tryz.f3.params.toList Rows.singerKnownSpec.vars false W args.toList ds gs before) (hL : laidMetH Tryz.prog Rows.singerKnownRow.laid W) (hsh : W.ShapedOpen Tryz.prog) :
    Calls Tryz.prog 3 args W fun e W' => ∃ v, e = .returned v ∧ Rows.singerKnownSpec.post enc Tryz.prog Tryz.f3 false true false false W args v W' := by
  have hW' := hW
  obtain ⟨p, q, hA0, _⟩ := hW
  have hA : DataW.TrodAll enc Tryz.prog W 0 (fun _ => true) true Tryz.f3.params.toList args.toList ds p := hA0
  rw [Tryz.params3] at hA
  obtain ⟨ha, _, _⟩ := trodAll_nil hA
  obtain rfl : args = #[] := by apply Array.ext'; simpa using ha
  obtain ⟨c, hc⟩ := body
  refine (E2.runsTrueR_calls Tryz.checked.mixed tables goods Tryz.func3 (by kernel_rfl) hc (start hL hsh) run).mono fun e W' ⟨he, G', hx⟩ => ?_
  subst he
  exact ⟨_, rfl, E2.post_true (t := 4) hW' rfl rfl rfl Tryz.underlying4 rfl (fun may => hx.keptBut (E2.startG_lt (ng := 3) low) may)⟩

/-- A WORLD FOR THE WITNESS: the settled one, the tables as their initialisers lay them. -/
def flatD : Nat → DataW Unit → List Value
  | n + 1, .agg l => l.flatMap (flatD n)
  | _ + 1, .lit (.int k i) => [.int k i]
  | _ + 1, .lit (.bool b) => [.bool b]
  | _ + 1, .lit (.string s) => [.string ⟨s.toArray⟩]
  | _, _ => []
def lay (g : Nat) (cs : List Value) (heap : Array Obj) : Array Obj :=
  heap.modify g fun
    | .cells _ t frozen => .cells cs.toArray t frozen
    | o => o
noncomputable def laidWorld (os : Os) : World :=
  { World.holding Tryz.prog os ⟨#[], #[], []⟩ with heap := lay 2 (flatD 8 Rows.laid_tactus_sign_classes) (lay 1 (flatD 8 Rows.laid_tactus_item_half) (lay 0 (flatD 8 Rows.laid_tactus_sign_uses) (World.holding Tryz.prog os ⟨#[], #[], []⟩).heap)) }
theorem laid_met (os : Os) : laidMet Tryz.prog Rows.singerKnownRow.laid ((laidWorld os).forCall (fun _ _ => 0) ⟨#[], #[], []⟩).memory :=
  laidMet_of_run' 8 (by kernel_rfl) (by kernel_rfl)
theorem reads (os : Os) {H : Type} (enc : TypeId × Value → H) : ∃ places, DataW.whole enc Tryz.prog ((laidWorld os).forCall (fun _ _ => 0) ⟨#[], #[], []⟩).memory Tryz.f3.params.toList Rows.singerKnownSpec.vars false (#[] : Array Value).toList 8 = some ([], [], places) :=
  ⟨[], by kernel_rfl⟩

set_option maxRecDepth 100000 in
theorem lifted (os : Os) (started : os.Started) (H : Type) (enc : TypeId × Value → H) (F : Stop.Interp) :
    ReturnsInHanded {} Tryz.checked os 3 .any ((OpenSpec.ofChange Rows.singerKnownSpec).preRow enc Tryz.prog Tryz.f3 Rows.singerKnownRow.domain false Rows.singerKnownRow.laid) (((OpenSpec.ofChange Rows.singerKnownSpec).at F).post enc Tryz.prog Tryz.f3 false true false false) := by
  obtain ⟨places, hx⟩ := reads os enc
  refine returnsInHanded_of_row (C := Tryz.checked) (s := OpenSpec.ofChange Rows.singerKnownSpec) own started (by kernel_rfl) Tryz.func3
    (witness_row_at (enc := enc) (C := Tryz.checked) false (laidWorld os) #[] rfl (by kernel_rfl) (by kernel_rfl) (by kernel_rfl)
      (OpenSpec.preRow_of_cond 8 hx (by kernel_rfl) (fun k hk => by cases hk) (by kernel_rfl) (laid_met os))) ?_
  intro W base args ds gs before hval hW _ _ _ hL hsh _
  exact contract H enc W args ds gs before hW hL hsh

theorem said : Rows.SingerKnownSaid :=
  OpenClaim.holds_of_cond 3 Tryz.f3 rfl rfl rfl rfl rfl rfl rfl ⟨rfl, rfl, rfl, rfl, rfl⟩ rfl rfl rfl rfl rfl (by kernel_rfl) Tryz.func3 (by kernel_rfl)
    (of_decide_eq_true (by kernel_rfl)) (by unfold Func.isWrapper; first | (rw [if_pos (by decide +kernel)]; kernel_rfl) | (rw [if_neg (by decide +kernel)]; exact ⟨rfl, rfl⟩))
    (fun os started H enc _ F => by rw [OpenClaim.pre_eq_preRow]; exact lifted os started H enc F)

/-- No parameter wants a stand-in; the program's own looks are off. -/
theorem plain (f : FuncId) (fn : Func) (hf : Tryz.pinned.checked.prog.funcNamed "tactus/tactuslaw40.SingerKnown" = some f) (hfn : Tryz.pinned.checked.prog.funcs[f]? = some fn) :
    true = Tryz.pinned.checked.prog.looks [] ∧ ∀ (j : Nat) t, fn.params[j]? = some t → Tryz.pinned.checked.prog.wantsStandIn t = false := by
  obtain rfl : f = 3 := Option.some.inj ((show Tryz.prog.funcNamed "tactus/tactuslaw40.SingerKnown" = some 3 by kernel_rfl).symm.trans hf) |>.symm
  obtain rfl : fn = Tryz.f3 := (Option.some.inj (Tryz.func3.symm.trans hfn)).symm
  refine ⟨by kernel_rfl, fun j t ht => ?_⟩
  rw [Tryz.params3] at ht
  simp at ht

/-- THE CARD. -/
theorem card : Rows.SingerKnownCardSaid :=
  Claim7.holds_tied_plain_at .later [] _ _ _ _ said (fun _ h => by cases h) (by kernel_rfl) (fun _ h => by cases h) singerKnown_row_tie rfl ⟨rfl, rfl⟩ (by kernel_rfl) rfl plain (by kernel_rfl)
#print axioms card
end Go.Proofs.YtgfgkindlbpkmaaGreatDoor.singerKnown
