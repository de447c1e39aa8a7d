/- THE LAW EventKnown of the chapter 21: the call returns true and nothing that was there before it is turned. No condition beyond its row's own: the listed variables read as the program's text lays them. -/
import Derived.Test.YtjbefleabibmmaaGreatDoorCards
import Derived.Test.YtjbefleabibmmaaGreatDoorTie
import Derived.Test.YtjbefleabibmmaaGreatDoorEventKnownRun
import Derived.WalkKit
import Derived.ProofKit
import Derived.OpenShut
import Derived.Deep.DeepHandedRow
namespace Go.Proofs.YtjbefleabibmmaaGreatDoor.eventKnown
open Go.ChangeShapes Go.WideShapes Go.ChangeAt Go.RowKit

theorem cells_type {a b : Array Value} {t t' : TypeId} {f f' : Nat × Nat} (h : some (Obj.cells a t f) = some (Obj.cells b t' f')) : t = t' := by
  cases h
  rfl
theorem own : ownKnob Tryz.prog.godebug = none := by kernel_rfl
theorem globals : Tryz.prog.globals.size = 9 := by kernel_rfl
theorem plainList : (Rows.eventKnownRow.laid.filter fun x => x.2.handleName?.isSome) = [] := by kernel_rfl

/-! ### tactus/item.half -/
noncomputable def cells0 : List Value := (E2.flatV Tryz.prog 10 24 Rows.laid_tactus_item_half).getD []
theorem flat0 : E2.flatV Tryz.prog 10 24 Rows.laid_tactus_item_half = some cells0 := by kernel_rfl
theorem some0 : cells0 ≠ [] := by
  intro h
  have : cells0.isEmpty = false := by kernel_rfl
  rw [h] at this
  cases this
theorem named0 : Tryz.prog.globalNamed "tactus/item.half" = some 0 := by kernel_rfl
theorem typed0 : (Tryz.prog.globals[0]?).map (·.type) = some 24 := by kernel_rfl
theorem row0 : ((((begin Tryz.prog (fun _ _ => 0) default).world).heap[0]?).bind Obj.row?).map (·.2) = some 24 := by kernel_rfl
theorem listed0 : ("tactus/item.half", Rows.laid_tactus_item_half) ∈ Rows.eventKnownRow.laid := by
  exact List.mem_of_getElem? (i := 4) rfl
theorem heap0 {W : World} (hL : laidMet Tryz.prog Rows.eventKnownRow.laid W) (hsh : W.ShapedOpen Tryz.prog) : W.heap[0]? = some (.cells cells0.toArray 24 (0, 0)) := by
  obtain ⟨ps, h1, _, h2⟩ := hL
  obtain ⟨t', h3⟩ := E2.laid_cells h1 (fun b off hb => (h2 b off hb).1) (name := "tactus/item.half") (d := Rows.laid_tactus_item_half) listed0 named0 typed0 flat0 some0
  have h4 := row0
  obtain ⟨⟨zero, t⟩, h5, h6⟩ := Option.map_eq_some_iff.1 h4
  simp only at h6
  subst h6
  obtain ⟨cs, h7, _⟩ := hsh.1 0 zero 24 (by rw [globals]; decide) h5
  have h9 := cells_type (h3.symm.trans h7)
  rw [h9] at h3
  exact h3

/-! ### tactus/sign.uses -/
noncomputable def cells1 : List Value := (E2.flatV Tryz.prog 10 265 Rows.laid_tactus_sign_uses).getD []
theorem flat1 : E2.flatV Tryz.prog 10 265 Rows.laid_tactus_sign_uses = some cells1 := by kernel_rfl
theorem some1 : cells1 ≠ [] := by
  intro h
  have : cells1.isEmpty = false := by kernel_rfl
  rw [h] at this
  cases this
theorem named1 : Tryz.prog.globalNamed "tactus/sign.uses" = some 1 := by kernel_rfl
theorem typed1 : (Tryz.prog.globals[1]?).map (·.type) = some 265 := by kernel_rfl
theorem row1 : ((((begin Tryz.prog (fun _ _ => 0) default).world).heap[1]?).bind Obj.row?).map (·.2) = some 265 := by kernel_rfl
theorem listed1 : ("tactus/sign.uses", Rows.laid_tactus_sign_uses) ∈ Rows.eventKnownRow.laid := by
  exact List.mem_of_getElem? (i := 5) rfl
theorem heap1 {W : World} (hL : laidMet Tryz.prog Rows.eventKnownRow.laid W) (hsh : W.ShapedOpen Tryz.prog) : W.heap[1]? = some (.cells cells1.toArray 265 (0, 0)) := by
  obtain ⟨ps, h1, _, h2⟩ := hL
  obtain ⟨t', h3⟩ := E2.laid_cells h1 (fun b off hb => (h2 b off hb).1) (name := "tactus/sign.uses") (d := Rows.laid_tactus_sign_uses) listed1 named1 typed1 flat1 some1
  have h4 := row1
  obtain ⟨⟨zero, t⟩, h5, h6⟩ := Option.map_eq_some_iff.1 h4
  simp only at h6
  subst h6
  obtain ⟨cs, h7, _⟩ := hsh.1 1 zero 265 (by rw [globals]; decide) h5
  have h9 := cells_type (h3.symm.trans h7)
  rw [h9] at h3
  exact h3

/-! ### internal/strconv.uint64pow10 -/
noncomputable def cells2 : List Value := (E2.flatV Tryz.prog 10 274 Rows.laid_internal_strconv_uint64pow10).getD []
theorem flat2 : E2.flatV Tryz.prog 10 274 Rows.laid_internal_strconv_uint64pow10 = some cells2 := by kernel_rfl
theorem some2 : cells2 ≠ [] := by
  intro h
  have : cells2.isEmpty = false := by kernel_rfl
  rw [h] at this
  cases this
theorem named2 : Tryz.prog.globalNamed "internal/strconv.uint64pow10" = some 2 := by kernel_rfl
theorem typed2 : (Tryz.prog.globals[2]?).map (·.type) = some 274 := by kernel_rfl
theorem row2 : ((((begin Tryz.prog (fun _ _ => 0) default).world).heap[2]?).bind Obj.row?).map (·.2) = some 274 := by kernel_rfl
theorem listed2 : ("internal/strconv.uint64pow10", Rows.laid_internal_strconv_uint64pow10) ∈ Rows.eventKnownRow.laid := by
  exact List.mem_of_getElem? (i := 2) rfl
theorem heap2 {W : World} (hL : laidMet Tryz.prog Rows.eventKnownRow.laid W) (hsh : W.ShapedOpen Tryz.prog) : W.heap[2]? = some (.cells cells2.toArray 274 (0, 0)) := by
  obtain ⟨ps, h1, _, h2⟩ := hL
  obtain ⟨t', h3⟩ := E2.laid_cells h1 (fun b off hb => (h2 b off hb).1) (name := "internal/strconv.uint64pow10") (d := Rows.laid_internal_strconv_uint64pow10) listed2 named2 typed2 flat2 some2
  have h4 := row2
  obtain ⟨⟨zero, t⟩, h5, h6⟩ := Option.map_eq_some_iff.1 h4
  simp only at h6
  subst h6
  obtain ⟨cs, h7, _⟩ := hsh.1 2 zero 274 (by rw [globals]; decide) h5
  have h9 := cells_type (h3.symm.trans h7)
  rw [h9] at h3
  exact h3

/-! ### tactus/sign.classes -/
noncomputable def cells3 : List Value := (E2.flatV Tryz.prog 10 300 Rows.laid_tactus_sign_classes).getD []
theorem flat3 : E2.flatV Tryz.prog 10 300 Rows.laid_tactus_sign_classes = some cells3 := by kernel_rfl
theorem some3 : cells3 ≠ [] := by
  intro h
  have : cells3.isEmpty = false := by kernel_rfl
  rw [h] at this
  cases this
theorem named3 : Tryz.prog.globalNamed "tactus/sign.classes" = some 3 := by kernel_rfl
theorem typed3 : (Tryz.prog.globals[3]?).map (·.type) = some 300 := by kernel_rfl
theorem row3 : ((((begin Tryz.prog (fun _ _ => 0) default).world).heap[3]?).bind Obj.row?).map (·.2) = some 300 := by kernel_rfl
theorem listed3 : ("tactus/sign.classes", Rows.laid_tactus_sign_classes) ∈ Rows.eventKnownRow.laid := by
  exact List.mem_of_getElem? (i := 6) rfl
theorem heap3 {W : World} (hL : laidMet Tryz.prog Rows.eventKnownRow.laid W) (hsh : W.ShapedOpen Tryz.prog) : W.heap[3]? = some (.cells cells3.toArray 300 (0, 0)) := by
  obtain ⟨ps, h1, _, h2⟩ := hL
  obtain ⟨t', h3⟩ := E2.laid_cells h1 (fun b off hb => (h2 b off hb).1) (name := "tactus/sign.classes") (d := Rows.laid_tactus_sign_classes) listed3 named3 typed3 flat3 some3
  have h4 := row3
  obtain ⟨⟨zero, t⟩, h5, h6⟩ := Option.map_eq_some_iff.1 h4
  simp only at h6
  subst h6
  obtain ⟨cs, h7, _⟩ := hsh.1 3 zero 300 (by rw [globals]; decide) h5
  have h9 := cells_type (h3.symm.trans h7)
  rw [h9] at h3
  exact h3

theorem abs : ∃ c0 c1 c2 c3, E2.absL 1000 cells0 = some c0 ∧ E2.absL 1000 cells1 = some c1 ∧ E2.absL 1000 cells2 = some c2 ∧ E2.absL 1000 cells3 = some c3 ∧ glob = [(0, .row c0 24 0 0 0 false), (1, .row c1 265 0 0 0 false), (2, .row c2 274 0 0 0 false), (3, .row c3 300 0 0 0 false)] := ⟨_, _, _, _, by kernel_rfl, by kernel_rfl, by kernel_rfl, by kernel_rfl, rfl⟩

/-- What the row's list says. -/
theorem start {W : World} (hL : laidMetH Tryz.prog Rows.eventKnownRow.laid W) (hsh : W.ShapedOpen Tryz.prog) : E2.Sim (E2.startH glob 9) (E2.startG glob) W := by
  have hL' : laidMet Tryz.prog Rows.eventKnownRow.laid W := by
    unfold laidMetH at hL
    rw [plainList] at hL
    exact hL
  refine E2.sim_start fun x hx => ?_
  obtain ⟨c0, c1, c2, c3, h0, h1, h2, h3, hg⟩ := abs
  rw [hg] at hx
  simp only [List.mem_cons, List.mem_nil_iff, or_false] at hx
  rcases hx with rfl | rfl | rfl | rfl
  · exact ⟨(show (0 : Nat) < 9 by decide), c0, 24, cells0, rfl, h0, heap0 hL' hsh⟩
  · exact ⟨(show (1 : Nat) < 9 by decide), c1, 265, cells1, rfl, h1, heap1 hL' hsh⟩
  · exact ⟨(show (2 : Nat) < 9 by decide), c2, 274, cells2, rfl, h2, heap2 hL' hsh⟩
  · exact ⟨(show (3 : Nat) < 9 by decide), c3, 300, cells3, rfl, h3, heap3 hL' hsh⟩

theorem low : ∀ x ∈ glob, x.1 < 9 := by
  intro x hx
  obtain ⟨_, _, _, _, _, _, _, _, hg⟩ := abs
  rw [hg] at hx
  simp only [List.mem_cons, List.mem_nil_iff, or_false] at hx
  rcases hx with rfl | rfl | rfl | rfl
  · exact (show (0 : Nat) < 9 by decide)
  · exact (show (1 : Nat) < 9 by decide)
  · exact (show (2 : Nat) < 9 by decide)
  · exact (show (3 : Nat) < 9 by decide)

theorem body : ∃ c, Tryz.f4.body = some c := ⟨_, rfl⟩

theorem contract (H : Type) (enc : TypeId × Value → H) (W : World) (args : Array Value) (ds gs : List (DataW H)) (before : List MemPlace)
    (hW : DataW.Whole enc Tryz.prog Tryz.f4.params.toList Rows.eventKnownSpec.vars false W args.toList ds gs before) (hL : laidMetH Tryz.prog Rows.eventKnownRow.laid W) (hsh : W.ShapedOpen Tryz.prog) :
    Calls Tryz.prog 4 args W fun e W' => ∃ v, e = .returned v ∧ Rows.eventKnownSpec.post enc Tryz.prog Tryz.f4 false true false false W args v W' := by
  have hW' := hW
  obtain ⟨p, q, hA0, _⟩ := hW
  have hA : DataW.TrodAll enc Tryz.prog W 0 (fun _ => true) true Tryz.f4.params.toList args.toList ds p := hA0
  rw [Tryz.params4] at hA
  obtain ⟨ha, _, _⟩ := trodAll_nil hA
  obtain rfl : args = #[] := by apply Array.ext'; simpa using ha
  obtain ⟨c, hc⟩ := body
  refine (E2.runsTrueR_calls Tryz.checked.mixed tables goods Tryz.func4 (by kernel_rfl) hc (start hL hsh) run).mono fun e W' ⟨he, G', hx⟩ => ?_
  subst he
  exact ⟨_, rfl, E2.post_true (t := 4) hW' rfl rfl rfl Tryz.underlying4 rfl (fun may => hx.keptBut (E2.startG_lt (ng := 9) low) may)⟩

/-- A WORLD FOR THE WITNESS: the settled one, the tables as their initialisers lay them. -/
def flatD : Nat → DataW Unit → List Value
  | n + 1, .agg l => l.flatMap (flatD n)
  | _ + 1, .lit (.int k i) => [.int k i]
  | _ + 1, .lit (.bool b) => [.bool b]
  | _ + 1, .lit (.string s) => [.string ⟨s.toArray⟩]
  | _, _ => []
def lay (g : Nat) (cs : List Value) (heap : Array Obj) : Array Obj :=
  heap.modify g fun
    | .cells _ t frozen => .cells cs.toArray t frozen
    | o => o
noncomputable def laidWorld (os : Os) : World :=
  { World.holding Tryz.prog os ⟨#[], #[], []⟩ with heap := lay 8 (flatD 8 Rows.laid_math_bits_deBruijn64tab) (lay 7 (flatD 8 Rows.laid_math_bits_deBruijn32tab) (lay 6 (flatD 8 Rows.laid_unicode_utf8_acceptRanges) (lay 5 (flatD 8 Rows.laid_unicode_utf8_first) (lay 3 (flatD 8 Rows.laid_tactus_sign_classes) (lay 2 (flatD 8 Rows.laid_internal_strconv_uint64pow10) (lay 1 (flatD 8 Rows.laid_tactus_sign_uses) (lay 0 (flatD 8 Rows.laid_tactus_item_half) (World.holding Tryz.prog os ⟨#[], #[], []⟩).heap))))))) }
theorem laid_met (os : Os) : laidMet Tryz.prog Rows.eventKnownRow.laid ((laidWorld os).forCall (fun _ _ => 0) ⟨#[], #[], []⟩).memory :=
  laidMet_of_run' 8 (by kernel_rfl) (by kernel_rfl)
theorem reads (os : Os) {H : Type} (enc : TypeId × Value → H) : ∃ places, DataW.whole enc Tryz.prog ((laidWorld os).forCall (fun _ _ => 0) ⟨#[], #[], []⟩).memory Tryz.f4.params.toList Rows.eventKnownSpec.vars false (#[] : Array Value).toList 8 = some ([], [], places) :=
  ⟨[], by kernel_rfl⟩

set_option maxRecDepth 100000 in
theorem lifted (os : Os) (started : os.Started) (H : Type) (enc : TypeId × Value → H) (F : Stop.Interp) :
    ReturnsInHanded {} Tryz.checked os 4 .any ((OpenSpec.ofChange Rows.eventKnownSpec).preRow enc Tryz.prog Tryz.f4 Rows.eventKnownRow.domain false Rows.eventKnownRow.laid) (((OpenSpec.ofChange Rows.eventKnownSpec).at F).post enc Tryz.prog Tryz.f4 false true false false) := by
  obtain ⟨places, hx⟩ := reads os enc
  refine returnsInHanded_of_row (C := Tryz.checked) (s := OpenSpec.ofChange Rows.eventKnownSpec) own started (by kernel_rfl) Tryz.func4
    (witness_row_at (enc := enc) (C := Tryz.checked) false (laidWorld os) #[] rfl (by kernel_rfl) (by kernel_rfl) (by kernel_rfl)
      (OpenSpec.preRow_of_cond 8 hx (by kernel_rfl) (fun k hk => by cases hk) (by kernel_rfl) (laid_met os))) ?_
  intro W base args ds gs before hval hW _ _ _ hL hsh _
  exact contract H enc W args ds gs before hW hL hsh

theorem said : Rows.EventKnownSaid :=
  OpenClaim.holds_of_cond 4 Tryz.f4 rfl rfl rfl rfl rfl rfl rfl ⟨rfl, rfl, rfl, rfl, rfl⟩ rfl rfl rfl rfl rfl (by kernel_rfl) Tryz.func4 (by kernel_rfl)
    (of_decide_eq_true (by kernel_rfl)) (by unfold Func.isWrapper; first | (rw [if_pos (by decide +kernel)]; kernel_rfl) | (rw [if_neg (by decide +kernel)]; exact ⟨rfl, rfl⟩))
    (fun os started H enc _ F => by rw [OpenClaim.pre_eq_preRow]; exact lifted os started H enc F)

/-- No parameter wants a stand-in; the program's own looks are off. -/
theorem plain (f : FuncId) (fn : Func) (hf : Tryz.pinned.checked.prog.funcNamed "tactus/tactuslaw21.EventKnown" = some f) (hfn : Tryz.pinned.checked.prog.funcs[f]? = some fn) :
    true = Tryz.pinned.checked.prog.looks [] ∧ ∀ (j : Nat) t, fn.params[j]? = some t → Tryz.pinned.checked.prog.wantsStandIn t = false := by
  obtain rfl : f = 4 := Option.some.inj ((show Tryz.prog.funcNamed "tactus/tactuslaw21.EventKnown" = some 4 by kernel_rfl).symm.trans hf) |>.symm
  obtain rfl : fn = Tryz.f4 := (Option.some.inj (Tryz.func4.symm.trans hfn)).symm
  refine ⟨by kernel_rfl, fun j t ht => ?_⟩
  rw [Tryz.params4] at ht
  simp at ht

/-- THE CARD. -/
theorem card : Rows.EventKnownCardSaid :=
  Claim7.holds_tied_plain_at .later [] _ _ _ _ said (fun _ h => by cases h) (by kernel_rfl) (fun _ h => by cases h) eventKnown_row_tie rfl ⟨rfl, rfl⟩ (by kernel_rfl) rfl plain (by kernel_rfl)
#print axioms card
end Go.Proofs.YtjbefleabibmmaaGreatDoor.eventKnown
