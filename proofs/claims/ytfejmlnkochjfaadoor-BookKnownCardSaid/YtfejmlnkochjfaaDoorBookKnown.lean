/- THE LAW BookKnown of the chapter 39: the call returns true and nothing that was there before it is turned. No condition beyond its row's own: the listed variable (the fields of each kind of sign) reads as the program's text lays it. -/
import Derived.Test.YtfejmlnkochjfaaDoorCards
import Derived.Test.YtfejmlnkochjfaaDoorTie
import Derived.Test.YtfejmlnkochjfaaDoorBookKnownRun
import Derived.WalkKit
import Derived.ProofKit
import Derived.OpenShut
import Derived.Deep.DeepHandedRow
namespace Go.Proofs.YtfejmlnkochjfaaDoor.bookKnown
open Go.ChangeShapes Go.WideShapes Go.ChangeAt Go.RowKit

theorem own : ownKnob Tryd.prog.godebug = none := by kernel_rfl

/-- What the listed variable's cells are. -/
noncomputable def cells0 : List Value := (E2.flatV Tryd.prog 10 82 Rows.laid_tactus_sign_uses).getD []
theorem flat0 : E2.flatV Tryd.prog 10 82 Rows.laid_tactus_sign_uses = some cells0 := by kernel_rfl
theorem abs0 : ∃ cells, E2.absL 1000 cells0 = some cells ∧ glob = [(0, .row cells 82 0 0 0 false)] := ⟨_, by kernel_rfl, rfl⟩
theorem some0 : cells0 ≠ [] := by
  intro h
  have : cells0.isEmpty = false := by kernel_rfl
  rw [h] at this
  cases this
theorem named0 : Tryd.prog.globalNamed "tactus/sign.uses" = some 0 := by kernel_rfl
theorem typed0 : (Tryd.prog.globals[0]?).map (·.type) = some 82 := by kernel_rfl
theorem row0 : ((((begin Tryd.prog (fun _ _ => 0) default).world).heap[0]?).bind Obj.row?).map (·.2) = some 82 := by kernel_rfl
theorem size0 : Tryd.prog.globals.size = 1 := by kernel_rfl
theorem plainList : (Rows.bookKnownRow.laid.filter fun x => x.2.handleName?.isSome) = [] := by kernel_rfl

/-- What the row's list says. -/
theorem start {W : World} (hL : laidMetH Tryd.prog Rows.bookKnownRow.laid W) (hsh : W.ShapedOpen Tryd.prog) : E2.Sim (E2.startH glob 1) (E2.startG glob) W := by
  refine E2.sim_start fun x hx => ?_
  obtain ⟨cells, ha, hg⟩ := abs0
  rw [hg, List.mem_singleton] at hx
  subst hx
  refine ⟨Nat.zero_lt_one, cells, 82, cells0, rfl, ha, ?_⟩
  have hL' : laidMet Tryd.prog Rows.bookKnownRow.laid W := by
    unfold laidMetH at hL
    rw [plainList] at hL
    exact hL
  obtain ⟨ps, h1, _, h2⟩ := hL'
  obtain ⟨t', h3⟩ := E2.laid_cells h1 (fun b off hb => (h2 b off hb).1) (name := "tactus/sign.uses") (d := Rows.laid_tactus_sign_uses) List.mem_cons_self named0 typed0 flat0 some0
  have h4 := row0
  obtain ⟨⟨zero, t⟩, h5, h6⟩ := Option.map_eq_some_iff.1 h4
  simp only at h6
  subst h6
  obtain ⟨cs, h7, _⟩ := hsh.1 0 zero 82 (by rw [size0]; exact Nat.zero_lt_one) h5
  rw [h3] at h7
  cases h7
  exact h3

theorem body : ∃ c, Tryd.f3.body = some c := ⟨_, rfl⟩

theorem contract (H : Type) (enc : TypeId × Value → H) (W : World) (args : Array Value) (ds gs : List (DataW H)) (before : List MemPlace)
    (hW : DataW.Whole enc Tryd.prog Tryd.f3.params.toList Rows.bookKnownSpec.vars false W args.toList ds gs before) (hL : laidMetH Tryd.prog Rows.bookKnownRow.laid W) (hsh : W.ShapedOpen Tryd.prog) :
    Calls Tryd.prog 3 args W fun e W' => ∃ v, e = .returned v ∧ Rows.bookKnownSpec.post enc Tryd.prog Tryd.f3 false true false false W args v W' := by
  have hW' := hW
  obtain ⟨p, q, hA0, _⟩ := hW
  have hA : DataW.TrodAll enc Tryd.prog W 0 (fun _ => true) true Tryd.f3.params.toList args.toList ds p := hA0
  rw [Tryd.params3] at hA
  obtain ⟨ha, _, _⟩ := trodAll_nil hA
  obtain rfl : args = #[] := by apply Array.ext'; simpa using ha
  obtain ⟨c, hc⟩ := body
  refine (E2.runsTrueOn_calls Tryd.checked.mixed tables goods Tryd.func3 (by kernel_rfl) hc (start hL hsh) run).mono fun e W' ⟨he, G', hx⟩ => ?_
  subst he
  exact ⟨_, rfl, E2.post_true (t := 4) hW' rfl rfl rfl Tryd.underlying4 rfl (fun may => hx.keptBut (E2.startG_lt (ng := 1) (fun x h => by
    obtain ⟨cells, _, hg⟩ := abs0
    rw [hg, List.mem_singleton] at h
    subst h
    exact Nat.zero_lt_one)) may)⟩

/-- A WORLD FOR THE WITNESS: the settled one, the table as its initialiser lays it. -/
def lay (g : Nat) (cs : List Value) (heap : Array Obj) : Array Obj :=
  heap.modify g fun
    | .cells _ t frozen => .cells cs.toArray t frozen
    | o => o
noncomputable def laidWorld (os : Os) : World :=
  { World.holding Tryd.prog os ⟨#[], #[], []⟩ with heap := lay 0 cells0 (World.holding Tryd.prog os ⟨#[], #[], []⟩).heap }
theorem laid_met (os : Os) : laidMet Tryd.prog Rows.bookKnownRow.laid ((laidWorld os).forCall (fun _ _ => 0) ⟨#[], #[], []⟩).memory :=
  laidMet_of_run' 8 (by kernel_rfl) (by kernel_rfl)
theorem reads (os : Os) {H : Type} (enc : TypeId × Value → H) : ∃ places, DataW.whole enc Tryd.prog ((laidWorld os).forCall (fun _ _ => 0) ⟨#[], #[], []⟩).memory Tryd.f3.params.toList Rows.bookKnownSpec.vars false (#[] : Array Value).toList 8 = some ([], [], places) :=
  ⟨[], by kernel_rfl⟩

set_option maxRecDepth 100000 in
theorem lifted (os : Os) (started : os.Started) (H : Type) (enc : TypeId × Value → H) (F : Stop.Interp) :
    ReturnsInHanded {} Tryd.checked os 3 .any ((OpenSpec.ofChange Rows.bookKnownSpec).preRow enc Tryd.prog Tryd.f3 Rows.bookKnownRow.domain false Rows.bookKnownRow.laid) (((OpenSpec.ofChange Rows.bookKnownSpec).at F).post enc Tryd.prog Tryd.f3 false true false false) := by
  obtain ⟨places, hx⟩ := reads os enc
  refine returnsInHanded_of_row (C := Tryd.checked) (s := OpenSpec.ofChange Rows.bookKnownSpec) own started (by kernel_rfl) Tryd.func3
    (witness_row_at (enc := enc) (C := Tryd.checked) false (laidWorld os) #[] rfl (by kernel_rfl) (by kernel_rfl) (by kernel_rfl)
      (OpenSpec.preRow_of_cond 8 hx (by kernel_rfl) (fun k hk => by cases hk) (by kernel_rfl) (laid_met os))) ?_
  intro W base args ds gs before hval hW _ _ _ hL hsh _
  exact contract H enc W args ds gs before hW hL hsh

theorem said : Rows.BookKnownSaid :=
  OpenClaim.holds_of_cond 3 Tryd.f3 rfl rfl rfl rfl rfl rfl rfl ⟨rfl, rfl, rfl, rfl, rfl⟩ rfl rfl rfl rfl rfl (by kernel_rfl) Tryd.func3 (by kernel_rfl)
    (of_decide_eq_true (by kernel_rfl)) (by unfold Func.isWrapper; first | (rw [if_pos (by decide +kernel)]; kernel_rfl) | (rw [if_neg (by decide +kernel)]; exact ⟨rfl, rfl⟩))
    (fun os started H enc _ F => by rw [OpenClaim.pre_eq_preRow]; exact lifted os started H enc F)

/-- No parameter wants a stand-in; the program's own looks are off. -/
theorem plain (f : FuncId) (fn : Func) (hf : Tryd.pinned.checked.prog.funcNamed "tactus/tactuslaw39.BookKnown" = some f) (hfn : Tryd.pinned.checked.prog.funcs[f]? = some fn) :
    false = Tryd.pinned.checked.prog.looks [] ∧ ∀ (j : Nat) t, fn.params[j]? = some t → Tryd.pinned.checked.prog.wantsStandIn t = false := by
  obtain rfl : f = 3 := Option.some.inj ((show Tryd.prog.funcNamed "tactus/tactuslaw39.BookKnown" = some 3 by kernel_rfl).symm.trans hf) |>.symm
  obtain rfl : fn = Tryd.f3 := (Option.some.inj (Tryd.func3.symm.trans hfn)).symm
  refine ⟨by kernel_rfl, fun j t ht => ?_⟩
  rw [Tryd.params3] at ht
  simp at ht

/-- THE CARD. -/
theorem card : Rows.BookKnownCardSaid :=
  Claim7.holds_tied_plain_at .later [] _ _ _ _ said (fun _ h => by cases h) (by kernel_rfl) (fun _ h => by cases h) bookKnown_row_tie rfl ⟨rfl, rfl⟩ (by kernel_rfl) rfl plain (by kernel_rfl)
#print axioms card
end Go.Proofs.YtfejmlnkochjfaaDoor.bookKnown
