/- THE LAW ChoirNone of the chapter 41: the call returns true whatever the argument and nothing that was there before it is turned. No condition beyond its row's own: the listed variables read as the program's text lays them. -/
import Derived.Test.YtnhamonadkmgeaaGreatDoorCards
import Derived.Test.YtnhamonadkmgeaaGreatDoorTie
import Derived.Test.YtnhamonadkmgeaaGreatDoorChoirNoneRun
import Derived.WalkKit
import Derived.ProofKit
import Derived.OpenShut
import Derived.Test.YtnhamonadkmgeaaGreatDoorE2y
import Derived.Deep.DeepHandedRow
namespace Go.Proofs.YtnhamonadkmgeaaGreatDoor.choirNone
open Go.Proofs.YtnhamonadkmgeaaGreatDoor.choirKnown (tables glob)
set_option maxRecDepth 100000
open Go.ChangeShapes Go.WideShapes Go.ChangeAt Go.RowKit

theorem cells_type {a b : Array Value} {t t' : TypeId} {f f' : Nat × Nat} (h : some (Obj.cells a t f) = some (Obj.cells b t' f')) : t = t' := by
  cases h
  rfl
theorem own : ownKnob Tryz.prog.godebug = none := by kernel_rfl
theorem globals : Tryz.prog.globals.size = 3 := by kernel_rfl
theorem plainList : (Rows.choirNoneRow.laid.filter fun x => x.2.handleName?.isSome) = [] := by kernel_rfl

/-! ### tactus/sign.uses -/
noncomputable def cells0 : List Value := (E2.flatV Tryz.prog 10 258 Rows.laid_tactus_sign_uses).getD []
theorem flat0 : E2.flatV Tryz.prog 10 258 Rows.laid_tactus_sign_uses = some cells0 := by kernel_rfl
theorem some0 : cells0 ≠ [] := by
  intro h
  have : cells0.isEmpty = false := by kernel_rfl
  rw [h] at this
  cases this
theorem named0 : Tryz.prog.globalNamed "tactus/sign.uses" = some 0 := by kernel_rfl
theorem typed0 : (Tryz.prog.globals[0]?).map (·.type) = some 258 := by kernel_rfl
theorem row0 : ((((begin Tryz.prog (fun _ _ => 0) default).world).heap[0]?).bind Obj.row?).map (·.2) = some 258 := by kernel_rfl
theorem listed0 : ("tactus/sign.uses", Rows.laid_tactus_sign_uses) ∈ Rows.choirNoneRow.laid := by
  exact List.mem_of_getElem? (i := 1) rfl
theorem heap0 {W : World} (hL : laidMet Tryz.prog Rows.choirNoneRow.laid W) (hsh : W.ShapedOpen Tryz.prog) : W.heap[0]? = some (.cells cells0.toArray 258 (0, 0)) := by
  obtain ⟨ps, h1, _, h2⟩ := hL
  obtain ⟨t', h3⟩ := E2.laid_cells h1 (fun b off hb => (h2 b off hb).1) (name := "tactus/sign.uses") (d := Rows.laid_tactus_sign_uses) listed0 named0 typed0 flat0 some0
  have h4 := row0
  obtain ⟨⟨zero, t⟩, h5, h6⟩ := Option.map_eq_some_iff.1 h4
  simp only at h6
  subst h6
  obtain ⟨cs, h7, _⟩ := hsh.1 0 zero 258 (by rw [globals]; decide) h5
  have h9 := cells_type (h3.symm.trans h7)
  rw [h9] at h3
  exact h3

/-! ### tactus/item.half -/
noncomputable def cells1 : List Value := (E2.flatV Tryz.prog 10 30 Rows.laid_tactus_item_half).getD []
theorem flat1 : E2.flatV Tryz.prog 10 30 Rows.laid_tactus_item_half = some cells1 := by kernel_rfl
theorem some1 : cells1 ≠ [] := by
  intro h
  have : cells1.isEmpty = false := by kernel_rfl
  rw [h] at this
  cases this
theorem named1 : Tryz.prog.globalNamed "tactus/item.half" = some 1 := by kernel_rfl
theorem typed1 : (Tryz.prog.globals[1]?).map (·.type) = some 30 := by kernel_rfl
theorem row1 : ((((begin Tryz.prog (fun _ _ => 0) default).world).heap[1]?).bind Obj.row?).map (·.2) = some 30 := by kernel_rfl
theorem listed1 : ("tactus/item.half", Rows.laid_tactus_item_half) ∈ Rows.choirNoneRow.laid := by
  exact List.mem_of_getElem? (i := 0) rfl
theorem heap1 {W : World} (hL : laidMet Tryz.prog Rows.choirNoneRow.laid W) (hsh : W.ShapedOpen Tryz.prog) : W.heap[1]? = some (.cells cells1.toArray 30 (0, 0)) := by
  obtain ⟨ps, h1, _, h2⟩ := hL
  obtain ⟨t', h3⟩ := E2.laid_cells h1 (fun b off hb => (h2 b off hb).1) (name := "tactus/item.half") (d := Rows.laid_tactus_item_half) listed1 named1 typed1 flat1 some1
  have h4 := row1
  obtain ⟨⟨zero, t⟩, h5, h6⟩ := Option.map_eq_some_iff.1 h4
  simp only at h6
  subst h6
  obtain ⟨cs, h7, _⟩ := hsh.1 1 zero 30 (by rw [globals]; decide) h5
  have h9 := cells_type (h3.symm.trans h7)
  rw [h9] at h3
  exact h3

/-! ### tactus/sign.classes -/
noncomputable def cells2 : List Value := (E2.flatV Tryz.prog 10 314 Rows.laid_tactus_sign_classes).getD []
theorem flat2 : E2.flatV Tryz.prog 10 314 Rows.laid_tactus_sign_classes = some cells2 := by kernel_rfl
theorem some2 : cells2 ≠ [] := by
  intro h
  have : cells2.isEmpty = false := by kernel_rfl
  rw [h] at this
  cases this
theorem named2 : Tryz.prog.globalNamed "tactus/sign.classes" = some 2 := by kernel_rfl
theorem typed2 : (Tryz.prog.globals[2]?).map (·.type) = some 314 := by kernel_rfl
theorem row2 : ((((begin Tryz.prog (fun _ _ => 0) default).world).heap[2]?).bind Obj.row?).map (·.2) = some 314 := by kernel_rfl
theorem listed2 : ("tactus/sign.classes", Rows.laid_tactus_sign_classes) ∈ Rows.choirNoneRow.laid := by
  exact List.mem_of_getElem? (i := 2) rfl
theorem heap2 {W : World} (hL : laidMet Tryz.prog Rows.choirNoneRow.laid W) (hsh : W.ShapedOpen Tryz.prog) : W.heap[2]? = some (.cells cells2.toArray 314 (0, 0)) := by
  obtain ⟨ps, h1, _, h2⟩ := hL
  obtain ⟨t', h3⟩ := E2.laid_cells h1 (fun b off hb => (h2 b off hb).1) (name := "tactus/sign.classes") (d := Rows.laid_tactus_sign_classes) listed2 named2 typed2 flat2 some2
  have h4 := row2
  obtain ⟨⟨zero, t⟩, h5, h6⟩ := Option.map_eq_some_iff.1 h4
  simp only at h6
  subst h6
  obtain ⟨cs, h7, _⟩ := hsh.1 2 zero 314 (by rw [globals]; decide) h5
  have h9 := cells_type (h3.symm.trans h7)
  rw [h9] at h3
  exact h3

theorem abs : ∃ c0 c1 c2, E2.absL 1000 cells0 = some c0 ∧ E2.absL 1000 cells1 = some c1 ∧ E2.absL 1000 cells2 = some c2 ∧ glob = [(0, .row c0 258 0 0 0 false), (1, .row c1 30 0 0 0 false), (2, .row c2 314 0 0 0 false)] := ⟨_, _, _, by kernel_rfl, by kernel_rfl, by kernel_rfl, rfl⟩

/-- What the row's list says. -/
theorem start {W : World} (hL : laidMetH Tryz.prog Rows.choirNoneRow.laid W) (hsh : W.ShapedOpen Tryz.prog) : E2.Sim (E2.startH glob 3) (E2.startG glob) W := by
  have hL' : laidMet Tryz.prog Rows.choirNoneRow.laid W := by
    unfold laidMetH at hL
    rw [plainList] at hL
    exact hL
  refine E2.sim_start fun x hx => ?_
  obtain ⟨c0, c1, c2, h0, h1, h2, hg⟩ := abs
  rw [hg] at hx
  simp only [List.mem_cons, List.mem_nil_iff, or_false] at hx
  rcases hx with rfl | rfl | rfl
  · exact ⟨(show (0 : Nat) < 3 by decide), c0, 258, cells0, rfl, h0, heap0 hL' hsh⟩
  · exact ⟨(show (1 : Nat) < 3 by decide), c1, 30, cells1, rfl, h1, heap1 hL' hsh⟩
  · exact ⟨(show (2 : Nat) < 3 by decide), c2, 314, cells2, rfl, h2, heap2 hL' hsh⟩

theorem low : ∀ x ∈ glob, x.1 < 3 := by
  intro x hx
  obtain ⟨_, _, _, _, _, _, hg⟩ := abs
  rw [hg] at hx
  simp only [List.mem_cons, List.mem_nil_iff, or_false] at hx
  rcases hx with rfl | rfl | rfl
  · exact (show (0 : Nat) < 3 by decide)
  · exact (show (1 : Nat) < 3 by decide)
  · exact (show (2 : Nat) < 3 by decide)

theorem body : ∃ c, Tryz.f4.body = some c := ⟨_, rfl⟩


theorem contract (H : Type) (enc : TypeId × Value → H) (W : World) (base : Nat) (args : Array Value) (ds gs : List (DataW H)) (before : List MemPlace)
    (hval : ∀ (j : Nat) t v, Tryz.f4.params[j]? = some t → args[j]? = some v → Value.okWide Tryz.prog W .any base t v)
    (hW : DataW.Whole enc Tryz.prog Tryz.f4.params.toList Rows.choirNoneSpec.vars false W args.toList ds gs before) (hL : laidMetH Tryz.prog Rows.choirNoneRow.laid W) (hsh : W.ShapedOpen Tryz.prog) :
    Calls Tryz.prog 4 args W fun e W' => ∃ v, e = .returned v ∧ Rows.choirNoneSpec.post enc Tryz.prog Tryz.f4 false true false false W args v W' := by
  have hW' := hW
  obtain ⟨p, q, hA0, _⟩ := hW
  have hA : DataW.TrodAll enc Tryz.prog W 0 (fun _ => true) true Tryz.f4.params.toList args.toList ds p := hA0
  rw [Tryz.params4] at hA hval
  obtain ⟨v1, d1, ha, rfl, h1⟩ := trodAll_one hA
  subst ha
  obtain ⟨n, m, rfl, rfl, hn, hm⟩ := E2.open_pair Tryz.underlying30 (by kernel_rfl) Tryz.underlying3 Tryz.underlying3 (by kernel_rfl) (by kernel_rfl) rfl rfl (hval 0 30 v1 rfl rfl) h1
  obtain ⟨cd, hcd⟩ := body
  have hrel : E2.RelL (E2.startG glob) W [.agg [.int .i64 n, .int .i64 m]] (#[Value.agg #[.int .i64 n, .int .i64 m]] : Array Value).toList := by
    simp [E2.RelL, E2.Rel]
  refine (E2.runsTrueA_calls Tryz.checked.mixed tables goods Tryz.func4 (by kernel_rfl) hcd (start hL hsh) hrel (run n m)).mono fun e W' ⟨he, G', hx⟩ => ?_
  subst he
  refine ⟨_, rfl, E2.post_true_args (t := 4) hW' rfl rfl Tryz.underlying4 rfl (fun sp => ⟨[] ++ [], ?_⟩) (fun may => hx.keptBut (E2.startG_lt (ng := 3) low) may)⟩
  rw [Tryz.params4]
  exact trodAll_mk1 (E2.shut_pair Tryz.underlying30 (by kernel_rfl) Tryz.underlying3 Tryz.underlying3 (by kernel_rfl) (by kernel_rfl) rfl rfl hn hm)

/-- A WORLD FOR THE WITNESS: the settled one, the tables as their initialisers lay them. -/
def flatD : Nat → DataW Unit → List Value
  | n + 1, .agg l => l.flatMap (flatD n)
  | _ + 1, .lit (.int k i) => [.int k i]
  | _ + 1, .lit (.bool b) => [.bool b]
  | _ + 1, .lit (.string s) => [.string ⟨s.toArray⟩]
  | _, _ => []
def lay (g : Nat) (cs : List Value) (heap : Array Obj) : Array Obj :=
  heap.modify g fun
    | .cells _ t frozen => .cells cs.toArray t frozen
    | o => o
def wit : Array Value := #[.agg #[.int .i64 0, .int .i64 0]]
noncomputable def laidWorld (os : Os) : World :=
  { World.holding Tryz.prog os ⟨#[], wit, []⟩ with heap := lay 2 (flatD 8 Rows.laid_tactus_sign_classes) (lay 1 (flatD 8 Rows.laid_tactus_item_half) (lay 0 (flatD 8 Rows.laid_tactus_sign_uses) (World.holding Tryz.prog os ⟨#[], wit, []⟩).heap)) }
theorem laid_met (os : Os) : laidMet Tryz.prog Rows.choirNoneRow.laid ((laidWorld os).forCall (fun _ _ => 0) ⟨#[], wit, []⟩).memory :=
  laidMet_of_run' 8 (by kernel_rfl) (by kernel_rfl)
theorem reads (os : Os) {H : Type} (enc : TypeId × Value → H) : ∃ places, DataW.whole enc Tryz.prog ((laidWorld os).forCall (fun _ _ => 0) ⟨#[], wit, []⟩).memory Tryz.f4.params.toList Rows.choirNoneSpec.vars false wit.toList 8 = some ([.agg [.lit (.int .i64 0), .lit (.int .i64 0)]], [], places) :=
  ⟨[], by kernel_rfl⟩

set_option maxRecDepth 100000 in
theorem lifted (os : Os) (started : os.Started) (H : Type) (enc : TypeId × Value → H) (F : Stop.Interp) :
    ReturnsInHanded {} Tryz.checked os 4 .any ((OpenSpec.ofChange Rows.choirNoneSpec).preRow enc Tryz.prog Tryz.f4 Rows.choirNoneRow.domain false Rows.choirNoneRow.laid) (((OpenSpec.ofChange Rows.choirNoneSpec).at F).post enc Tryz.prog Tryz.f4 false true false false) := by
  obtain ⟨places, hx⟩ := reads os enc
  refine returnsInHanded_of_row (C := Tryz.checked) (s := OpenSpec.ofChange Rows.choirNoneSpec) own started (by kernel_rfl) Tryz.func4
    (witness_row_at (enc := enc) (C := Tryz.checked) false (laidWorld os) wit rfl (by kernel_rfl) (by kernel_rfl) (by kernel_rfl)
      (OpenSpec.preRow_of_cond 8 hx (by kernel_rfl) (fun k hk => by cases hk) (by kernel_rfl) (laid_met os))) ?_
  intro W base args ds gs before hval hW _ _ _ hL hsh _
  exact contract H enc W base args ds gs before hval hW hL hsh

theorem said : Rows.ChoirNoneSaid :=
  OpenClaim.holds_of_cond 4 Tryz.f4 rfl rfl rfl rfl rfl rfl rfl ⟨rfl, rfl, rfl, rfl, rfl⟩ rfl rfl rfl rfl rfl (by kernel_rfl) Tryz.func4 (by kernel_rfl)
    (of_decide_eq_true (by kernel_rfl)) (by unfold Func.isWrapper; first | (rw [if_pos (by decide +kernel)]; kernel_rfl) | (rw [if_neg (by decide +kernel)]; exact ⟨rfl, rfl⟩))
    (fun os started H enc _ F => by rw [OpenClaim.pre_eq_preRow]; exact lifted os started H enc F)

/-- No parameter wants a stand-in; the program's own looks are off. -/
theorem plain (f : FuncId) (fn : Func) (hf : Tryz.pinned.checked.prog.funcNamed "tactus/tactuslaw41.ChoirNone" = some f) (hfn : Tryz.pinned.checked.prog.funcs[f]? = some fn) :
    true = Tryz.pinned.checked.prog.looks [] ∧ ∀ (j : Nat) t, fn.params[j]? = some t → Tryz.pinned.checked.prog.wantsStandIn t = false := by
  obtain rfl : f = 4 := Option.some.inj ((show Tryz.prog.funcNamed "tactus/tactuslaw41.ChoirNone" = some 4 by kernel_rfl).symm.trans hf) |>.symm
  obtain rfl : fn = Tryz.f4 := (Option.some.inj (Tryz.func4.symm.trans hfn)).symm
  refine ⟨by kernel_rfl, fun j t ht => ?_⟩
  rw [Tryz.params4] at ht
  have hT : Tryz.pinned.checked.prog.wantsStandIn 30 = false := by kernel_rfl
  rcases j with _ | j
  · obtain rfl : 30 = t := by simpa using ht
    exact hT
  · simp at ht

/-- THE CARD. -/
theorem card : Rows.ChoirNoneCardSaid :=
  Claim7.holds_tied_plain_at .later [] _ _ _ _ said (fun _ h => by cases h) (by kernel_rfl) (fun _ h => by cases h) choirNone_row_tie rfl ⟨rfl, rfl⟩ (by kernel_rfl) rfl plain (by kernel_rfl)
#print axioms card
end Go.Proofs.YtnhamonadkmgeaaGreatDoor.choirNone
