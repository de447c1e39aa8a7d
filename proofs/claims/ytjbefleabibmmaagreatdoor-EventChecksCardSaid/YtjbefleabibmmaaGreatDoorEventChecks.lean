/- THE LAW EventChecks of the chapter 21: the call returns true and nothing that was there before it is turned, whatever the arguments. No condition beyond its row's own: the listed variables read as the program's text lays them. -/
import Derived.Test.YtjbefleabibmmaaGreatDoorCards
import Derived.Test.YtjbefleabibmmaaGreatDoorTie
import Derived.Test.YtjbefleabibmmaaGreatDoorFns
import Derived.Test.YtjbefleabibmmaaGreatDoorM6
import Derived.Test.YtjbefleabibmmaaGreatDoorEventAwakeRun
import Derived.WalkKit
import Derived.ProofKit
import Derived.OpenShut
import Derived.ChangeMaps5
import Derived.Deep.DeepHandedRow
namespace Go.Proofs.YtjbefleabibmmaaGreatDoor.eventChecks
open Go.ChangeShapes Go.WideShapes Go.ChangeAt Go.RowKit Go.ChangeMaps
set_option maxRecDepth 100000

theorem own : ownKnob Tryz.prog.godebug = none := by kernel_rfl
theorem awakeClosed : eventAwake.awakeF.closedOk = true := by kernel_rfl
theorem awakeGood : E2.SpecOk Tryz.prog eventAwake.awakeF.f eventAwake.awakeF.tryC := E2.goodC_fact Tryz.checked.mixed eventAwake.tables eventAwake.goods (by kernel_rfl) eventAwake.awakeRun

/-- The calls that are answered by a fact: that of 'awake'. -/
def sp (f : Nat) : Option (List E2.V → E2.Heap → Option (E2.CR × E2.Heap)) := if f = 5 then some eventAwake.awakeF.tryC else none
theorem quiet2 : E3.Quiet2 (cfg sp) := fun f hf => by
  show sp f = none
  unfold sp
  rw [if_neg]
  rintro rfl
  cases hf
theorem quiet : E3.Quiet3 (cfg sp) := ⟨quiet2, E3.prim_of (C := cfg sp) (F := 48) (tB := 112) (tS := 110) (tQ := 167) (tI := 3) (tU := 5) rfl rfl (by kernel_rfl) fun el h => by
  have := E3.look_mem h
  simp only [codecL, List.mem_cons, Prod.mk.injEq, List.not_mem_nil, or_false] at this
  rcases this with ⟨h1, h2⟩ | ⟨h1, h2⟩ | ⟨h1, h2⟩ | ⟨h1, h2⟩ <;> first | exact h1 | cases h2⟩
theorem spOk : ∀ f s, sp f = some s → E2.SpecOk Tryz.prog f s := by
  intro f s h
  unfold sp at h
  split at h
  · rename_i hf
    cases h
    subst hf
    exact awakeGood
  · cases h
theorem awakeCall (H : E2.Heap) (hg : H.glob = (cfg sp).ng) (ho : ∀ gn o, (cfg sp).gobj gn = some o → H.get gn = some o ∧ gn < H.next) : E2.CallW (cfg sp).E (.func 5) [] H fun v H' => v = .bool true ∧ H' = H :=
  E2.callW_spec (s := eventAwake.awakeF.tryC) rfl (E2.tryC_of awakeClosed hg fun x hx => ho x.1 x.2 (E3.look_of_nodup (by kernel_rfl) hx)) ⟨rfl, rfl⟩
theorem awakeFn : E3.FnOk XK szK (cfg sp) 5 [] known_res := E3.fn_const cfgOk2 (v := .bool true) .sb rfl awakeCall fun H M => .sb .rfl .rfl fun h0 => absurd rfl h0
theorem awakeOk : E3.CtOk XK szK (cfg sp) 5 ct5 := by
  intro ns pre r h hp
  unfold ct5 at h
  dsimp only at h
  split at h
  · cases h
    exact ⟨_, rfl, awakeFn, E3.formB_ok rfl⟩
  · cases h

/-! ### The listed variables -/
theorem cells_type {a b : Array Value} {t t' : TypeId} {f f' : Nat × Nat} (h : some (Obj.cells a t f) = some (Obj.cells b t' f')) : t = t' := by
  cases h
  rfl
theorem globals : Tryz.prog.globals.size = 9 := by kernel_rfl
theorem plainList : (Rows.eventChecksRow.laid.filter fun x => x.2.handleName?.isSome) = [] := by kernel_rfl
noncomputable def cells1 : List Value := (E2.flatV Tryz.prog 10 265 Rows.laid_tactus_sign_uses).getD []
theorem flat1 : E2.flatV Tryz.prog 10 265 Rows.laid_tactus_sign_uses = some cells1 := by kernel_rfl
theorem some1 : cells1 ≠ [] := by
  intro h
  have : cells1.isEmpty = false := by kernel_rfl
  rw [h] at this
  cases this
theorem named1 : Tryz.prog.globalNamed "tactus/sign.uses" = some 1 := by kernel_rfl
theorem typed1 : (Tryz.prog.globals[1]?).map (·.type) = some 265 := by kernel_rfl
theorem row1 : ((((begin Tryz.prog (fun _ _ => 0) default).world).heap[1]?).bind Obj.row?).map (·.2) = some 265 := by kernel_rfl
theorem listed1 : ("tactus/sign.uses", Rows.laid_tactus_sign_uses) ∈ Rows.eventChecksRow.laid := by
  exact List.mem_of_getElem? (i := 3) rfl
theorem heap1 {W : World} (hL : laidMet Tryz.prog Rows.eventChecksRow.laid W) (hsh : W.ShapedOpen Tryz.prog) : W.heap[1]? = some (.cells cells1.toArray 265 (0, 0)) := by
  obtain ⟨ps, h1, _, h2⟩ := hL
  obtain ⟨t', h3⟩ := E2.laid_cells h1 (fun b off hb => (h2 b off hb).1) (name := "tactus/sign.uses") (d := Rows.laid_tactus_sign_uses) listed1 named1 typed1 flat1 some1
  have h4 := row1
  obtain ⟨⟨zero, t⟩, h5, h6⟩ := Option.map_eq_some_iff.1 h4
  simp only at h6
  subst h6
  obtain ⟨cs, h7, _⟩ := hsh.1 1 zero 265 (by rw [globals]; decide) h5
  have h9 := cells_type (h3.symm.trans h7)
  rw [h9] at h3
  exact h3
noncomputable def cells2 : List Value := (E2.flatV Tryz.prog 10 274 Rows.laid_internal_strconv_uint64pow10).getD []
theorem flat2 : E2.flatV Tryz.prog 10 274 Rows.laid_internal_strconv_uint64pow10 = some cells2 := by kernel_rfl
theorem some2 : cells2 ≠ [] := by
  intro h
  have : cells2.isEmpty = false := by kernel_rfl
  rw [h] at this
  cases this
theorem named2 : Tryz.prog.globalNamed "internal/strconv.uint64pow10" = some 2 := by kernel_rfl
theorem typed2 : (Tryz.prog.globals[2]?).map (·.type) = some 274 := by kernel_rfl
theorem row2 : ((((begin Tryz.prog (fun _ _ => 0) default).world).heap[2]?).bind Obj.row?).map (·.2) = some 274 := by kernel_rfl
theorem listed2 : ("internal/strconv.uint64pow10", Rows.laid_internal_strconv_uint64pow10) ∈ Rows.eventChecksRow.laid := by
  exact List.mem_of_getElem? (i := 2) rfl
theorem heap2 {W : World} (hL : laidMet Tryz.prog Rows.eventChecksRow.laid W) (hsh : W.ShapedOpen Tryz.prog) : W.heap[2]? = some (.cells cells2.toArray 274 (0, 0)) := by
  obtain ⟨ps, h1, _, h2⟩ := hL
  obtain ⟨t', h3⟩ := E2.laid_cells h1 (fun b off hb => (h2 b off hb).1) (name := "internal/strconv.uint64pow10") (d := Rows.laid_internal_strconv_uint64pow10) listed2 named2 typed2 flat2 some2
  have h4 := row2
  obtain ⟨⟨zero, t⟩, h5, h6⟩ := Option.map_eq_some_iff.1 h4
  simp only at h6
  subst h6
  obtain ⟨cs, h7, _⟩ := hsh.1 2 zero 274 (by rw [globals]; decide) h5
  have h9 := cells_type (h3.symm.trans h7)
  rw [h9] at h3
  exact h3
noncomputable def cells3 : List Value := (E2.flatV Tryz.prog 10 300 Rows.laid_tactus_sign_classes).getD []
theorem flat3 : E2.flatV Tryz.prog 10 300 Rows.laid_tactus_sign_classes = some cells3 := by kernel_rfl
theorem some3 : cells3 ≠ [] := by
  intro h
  have : cells3.isEmpty = false := by kernel_rfl
  rw [h] at this
  cases this
theorem named3 : Tryz.prog.globalNamed "tactus/sign.classes" = some 3 := by kernel_rfl
theorem typed3 : (Tryz.prog.globals[3]?).map (·.type) = some 300 := by kernel_rfl
theorem row3 : ((((begin Tryz.prog (fun _ _ => 0) default).world).heap[3]?).bind Obj.row?).map (·.2) = some 300 := by kernel_rfl
theorem listed3 : ("tactus/sign.classes", Rows.laid_tactus_sign_classes) ∈ Rows.eventChecksRow.laid := by
  exact List.mem_of_getElem? (i := 4) rfl
theorem heap3 {W : World} (hL : laidMet Tryz.prog Rows.eventChecksRow.laid W) (hsh : W.ShapedOpen Tryz.prog) : W.heap[3]? = some (.cells cells3.toArray 300 (0, 0)) := by
  obtain ⟨ps, h1, _, h2⟩ := hL
  obtain ⟨t', h3⟩ := E2.laid_cells h1 (fun b off hb => (h2 b off hb).1) (name := "tactus/sign.classes") (d := Rows.laid_tactus_sign_classes) listed3 named3 typed3 flat3 some3
  have h4 := row3
  obtain ⟨⟨zero, t⟩, h5, h6⟩ := Option.map_eq_some_iff.1 h4
  simp only at h6
  subst h6
  obtain ⟨cs, h7, _⟩ := hsh.1 3 zero 300 (by rw [globals]; decide) h5
  have h9 := cells_type (h3.symm.trans h7)
  rw [h9] at h3
  exact h3
theorem row8 : ((((begin Tryz.prog (fun _ _ => 0) default).world).heap[8]?).bind Obj.row?).map (·.2) = some 339 := by kernel_rfl
theorem size9 {W : World} (hsh : W.ShapedOpen Tryz.prog) : 9 ≤ W.heap.size := by
  obtain ⟨⟨zero, t⟩, h5, h6⟩ := Option.map_eq_some_iff.1 row8
  obtain ⟨cs, h7, _⟩ := hsh.1 8 zero t (by rw [globals]; decide) h5
  exact (Array.getElem?_eq_some_iff.1 h7).1
theorem objs : eventAwake.glob = [(1, .row (cells1.map E3.absW) 265 0 0 0 false), (2, .row (cells2.map E3.absW) 274 0 0 0 false), (3, .row (cells3.map E3.absW) 300 0 0 0 false)] := by kernel_rfl
/-- The variables lie there. -/
theorem laid {W : World} (hL : laidMetH Tryz.prog Rows.eventChecksRow.laid W) (hsh : W.ShapedOpen Tryz.prog) (gn : Nat) (o : E2.O) (h : (cfg sp).gobj gn = some o) : (E3.heapW W 9).get gn = some o ∧ gn < (E3.heapW W 9).next := by
  have hL' : laidMet Tryz.prog Rows.eventChecksRow.laid W := by
    unfold laidMetH at hL
    rw [plainList] at hL
    exact hL
  have hm := E3.look_mem (show E3.look eventAwake.glob gn = some o from h)
  have hsz := size9 hsh
  rw [objs] at hm
  simp only [List.mem_cons, Prod.mk.injEq, List.not_mem_nil, or_false] at hm
  rcases hm with ⟨rfl, rfl⟩ | ⟨rfl, rfl⟩ | ⟨rfl, rfl⟩
  · exact ⟨E3.heapW_get (heap1 hL' hsh), show 1 < W.heap.size by omega⟩
  · exact ⟨E3.heapW_get (heap2 hL' hsh), show 2 < W.heap.size by omega⟩
  · exact ⟨E3.heapW_get (heap3 hL' hsh), show 3 < W.heap.size by omega⟩

/-! ### The arguments: a list of events, a time -/
def good : ∀ c, KT c → Prop := fun _ _ => True
def cdA : Nat → Option Nat := E3.look [(60, 11)]
theorem argOk : E3.ArgOk good XK szK Tryz.prog cdA 8 := by
  refine ⟨fun e c h => ?_⟩
  have := E3.look_mem h
  simp only [List.mem_cons, Prod.mk.injEq, List.not_mem_nil, or_false] at this
  obtain ⟨rfl, rfl⟩ := this
  refine ⟨[.int .i64, .int .i64, .int .i64, .int .i64, .int .i64, .int .i64, .int .i64, .bool, .int .i64, .int .i64], by kernel_rfl, rfl, rfl, by kernel_rfl, by decide, fun ps h => ?_⟩
  obtain ⟨p0, q0, rfl, ⟨n0, rfl, _⟩, p1, q1, rfl, ⟨n1, rfl, _⟩, p2, q2, rfl, ⟨n2, rfl, _⟩, p3, q3, rfl, ⟨n3, rfl, _⟩, p4, q4, rfl, ⟨n4, rfl, _⟩, p5, q5, rfl, ⟨n5, rfl, _⟩, p6, q6, rfl, ⟨n6, rfl, _⟩, p7, q7, rfl, ⟨n7, rfl⟩, p8, q8, rfl, ⟨n8, rfl, _⟩, p9, q9, rfl, ⟨n9, rfl, _⟩, rfl⟩ := h
  exact ⟨True, ⟨n0, n1, n2, n3, n4, n5, n6, n7, n8, n9⟩, rfl, trivial, trivial⟩

theorem body : ∃ c, Tryz.f3.body = some c := ⟨_, rfl⟩

theorem contract (H : Type) (enc : TypeId × Value → H) (W : World) (base : Nat) (args : Array Value) (ds gs : List (DataW H)) (before : List MemPlace)
    (hval : ∀ (j : Nat) t v, Tryz.f3.params[j]? = some t → args[j]? = some v → Value.okWide Tryz.prog W .any base t v)
    (hW : DataW.Whole enc Tryz.prog Tryz.f3.params.toList Rows.eventChecksSpec.vars false W args.toList ds gs before) (hL : laidMetH Tryz.prog Rows.eventChecksRow.laid W) (hsh : W.ShapedOpen Tryz.prog) :
    Calls Tryz.prog 3 args W fun e W' => ∃ v, e = .returned v ∧ Rows.eventChecksSpec.post enc Tryz.prog Tryz.f3 false true false false W args v W' := by
  have hW' := hW
  obtain ⟨p, q, hA0, _⟩ := hW
  have hA : DataW.TrodAll enc Tryz.prog W 0 (fun _ => true) true Tryz.f3.params.toList args.toList ds p := hA0
  rw [Tryz.params3] at hA hval
  obtain ⟨v1, v2, d1, d2, p1, p2, ha, rfl, rfl, h1, h2⟩ := trodAll_two hA
  subst ha
  obtain ⟨cd, hcd⟩ := body
  have hM : ∀ n : Nat, ¬ (fun _ : Nat => False) n := fun n h => h
  have hsim := E3.simW (W := W) (ng := 9) (size9 hsh)
  have hlt : ∀ nm g x, E3.ghostW W nm g = some x → nm < (E3.heapW W 9).ro := by
    intro nm g x h
    obtain ⟨_, arr, e, fz, hb, _⟩ := E3.ghostW_some h
    exact (Array.getElem?_eq_some_iff.1 hb).1
  obtain ⟨pv, u, hleaf, hrep, hrelu⟩ := E3.arg_one (C := cfg sp) (ng := 9) (M := fun _ => False) cfgOk argOk hM (t := 22) (leaf := .list 11) (by kernel_rfl) (by kernel_rfl) (hval 0 22 v1 rfl rfl) h1
  obtain ⟨l, rfl, hll, hgl⟩ := hleaf
  obtain ⟨qv, u2, hleaf2, hrep2, hrelu2⟩ := E3.arg_struct (C := cfg sp) (ng := 9) (M := fun _ => False) cfgOk argOk hM (t := 24) (ls := [.int .i64, .int .i64]) Tryz.underlying24 (by kernel_rfl) (hval 1 24 v2 rfl rfl) h2
  obtain ⟨p0, q0, rfl, ⟨tn, rfl, _⟩, p1', q1, rfl, ⟨td, rfl, _⟩, rfl⟩ := hleaf2
  have hrel : E2.RelL (E3.ghostW W) W [u, u2] (#[v1, v2] : Array Value).toList := E2.RelL.cons hrelu (E2.RelL.cons hrelu2 E2.RelL.nil)
  have hstart : E3.Start XK szK (cfg sp) (E3.heapW W 9) (fun _ => False) := by
    refine ⟨fun n hn => ?_, ⟨Nat.le_refl _, rfl, laid hL hsh⟩, fun n h => h.elim, fun gn ps h => by cases h⟩
    cases hg : (E3.heapW W 9).get n with
    | none => rfl
    | some o =>
      obtain ⟨arr, e, fz, hb, _⟩ := E3.heapW_some hg
      exact absurd (Array.getElem?_eq_some_iff.1 hb).1 (Nat.not_lt.2 hn)
  have hrun := lawChecks_fn quiet awakeOk l tn td (Int.le_trans (Int.ofNat_le.2 hll) (by decide)) _ _ [u, u2] hstart (.cons hrep (.cons hrep2 .nil))
  refine (E2.callW_calls Tryz.checked.mixed eventAwake.tables spOk Tryz.func3 (by kernel_rfl) hcd hsim hrel hrun).mono fun e W' ⟨v, H', x, G', hR, he, hx, st⟩ => ?_
  obtain ⟨w', hR⟩ := hR
  have hr := hR.rep
  obtain rfl : v = .bool true := by cases hr; rfl
  simp only [E2.Rel] at hx
  subst hx
  subst he
  have hsame : ∀ b, b < W.heap.size → W'.heap[b]? = W.heap[b]? := E3.extW_same st.ext
  refine ⟨_, rfl, E3.post_true_mem (t := 4) hW' rfl rfl Tryz.underlying4 rfl ⟨p1 ++ p2, ?_⟩ (fun may => st.ext.keptBut hlt may)⟩
  rw [Tryz.params3]
  exact trodAll_mk2 (E3.trod_again (by kernel_rfl) (by kernel_rfl) (Nat.le_of_ble_eq_true (by kernel_rfl)) h1 hsame _ fun b hb => decide_eq_true hb) (E3.trod_again (by kernel_rfl) (by kernel_rfl) (Nat.le_of_ble_eq_true (by kernel_rfl)) h2 hsame _ fun b hb => decide_eq_true hb)

/-- A WORLD FOR THE WITNESS: the settled one, the tables as their initialisers lay them. -/
def flatD : Nat → DataW Unit → List Value
  | n + 1, .agg l => l.flatMap (flatD n)
  | _ + 1, .lit (.int k i) => [.int k i]
  | _ + 1, .lit (.bool b) => [.bool b]
  | _ + 1, .lit (.string s) => [.string ⟨s.toArray⟩]
  | _, _ => []
def lay (g : Nat) (cs : List Value) (heap : Array Obj) : Array Obj :=
  heap.modify g fun
    | .cells _ t frozen => .cells cs.toArray t frozen
    | o => o
def wit : Array Value := #[.slice none 0 0, .agg #[.int .i64 0, .int .i64 0]]
noncomputable def laidWorld (os : Os) : World :=
  { World.holding Tryz.prog os ⟨#[], wit, []⟩ with heap := lay 8 (flatD 8 Rows.laid_math_bits_deBruijn64tab) (lay 7 (flatD 8 Rows.laid_math_bits_deBruijn32tab) (lay 3 (flatD 8 Rows.laid_tactus_sign_classes) (lay 2 (flatD 8 Rows.laid_internal_strconv_uint64pow10) (lay 1 (flatD 8 Rows.laid_tactus_sign_uses) ((World.holding Tryz.prog os ⟨#[], wit, []⟩).heap))))) }
theorem laid_met (os : Os) : laidMet Tryz.prog Rows.eventChecksRow.laid ((laidWorld os).forCall (fun _ _ => 0) ⟨#[], wit, []⟩).memory :=
  laidMet_of_run' 8 (by kernel_rfl) (by kernel_rfl)
theorem reads (os : Os) {H : Type} (enc : TypeId × Value → H) : ∃ places, DataW.whole enc Tryz.prog ((laidWorld os).forCall (fun _ _ => 0) ⟨#[], wit, []⟩).memory Tryz.f3.params.toList Rows.eventChecksSpec.vars false wit.toList 8 = some ([.nil, .agg [.lit (.int .i64 0), .lit (.int .i64 0)]], [], places) :=
  ⟨[], by kernel_rfl⟩

theorem lifted (os : Os) (started : os.Started) (H : Type) (enc : TypeId × Value → H) (F : Stop.Interp) :
    ReturnsInHanded {} Tryz.checked os 3 .any ((OpenSpec.ofChange Rows.eventChecksSpec).preRow enc Tryz.prog Tryz.f3 Rows.eventChecksRow.domain false Rows.eventChecksRow.laid) (((OpenSpec.ofChange Rows.eventChecksSpec).at F).post enc Tryz.prog Tryz.f3 false true false false) := by
  obtain ⟨places, hx⟩ := reads os enc
  refine returnsInHanded_of_row (C := Tryz.checked) (s := OpenSpec.ofChange Rows.eventChecksSpec) own started (by kernel_rfl) Tryz.func3
    (witness_row_at (enc := enc) (C := Tryz.checked) false (laidWorld os) wit rfl (by kernel_rfl) (by kernel_rfl) (by kernel_rfl)
      (OpenSpec.preRow_of_cond 8 hx (by kernel_rfl) (fun k hk => by cases hk) (by kernel_rfl) (laid_met os))) ?_
  intro W base args ds gs before hval hW _ _ _ hL hsh _
  exact contract H enc W base args ds gs before hval hW hL hsh

theorem said : Rows.EventChecksSaid :=
  OpenClaim.holds_of_cond 3 Tryz.f3 rfl rfl rfl rfl rfl rfl rfl ⟨rfl, rfl, rfl, rfl, rfl⟩ rfl rfl rfl rfl rfl (by kernel_rfl) Tryz.func3 (by kernel_rfl)
    (of_decide_eq_true (by kernel_rfl)) (by unfold Func.isWrapper; first | (rw [if_pos (by decide +kernel)]; kernel_rfl) | (rw [if_neg (by decide +kernel)]; exact ⟨rfl, rfl⟩))
    (fun os started H enc _ F => by rw [OpenClaim.pre_eq_preRow]; exact lifted os started H enc F)

/-- No parameter wants a stand-in; the program's own looks. -/
theorem plain (f : FuncId) (fn : Func) (hf : Tryz.pinned.checked.prog.funcNamed "tactus/tactuslaw21.EventChecks" = some f) (hfn : Tryz.pinned.checked.prog.funcs[f]? = some fn) :
    true = Tryz.pinned.checked.prog.looks [] ∧ ∀ (j : Nat) t, fn.params[j]? = some t → Tryz.pinned.checked.prog.wantsStandIn t = false := by
  obtain rfl : f = 3 := Option.some.inj ((show Tryz.prog.funcNamed "tactus/tactuslaw21.EventChecks" = some 3 by kernel_rfl).symm.trans hf) |>.symm
  obtain rfl : fn = Tryz.f3 := (Option.some.inj (Tryz.func3.symm.trans hfn)).symm
  refine ⟨by kernel_rfl, fun j t ht => ?_⟩
  rw [Tryz.params3] at ht
  have q0 : Tryz.pinned.checked.prog.wantsStandIn 22 = false := by kernel_rfl
  have q1 : Tryz.pinned.checked.prog.wantsStandIn 24 = false := by kernel_rfl
  rcases j with _ | _ | j
  · obtain rfl : 22 = t := by simpa using ht
    exact q0
  · obtain rfl : 24 = t := by simpa using ht
    exact q1
  · simp at ht

/-- THE CARD. -/
theorem card : Rows.EventChecksCardSaid :=
  Claim7.holds_tied_plain_at .later [] _ _ _ _ said (fun _ h => by cases h) (by kernel_rfl) (fun _ h => by cases h) eventChecks_row_tie rfl ⟨rfl, rfl⟩ (by kernel_rfl) rfl plain (by kernel_rfl)
#print axioms card
end Go.Proofs.YtjbefleabibmmaaGreatDoor.eventChecks
