/- THE LAW BookMakes of the chapter 39: the call returns true and nothing that was there before it is turned, whatever the arguments. No condition beyond its row's own: the listed variables read as the program's text lays them. -/
import Derived.Test.YtlkfjinaiepocaaDoorCards
import Derived.Test.YtlkfjinaiepocaaDoorTie
import Derived.Test.YtlkfjinaiepocaaDoorFns
import Derived.Test.YtlkfjinaiepocaaDoorM6
import Derived.Test.YtlkfjinaiepocaaDoorBookAwakeRun
import Derived.WalkKit
import Derived.ProofKit
import Derived.OpenShut
import Derived.ChangeMaps5
import Derived.Deep.DeepHandedRow
namespace Go.Proofs.YtlkfjinaiepocaaDoor.bookMakes
open Go.ChangeShapes Go.WideShapes Go.ChangeAt Go.RowKit Go.ChangeMaps
set_option maxRecDepth 100000

theorem own : ownKnob Tryd.prog.godebug = none := by kernel_rfl
theorem awakeClosed : bookAwake.awakeF.closedOk = true := by kernel_rfl
theorem awakeGood : E2.SpecOk Tryd.prog bookAwake.awakeF.f bookAwake.awakeF.tryC := E2.goodC_fact Tryd.checked.mixed bookAwake.tables bookAwake.goods (by kernel_rfl) bookAwake.awakeRun

/-- The calls that are answered by a fact: that of 'awake'. -/
def sp (f : Nat) : Option (List E2.V → E2.Heap → Option (E2.CR × E2.Heap)) := if f = 8 then some bookAwake.awakeF.tryC else none
theorem quiet2 : E3.Quiet2 (cfg sp) := fun f hf => by
  show sp f = none
  unfold sp
  rw [if_neg]
  rintro rfl
  cases hf
theorem quiet : E3.Quiet3 (cfg sp) := ⟨quiet2, fun f h => by cases h⟩
theorem spOk : ∀ f s, sp f = some s → E2.SpecOk Tryd.prog f s := by
  intro f s h
  unfold sp at h
  split at h
  · rename_i hf
    cases h
    subst hf
    exact awakeGood
  · cases h
theorem awakeCall (H : E2.Heap) (hg : H.glob = (cfg sp).ng) (ho : ∀ gn o, (cfg sp).gobj gn = some o → H.get gn = some o ∧ gn < H.next) : E2.CallW (cfg sp).E (.func 8) [] H fun v H' => v = .bool true ∧ H' = H :=
  E2.callW_spec (s := bookAwake.awakeF.tryC) rfl (E2.tryC_of awakeClosed hg fun x hx => ho x.1 x.2 (E3.look_of_nodup (by kernel_rfl) hx)) ⟨rfl, rfl⟩
theorem awakeFn : E3.FnOk XK szK (cfg sp) 8 [] known_res := E3.fn_const cfgOk2 (v := .bool true) .sb rfl awakeCall fun H M => .sb .rfl .rfl fun h0 => absurd rfl h0
theorem awakeOk : E3.CtOk XK szK (cfg sp) 8 ct8 := by
  intro ns pre r h hp
  unfold ct8 at h
  dsimp only at h
  split at h
  · cases h
    exact ⟨_, rfl, awakeFn, E3.formB_ok rfl⟩
  · cases h

/-! ### The listed variables -/
theorem cells_type {a b : Array Value} {t t' : TypeId} {f f' : Nat × Nat} (h : some (Obj.cells a t f) = some (Obj.cells b t' f')) : t = t' := by
  cases h
  rfl
theorem globals : Tryd.prog.globals.size = 1 := by kernel_rfl
theorem plainList : (Rows.bookMakesRow.laid.filter fun x => x.2.handleName?.isSome) = [] := by kernel_rfl
noncomputable def cells1 : List Value := (E2.flatV Tryd.prog 10 116 Rows.laid_tactus_sign_uses).getD []
theorem flat1 : E2.flatV Tryd.prog 10 116 Rows.laid_tactus_sign_uses = some cells1 := by kernel_rfl
theorem some1 : cells1 ≠ [] := by
  intro h
  have : cells1.isEmpty = false := by kernel_rfl
  rw [h] at this
  cases this
theorem named1 : Tryd.prog.globalNamed "tactus/sign.uses" = some 0 := by kernel_rfl
theorem typed1 : (Tryd.prog.globals[0]?).map (·.type) = some 116 := by kernel_rfl
theorem row1 : ((((begin Tryd.prog (fun _ _ => 0) default).world).heap[0]?).bind Obj.row?).map (·.2) = some 116 := by kernel_rfl
theorem listed1 : ("tactus/sign.uses", Rows.laid_tactus_sign_uses) ∈ Rows.bookMakesRow.laid := by
  exact List.mem_of_getElem? (i := 0) rfl
theorem heap1 {W : World} (hL : laidMet Tryd.prog Rows.bookMakesRow.laid W) (hsh : W.ShapedOpen Tryd.prog) : W.heap[0]? = some (.cells cells1.toArray 116 (0, 0)) := by
  obtain ⟨ps, h1, _, h2⟩ := hL
  obtain ⟨t', h3⟩ := E2.laid_cells h1 (fun b off hb => (h2 b off hb).1) (name := "tactus/sign.uses") (d := Rows.laid_tactus_sign_uses) listed1 named1 typed1 flat1 some1
  have h4 := row1
  obtain ⟨⟨zero, t⟩, h5, h6⟩ := Option.map_eq_some_iff.1 h4
  simp only at h6
  subst h6
  obtain ⟨cs, h7, _⟩ := hsh.1 0 zero 116 (by rw [globals]; decide) h5
  have h9 := cells_type (h3.symm.trans h7)
  rw [h9] at h3
  exact h3
theorem size1 {W : World} (hsh : W.ShapedOpen Tryd.prog) : 1 ≤ W.heap.size := by
  obtain ⟨⟨zero, t⟩, h5, h6⟩ := Option.map_eq_some_iff.1 row1
  obtain ⟨cs, h7, _⟩ := hsh.1 0 zero t (by rw [globals]; decide) h5
  exact (Array.getElem?_eq_some_iff.1 h7).1
theorem objs : bookAwake.glob = [(0, .row (cells1.map E3.absW) 116 0 0 0 false)] := by kernel_rfl
theorem toText {W : World} (hL : laidMetH Tryd.prog Rows.bookMakesRow.laid W) : laidMet Tryd.prog Rows.bookMakesRow.laid W := by
  unfold laidMetH at hL
  rw [plainList] at hL
  exact hL
/-- The variables lie there. -/
theorem laid {W : World} (hL : laidMetH Tryd.prog Rows.bookMakesRow.laid W) (hsh : W.ShapedOpen Tryd.prog) (gn : Nat) (o : E2.O) (h : (cfg sp).gobj gn = some o) : (E3.heapW W 1).get gn = some o ∧ gn < (E3.heapW W 1).next := by
  have hm := E3.look_mem (show E3.look bookAwake.glob gn = some o from h)
  have hsz := size1 hsh
  rw [objs] at hm
  simp only [List.mem_cons, Prod.mk.injEq, List.not_mem_nil, or_false] at hm
  obtain ⟨rfl, rfl⟩ := hm
  exact ⟨E3.heapW_get (heap1 (toText hL) hsh), show 0 < W.heap.size by omega⟩
/-- The fields that are used, as truth values. -/
noncomputable def usesB : List Bool := cells1.map fun
  | .bool b => b
  | _ => false
theorem usesP : globK 0 = some (usesB.map E3.P.lit) := by kernel_rfl
theorem usesV : cells1.map E3.absW = usesB.map E2.V.bool := by kernel_rfl
theorem constants {W : World} (hL : laidMetH Tryd.prog Rows.bookMakesRow.laid W) (hsh : W.ShapedOpen Tryd.prog) (gn : Nat) (ps : List (E3.PV KT)) (h : (cfg sp).glob gn = some ps) :
    gn < (E3.heapW W 1).glob ∧ ∃ vs e fl fz ex, (E3.heapW W 1).get gn = some (.row vs e 0 fl fz ex) ∧ gn < (E3.heapW W 1).next ∧ E3.Rep XK szK (E3.wd0 (E3.heapW W 1) (fun _ => False) (cfg sp).codec) (.eptr ps 0) (.ptr gn 0 0 vs.length) := by
  have h' : globK gn = some ps := h
  have hg : gn = 0 := by
    rcases gn with _ | gn
    · rfl
    · cases h'
  subst hg
  rw [usesP] at h'
  cases h'
  have hrow : (E3.heapW W 1).get 0 = some (.row (cells1.map E3.absW) 116 0 0 0 false) := E3.heapW_get (heap1 (toText hL) hsh)
  rw [usesV] at hrow
  refine ⟨Nat.lt_succ_self 0, _, _, _, _, _, hrow, show 0 < W.heap.size from size1 hsh, ?_⟩
  refine E3.Rep.eptr (d := 0) (off := 0) hrow (Nat.le_refl 0) (fun h => h) (by rw [List.length_map, List.length_map]; exact Nat.le_of_eq (Nat.zero_add _)) (Nat.le_refl _) (fun j p hp => ?_)
  rw [List.getElem?_map] at hp
  obtain ⟨b, hb, rfl⟩ := Option.map_eq_some_iff.1 hp
  rw [Nat.zero_add, List.getD_eq_getElem?_getD, List.getElem?_map, hb]
  exact .lit

/-! ### The arguments: a part, two numbers -/
def good : ∀ c, KT c → Prop := fun _ _ => True
def cdA : Nat → Option Nat := E3.look [(65, 4)]
theorem argOk : E3.ArgOk good XK szK Tryd.prog cdA 8 := by
  refine ⟨fun e c h => ?_⟩
  have := E3.look_mem h
  simp only [List.mem_cons, Prod.mk.injEq, List.not_mem_nil, or_false] at this
  obtain ⟨rfl, rfl⟩ := this
  refine ⟨[.int .i64, .int .i64, .int .i64, .int .i64, .bool, .int .i64, .bool, .bool, .int .i64, .int .i64, .int .i64, .int .i64, .bool, .int .i64, .int .i64, .int .i64, .int .i64], by kernel_rfl, rfl, rfl, by kernel_rfl, by decide, fun ps h => ?_⟩
  obtain ⟨p0, q0, rfl, ⟨n0, rfl, _⟩, p1, q1, rfl, ⟨n1, rfl, _⟩, p2, q2, rfl, ⟨n2, rfl, _⟩, p3, q3, rfl, ⟨n3, rfl, _⟩, p4, q4, rfl, ⟨n4, rfl⟩, p5, q5, rfl, ⟨n5, rfl, _⟩, p6, q6, rfl, ⟨n6, rfl⟩, p7, q7, rfl, ⟨n7, rfl⟩, p8, q8, rfl, ⟨n8, rfl, _⟩, p9, q9, rfl, ⟨n9, rfl, _⟩, p10, q10, rfl, ⟨n10, rfl, _⟩, p11, q11, rfl, ⟨n11, rfl, _⟩, p12, q12, rfl, ⟨n12, rfl⟩, p13, q13, rfl, ⟨n13, rfl, _⟩, p14, q14, rfl, ⟨n14, rfl, _⟩, p15, q15, rfl, ⟨n15, rfl, _⟩, p16, q16, rfl, ⟨n16, rfl, _⟩, rfl⟩ := h
  exact ⟨True, ⟨n0, n1, n2, n3, n4, n5, n6, n7, n8, n9, n10, n11, n12, n13, n14, n15, n16⟩, rfl, trivial, trivial⟩

theorem body : ∃ c, Tryd.f3.body = some c := ⟨_, rfl⟩

theorem contract (H : Type) (enc : TypeId × Value → H) (W : World) (base : Nat) (args : Array Value) (ds gs : List (DataW H)) (before : List MemPlace)
    (hval : ∀ (j : Nat) t v, Tryd.f3.params[j]? = some t → args[j]? = some v → Value.okWide Tryd.prog W .any base t v)
    (hW : DataW.Whole enc Tryd.prog Tryd.f3.params.toList Rows.bookMakesSpec.vars false W args.toList ds gs before) (hL : laidMetH Tryd.prog Rows.bookMakesRow.laid W) (hsh : W.ShapedOpen Tryd.prog) :
    Calls Tryd.prog 3 args W fun e W' => ∃ v, e = .returned v ∧ Rows.bookMakesSpec.post enc Tryd.prog Tryd.f3 false true false false W args v W' := by
  have hW' := hW
  obtain ⟨p, q, hA0, _⟩ := hW
  have hA : DataW.TrodAll enc Tryd.prog W 0 (fun _ => true) true Tryd.f3.params.toList args.toList ds p := hA0
  rw [Tryd.params3] at hA hval
  obtain ⟨v1, v2, v3, d1, d2, d3, p1, p2, p3, ha, rfl, rfl, h1, h2, h3⟩ := trodAll_three hA
  subst ha
  obtain ⟨cd, hcd⟩ := body
  have hM : ∀ n : Nat, ¬ (fun _ : Nat => False) n := fun n h => h
  have hsim := E3.simW (W := W) (ng := 1) (size1 hsh)
  have hlt : ∀ nm g x, E3.ghostW W nm g = some x → nm < (E3.heapW W 1).ro := by
    intro nm g x h
    obtain ⟨_, arr, e, fz, hb, _⟩ := E3.ghostW_some h
    exact (Array.getElem?_eq_some_iff.1 hb).1
  obtain ⟨pv, u, hleaf, hrep, hrelu⟩ := E3.arg_struct (C := cfg sp) (ng := 1) (M := fun _ => False) cfgOk argOk hM (t := 24) (ls := [.str, .list 4]) Tryd.underlying24 (by kernel_rfl) (hval 0 24 v1 rfl rfl) h1
  obtain ⟨_, _, rfl, ⟨nm, rfl, hln⟩, _, _, rfl, ⟨l, rfl, hll, hgl⟩, rfl⟩ := hleaf
  obtain ⟨qv, u2, hleaf2, hrep2, hrelu2⟩ := E3.arg_one (C := cfg sp) (ng := 1) (M := fun _ => False) cfgOk argOk hM (t := 3) (leaf := .int .i64) (by kernel_rfl) (by kernel_rfl) (hval 1 3 v2 rfl rfl) h2
  obtain ⟨w, rfl, _⟩ := hleaf2
  obtain ⟨rv, u3, hleaf3, hrep3, hrelu3⟩ := E3.arg_one (C := cfg sp) (ng := 1) (M := fun _ => False) cfgOk argOk hM (t := 3) (leaf := .int .i64) (by kernel_rfl) (by kernel_rfl) (hval 2 3 v3 rfl rfl) h3
  obtain ⟨hh, rfl, _⟩ := hleaf3
  have hrel : E2.RelL (E3.ghostW W) W [u, u2, u3] (#[v1, v2, v3] : Array Value).toList := E2.RelL.cons hrelu (E2.RelL.cons hrelu2 (E2.RelL.cons hrelu3 E2.RelL.nil))
  have hstart : E3.Start XK szK (cfg sp) (E3.heapW W 1) (fun _ => False) := by
    refine ⟨fun n hn => ?_, ⟨Nat.le_refl _, rfl, laid hL hsh⟩, fun n h => h.elim, constants hL hsh⟩
    cases hg : (E3.heapW W 1).get n with
    | none => rfl
    | some o =>
      obtain ⟨arr, e, fz, hb, _⟩ := E3.heapW_some hg
      exact absurd (Array.getElem?_eq_some_iff.1 hb).1 (Nat.not_lt.2 hn)
  have hrun := lawMakes_fn quiet awakeOk nm l w hh ⟨Int.le_trans (Int.ofNat_le.2 hln) (by decide), Int.le_trans (Int.ofNat_le.2 hll) (by decide)⟩ _ _ [u, u2, u3] hstart (.cons hrep (.cons hrep2 (.cons hrep3 .nil)))
  refine (E2.callW_calls Tryd.checked.mixed bookAwake.tables spOk Tryd.func3 (by kernel_rfl) hcd hsim hrel hrun).mono fun e W' ⟨v, H', x, G', hR, he, hx, st⟩ => ?_
  obtain ⟨w', hR⟩ := hR
  have hr := hR.rep
  obtain rfl : v = .bool true := by cases hr; rfl
  simp only [E2.Rel] at hx
  subst hx
  subst he
  have hsame : ∀ b, b < W.heap.size → W'.heap[b]? = W.heap[b]? := E3.extW_same st.ext
  refine ⟨_, rfl, E3.post_true_mem (t := 4) hW' rfl rfl Tryd.underlying4 rfl ⟨p1 ++ (p2 ++ p3), ?_⟩ (fun may => st.ext.keptBut hlt may)⟩
  rw [Tryd.params3]
  exact trodAll_mk3 (E3.trod_again (by kernel_rfl) (by kernel_rfl) (Nat.le_of_ble_eq_true (by kernel_rfl)) h1 hsame _ fun b hb => decide_eq_true hb) (E3.trod_again (by kernel_rfl) (by kernel_rfl) (Nat.le_of_ble_eq_true (by kernel_rfl)) h2 hsame _ fun b hb => decide_eq_true hb) (E3.trod_again (by kernel_rfl) (by kernel_rfl) (Nat.le_of_ble_eq_true (by kernel_rfl)) h3 hsame _ fun b hb => decide_eq_true hb)

/-- A WORLD FOR THE WITNESS: the settled one, the tables as their initialisers lay them. -/
def flatD : Nat → DataW Unit → List Value
  | n + 1, .agg l => l.flatMap (flatD n)
  | _ + 1, .lit (.int k i) => [.int k i]
  | _ + 1, .lit (.bool b) => [.bool b]
  | _ + 1, .lit (.string s) => [.string ⟨s.toArray⟩]
  | _, _ => []
def lay (g : Nat) (cs : List Value) (heap : Array Obj) : Array Obj :=
  heap.modify g fun
    | .cells _ t frozen => .cells cs.toArray t frozen
    | o => o
def wit : Array Value := #[.agg #[.string ⟨#[]⟩, .slice none 0 0], .int .i64 0, .int .i64 0]
noncomputable def laidWorld (os : Os) : World :=
  { World.holding Tryd.prog os ⟨#[], wit, []⟩ with heap := lay 0 (flatD 8 Rows.laid_tactus_sign_uses) ((World.holding Tryd.prog os ⟨#[], wit, []⟩).heap) }
theorem laid_met (os : Os) : laidMet Tryd.prog Rows.bookMakesRow.laid ((laidWorld os).forCall (fun _ _ => 0) ⟨#[], wit, []⟩).memory :=
  laidMet_of_run' 8 (by kernel_rfl) (by kernel_rfl)
theorem reads (os : Os) {H : Type} (enc : TypeId × Value → H) : ∃ places, DataW.whole enc Tryd.prog ((laidWorld os).forCall (fun _ _ => 0) ⟨#[], wit, []⟩).memory Tryd.f3.params.toList Rows.bookMakesSpec.vars false wit.toList 8 = some ([.agg [.lit (.string []), .nil], .lit (.int .i64 0), .lit (.int .i64 0)], [], places) :=
  ⟨[], by kernel_rfl⟩

theorem lifted (os : Os) (started : os.Started) (H : Type) (enc : TypeId × Value → H) (F : Stop.Interp) :
    ReturnsInHanded {} Tryd.checked os 3 .any ((OpenSpec.ofChange Rows.bookMakesSpec).preRow enc Tryd.prog Tryd.f3 Rows.bookMakesRow.domain false Rows.bookMakesRow.laid) (((OpenSpec.ofChange Rows.bookMakesSpec).at F).post enc Tryd.prog Tryd.f3 false true false false) := by
  obtain ⟨places, hx⟩ := reads os enc
  refine returnsInHanded_of_row (C := Tryd.checked) (s := OpenSpec.ofChange Rows.bookMakesSpec) own started (by kernel_rfl) Tryd.func3
    (witness_row_at (enc := enc) (C := Tryd.checked) false (laidWorld os) wit rfl (by kernel_rfl) (by kernel_rfl) (by kernel_rfl)
      (OpenSpec.preRow_of_cond 8 hx (by kernel_rfl) (fun k hk => by cases hk) (by kernel_rfl) (laid_met os))) ?_
  intro W base args ds gs before hval hW _ _ _ hL hsh _
  exact contract H enc W base args ds gs before hval hW hL hsh

theorem said : Rows.BookMakesSaid :=
  OpenClaim.holds_of_cond 3 Tryd.f3 rfl rfl rfl rfl rfl rfl rfl ⟨rfl, rfl, rfl, rfl, rfl⟩ rfl rfl rfl rfl rfl (by kernel_rfl) Tryd.func3 (by kernel_rfl)
    (of_decide_eq_true (by kernel_rfl)) (by unfold Func.isWrapper; first | (rw [if_pos (by decide +kernel)]; kernel_rfl) | (rw [if_neg (by decide +kernel)]; exact ⟨rfl, rfl⟩))
    (fun os started H enc _ F => by rw [OpenClaim.pre_eq_preRow]; exact lifted os started H enc F)

/-- No parameter wants a stand-in; the program's own looks. -/
theorem plain (f : FuncId) (fn : Func) (hf : Tryd.pinned.checked.prog.funcNamed "tactus/tactuslaw39.BookMakes" = some f) (hfn : Tryd.pinned.checked.prog.funcs[f]? = some fn) :
    false = Tryd.pinned.checked.prog.looks [] ∧ ∀ (j : Nat) t, fn.params[j]? = some t → Tryd.pinned.checked.prog.wantsStandIn t = false := by
  obtain rfl : f = 3 := Option.some.inj ((show Tryd.prog.funcNamed "tactus/tactuslaw39.BookMakes" = some 3 by kernel_rfl).symm.trans hf) |>.symm
  obtain rfl : fn = Tryd.f3 := (Option.some.inj (Tryd.func3.symm.trans hfn)).symm
  refine ⟨by kernel_rfl, fun j t ht => ?_⟩
  rw [Tryd.params3] at ht
  have q0 : Tryd.pinned.checked.prog.wantsStandIn 24 = false := by kernel_rfl
  have q1 : Tryd.pinned.checked.prog.wantsStandIn 3 = false := by kernel_rfl
  rcases j with _ | _ | _ | j
  · obtain rfl : 24 = t := by simpa using ht
    exact q0
  · obtain rfl : 3 = t := by simpa using ht
    exact q1
  · obtain rfl : 3 = t := by simpa using ht
    exact q1
  · simp at ht

/-- THE CARD. -/
theorem card : Rows.BookMakesCardSaid :=
  Claim7.holds_tied_plain_at .later [] _ _ _ _ said (fun _ h => by cases h) (by kernel_rfl) (fun _ h => by cases h) bookMakes_row_tie rfl ⟨rfl, rfl⟩ (by kernel_rfl) rfl plain (by kernel_rfl)
#print axioms card
end Go.Proofs.YtlkfjinaiepocaaDoor.bookMakes
