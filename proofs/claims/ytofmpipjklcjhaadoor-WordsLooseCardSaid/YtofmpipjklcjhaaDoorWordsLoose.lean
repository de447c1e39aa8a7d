/- THE LAW WordsLoose of the chapter 2: the call returns true and nothing that was there before it is turned, whatever the arguments. No condition beyond its row's own. -/
import Derived.Test.YtofmpipjklcjhaaDoorCards
import Derived.Test.YtofmpipjklcjhaaDoorTie
import Derived.Test.YtofmpipjklcjhaaDoorFns
import Derived.Test.YtofmpipjklcjhaaDoorM6
import Derived.WalkKit
import Derived.ProofKit
import Derived.OpenShut
import Derived.ChangeMaps5
import Derived.Deep.DeepHandedRow
namespace Go.Proofs.YtofmpipjklcjhaaDoor.wordsLoose
open Go.ChangeShapes Go.WideShapes Go.ChangeAt Go.RowKit Go.ChangeMaps
set_option maxRecDepth 100000

theorem own : ownKnob Tryd.prog.godebug = none := by kernel_rfl
theorem tables : E2.progOk Tryd.prog = true := by kernel_rfl
def awakeF : E2.Fact := { f := 15, args := [], pre := [], next := 0, ro := 0, glob := 0, ret := .bool true, post := [], next' := 171 }
theorem awakeRun : E2.Fact.ok2 awakeF (E2.envOf Tryd.prog (E2.specR [])) 1000 = true := by kernel_rfl
theorem awakeGood : E2.SpecOk Tryd.prog awakeF.f awakeF.tryC := E2.goodC_fact Tryd.checked.mixed tables E2.goodR_nil (by kernel_rfl) awakeRun

/-- The calls that are answered by a fact: that of 'awake'. -/
def sp (f : Nat) : Option (List E2.V → E2.Heap → Option (E2.CR × E2.Heap)) := if f = 15 then some awakeF.tryC else none
theorem quiet2 : E3.Quiet2 (cfg sp) := fun f hf => by
  show sp f = none
  unfold sp
  rw [if_neg]
  rintro rfl
  cases hf
theorem quiet : E3.Quiet3 (cfg sp) := ⟨quiet2, E3.prim_of (C := cfg sp) (F := 29) (tB := 59) (tS := 57) (tQ := 79) (tI := 3) (tU := 5) rfl rfl (by kernel_rfl) fun el h => by
  have := E3.look_mem h
  simp only [codecL, List.mem_cons, Prod.mk.injEq, List.not_mem_nil, or_false] at this
  rcases this with ⟨h1, h2⟩ | ⟨h1, h2⟩ | ⟨h1, h2⟩ | ⟨h1, h2⟩ | ⟨h1, h2⟩ <;> first | exact h1 | cases h2⟩
theorem spOk : ∀ f s, sp f = some s → E2.SpecOk Tryd.prog f s := by
  intro f s h
  unfold sp at h
  split at h
  · rename_i hf
    cases h
    subst hf
    exact awakeGood
  · cases h
theorem awakeTry (H : E2.Heap) (hg : H.glob = 0) : awakeF.tryC [] H = some (.ret (.bool true), H) := by
  have h1 : awakeF.fits [] [] H = true := by
    have hb : Nat.beq H.glob awakeF.glob = true := by rw [hg]; rfl
    simp only [E2.Fact.fits, hb, Bool.and_true]
    rfl
  have h2 : (awakeF.pre.map fun x => (x.1, x.1)) = [] := rfl
  have h3 : Nat.beq awakeF.ro awakeF.next = true := rfl
  have h4 : E2.eqVB awakeF.ret ((E2.renV (fun _ => none) awakeF.ret).getD (.tuple [.nilp])) = true := rfl
  simp only [E2.Fact.tryC, h2, h1, h3, h4, Bool.and_true, cond_true]
  rfl
theorem awakeCall (H : E2.Heap) (hg : H.glob = (cfg sp).ng) : E2.CallW (cfg sp).E (.func 15) [] H fun v H' => v = .bool true ∧ H' = H := E2.callW_spec (s := awakeF.tryC) rfl (awakeTry H hg) ⟨rfl, rfl⟩
theorem awakeFn : E3.FnOk XK szK (cfg sp) 15 [] known_res := E3.fn_const cfgOk2 (v := .bool true) .sb rfl (fun H hg _ => awakeCall H hg) fun H M => .sb .rfl .rfl fun h0 => absurd rfl h0
theorem awakeOk : E3.CtOk XK szK (cfg sp) 15 ct15 := by
  intro ns pre r h hp
  unfold ct15 at h
  dsimp only at h
  split at h
  · cases h
    exact ⟨_, rfl, awakeFn, E3.formB_ok rfl⟩
  · cases h

/-! ### The first argument: a list of numbers -/
def good : ∀ c, KT c → Prop
  | 1 => fun n => E3.I64 n
  | _ => fun _ => True
def cdA : Nat → Option Nat := E3.look [(3, 1)]
theorem argOk : E3.ArgOk good XK szK Tryd.prog cdA 8 := by
  refine ⟨fun e c h => ?_⟩
  have := E3.look_mem h
  simp only [List.mem_cons, Prod.mk.injEq, List.not_mem_nil, or_false] at this
  obtain ⟨rfl, rfl⟩ := this
  refine ⟨[.int .i64], by kernel_rfl, rfl, rfl, by kernel_rfl, by decide, fun ps h => ?_⟩
  obtain ⟨p, qs, rfl, ⟨n, rfl, h1, h2⟩, rfl⟩ := h
  exact ⟨True, n, rfl, trivial, h1, h2⟩

theorem body : ∃ c, Tryd.f6.body = some c := ⟨_, rfl⟩

theorem contract (H : Type) (enc : TypeId × Value → H) (W : World) (base : Nat) (args : Array Value) (ds gs : List (DataW H)) (before : List MemPlace)
    (hval : ∀ (j : Nat) t v, Tryd.f6.params[j]? = some t → args[j]? = some v → Value.okWide Tryd.prog W .any base t v)
    (hW : DataW.Whole enc Tryd.prog Tryd.f6.params.toList Rows.wordsLooseSpec.vars false W args.toList ds gs before) :
    Calls Tryd.prog 6 args W fun e W' => ∃ v, e = .returned v ∧ Rows.wordsLooseSpec.post enc Tryd.prog Tryd.f6 false true false false W args v W' := by
  have hW' := hW
  obtain ⟨p, q, hA0, _⟩ := hW
  have hA : DataW.TrodAll enc Tryd.prog W 0 (fun _ => true) true Tryd.f6.params.toList args.toList ds p := hA0
  rw [Tryd.params6] at hA hval
  obtain ⟨v1, v2, v3, d1, d2, d3, p1, p2, p3, ha, rfl, rfl, h1, h2, h3⟩ := trodAll_three hA
  subst ha
  obtain ⟨cd, hcd⟩ := body
  have hM : ∀ n : Nat, ¬ (fun _ : Nat => False) n := fun n h => h
  have hsim := E3.simW (W := W) (ng := 0) (Nat.zero_le _)
  have hlt : ∀ nm g x, E3.ghostW W nm g = some x → nm < (E3.heapW W 0).ro := by
    intro nm g x h
    obtain ⟨_, arr, e, fz, hb, _⟩ := E3.ghostW_some h
    exact (Array.getElem?_eq_some_iff.1 hb).1
  obtain ⟨pv1, u1, hleaf1, hrep1, hrelu1⟩ := E3.arg_one (C := cfg sp) (ng := 0) (M := fun _ => False) cfgOk argOk hM (t := 35) (leaf := .list 1) (by kernel_rfl) (by kernel_rfl) (hval 0 35 v1 rfl rfl) h1
  obtain ⟨pv2, u2, hleaf2, hrep2, hrelu2⟩ := E3.arg_one (C := cfg sp) (ng := 0) (M := fun _ => False) cfgOk argOk hM (t := 35) (leaf := .list 1) (by kernel_rfl) (by kernel_rfl) (hval 1 35 v2 rfl rfl) h2
  obtain ⟨pv3, u3, hleaf3, hrep3, hrelu3⟩ := E3.arg_one (C := cfg sp) (ng := 0) (M := fun _ => False) cfgOk argOk hM (t := 35) (leaf := .list 1) (by kernel_rfl) (by kernel_rfl) (hval 2 35 v3 rfl rfl) h3
  obtain ⟨l1, rfl, hll1, hgl1⟩ := hleaf1
  obtain ⟨l2, rfl, hll2, hgl2⟩ := hleaf2
  obtain ⟨l3, rfl, hll3, hgl3⟩ := hleaf3
  have hrel : E2.RelL (E3.ghostW W) W [u1, u2, u3] (#[v1, v2, v3] : Array Value).toList := E2.RelL.cons hrelu1 (E2.RelL.cons hrelu2 (E2.RelL.cons hrelu3 E2.RelL.nil))
  have hstart : E3.Start XK szK (cfg sp) (E3.heapW W 0) (fun _ => False) := by
    refine ⟨fun n hn => ?_, ⟨Nat.le_refl _, rfl, fun gn o h => by cases h⟩, fun n h => h.elim, fun gn ps h => by cases h⟩
    cases hg : (E3.heapW W 0).get n with
    | none => rfl
    | some o =>
      obtain ⟨arr, e, fz, hb, _⟩ := E3.heapW_some hg
      exact absurd (Array.getElem?_eq_some_iff.1 hb).1 (Nat.not_lt.2 hn)
  have hgood : ∀ {l : List Int}, l.length ≤ maxLen → (∀ x ∈ l, E3.I64 x) → goodL l := fun h g => ⟨Int.le_trans (Int.ofNat_le.2 h) (by decide), g⟩
  have hrun := lawLoose_fn quiet awakeOk l1 l2 l3 ⟨hgood hll1 hgl1, hgood hll2 hgl2, hgood hll3 hgl3⟩ _ _ [u1, u2, u3] hstart (.cons hrep1 (.cons hrep2 (.cons hrep3 .nil)))
  refine (E2.callW_calls Tryd.checked.mixed tables spOk Tryd.func6 (by kernel_rfl) hcd hsim hrel hrun).mono fun e W' ⟨v, H', x, G', hR, he, hx, st⟩ => ?_
  obtain ⟨w', hR⟩ := hR
  have hr := hR.rep
  obtain rfl : v = .bool true := by cases hr; rfl
  simp only [E2.Rel] at hx
  subst hx
  subst he
  have hsame : ∀ b, b < W.heap.size → W'.heap[b]? = W.heap[b]? := E3.extW_same st.ext
  refine ⟨_, rfl, E3.post_true_mem (t := 4) hW' rfl rfl Tryd.underlying4 rfl ⟨p1 ++ (p2 ++ p3), ?_⟩ (fun may => st.ext.keptBut hlt may)⟩
  rw [Tryd.params6]
  have ag : ∀ {v : Value} {d : DataW H} {p : List MemPlace}, DataW.Trod enc Tryd.prog W 0 (fun _ => true) true 35 v d p → DataW.Trod enc Tryd.prog W' 0 (fun b => decide (b < W.heap.size)) true 35 v d p := fun h => E3.trod_again (by kernel_rfl) (by kernel_rfl) (Nat.le_of_ble_eq_true (by kernel_rfl)) h hsame _ fun b hb => decide_eq_true hb
  exact trodAll_mk3 (ag h1) (ag h2) (ag h3)

/-- What an integer table reads as, laid out as cells. -/
def cellsOf : Nat → DataW Unit → List Value
  | n + 1, .agg l => l.flatMap (cellsOf n)
  | _ + 1, .lit (.int k i) => [.int k i]
  | _, _ => []

/-- A WORLD FOR THE WITNESS: the settled one, the tables as their initialisers lay them. -/
def lay (g : Nat) (cs : List Value) (heap : Array Obj) : Array Obj :=
  heap.modify g fun
    | .cells _ t frozen => .cells cs.toArray t frozen
    | o => o
def wit : Array Value := #[.slice none 0 0, .slice none 0 0, .slice none 0 0]
noncomputable def laidWorld (os : Os) : World :=
  { World.holding Tryd.prog os ⟨#[], wit, []⟩ with heap := lay 2 (cellsOf 8 Rows.laid_unicode_utf8_acceptRanges) (lay 1 (cellsOf 8 Rows.laid_unicode_utf8_first) ((World.holding Tryd.prog os ⟨#[], wit, []⟩).heap)) }
theorem laid_met (os : Os) : laidMet Tryd.prog Rows.wordsLooseRow.laid ((laidWorld os).forCall (fun _ _ => 0) ⟨#[], wit, []⟩).memory :=
  laidMet_of_run' 8 (by kernel_rfl) (by kernel_rfl)
theorem reads (os : Os) {H : Type} (enc : TypeId × Value → H) : ∃ places, DataW.whole enc Tryd.prog ((laidWorld os).forCall (fun _ _ => 0) ⟨#[], wit, []⟩).memory Tryd.f6.params.toList Rows.wordsLooseSpec.vars false wit.toList 8 = some ([.nil, .nil, .nil], [], places) :=
  ⟨[], by kernel_rfl⟩

theorem lifted (os : Os) (started : os.Started) (H : Type) (enc : TypeId × Value → H) (F : Stop.Interp) :
    ReturnsInHanded {} Tryd.checked os 6 .any ((OpenSpec.ofChange Rows.wordsLooseSpec).preRow enc Tryd.prog Tryd.f6 Rows.wordsLooseRow.domain false Rows.wordsLooseRow.laid) (((OpenSpec.ofChange Rows.wordsLooseSpec).at F).post enc Tryd.prog Tryd.f6 false true false false) := by
  obtain ⟨places, hx⟩ := reads os enc
  refine returnsInHanded_of_row (C := Tryd.checked) (s := OpenSpec.ofChange Rows.wordsLooseSpec) own started (by kernel_rfl) Tryd.func6
    (witness_row_at (enc := enc) (C := Tryd.checked) false (laidWorld os) wit rfl (by kernel_rfl) (by kernel_rfl) (by kernel_rfl)
      (OpenSpec.preRow_of_cond 8 hx (by kernel_rfl) (fun k hk => by cases hk) (by kernel_rfl) (laid_met os))) ?_
  intro W base args ds gs before hval hW _ _ _ hL _ _
  exact contract H enc W base args ds gs before hval hW

theorem said : Rows.WordsLooseSaid :=
  OpenClaim.holds_of_cond 6 Tryd.f6 rfl rfl rfl rfl rfl rfl rfl ⟨rfl, rfl, rfl, rfl, rfl⟩ rfl rfl rfl rfl rfl (by kernel_rfl) Tryd.func6 (by kernel_rfl)
    (of_decide_eq_true (by kernel_rfl)) (by unfold Func.isWrapper; first | (rw [if_pos (by decide +kernel)]; kernel_rfl) | (rw [if_neg (by decide +kernel)]; exact ⟨rfl, rfl⟩))
    (fun os started H enc _ F => by rw [OpenClaim.pre_eq_preRow]; exact lifted os started H enc F)

/-- No parameter wants a stand-in; the program's own looks. -/
theorem plain (f : FuncId) (fn : Func) (hf : Tryd.pinned.checked.prog.funcNamed "tactus/tactuslaw02.WordsLoose" = some f) (hfn : Tryd.pinned.checked.prog.funcs[f]? = some fn) :
    false = Tryd.pinned.checked.prog.looks [] ∧ ∀ (j : Nat) t, fn.params[j]? = some t → Tryd.pinned.checked.prog.wantsStandIn t = false := by
  obtain rfl : f = 6 := Option.some.inj ((show Tryd.prog.funcNamed "tactus/tactuslaw02.WordsLoose" = some 6 by kernel_rfl).symm.trans hf) |>.symm
  obtain rfl : fn = Tryd.f6 := (Option.some.inj (Tryd.func6.symm.trans hfn)).symm
  refine ⟨by kernel_rfl, fun j t ht => ?_⟩
  rw [Tryd.params6] at ht
  have q0 : Tryd.pinned.checked.prog.wantsStandIn 35 = false := by kernel_rfl
  rcases j with _ | _ | _ | j
  · obtain rfl : 35 = t := by simpa using ht
    exact q0
  · obtain rfl : 35 = t := by simpa using ht
    exact q0
  · obtain rfl : 35 = t := by simpa using ht
    exact q0
  · simp at ht

/-- THE CARD. -/
theorem card : Rows.WordsLooseCardSaid :=
  Claim7.holds_tied_plain_at .later [] _ _ _ _ said (fun _ h => by cases h) (by kernel_rfl) (fun _ h => by cases h) wordsLoose_row_tie rfl ⟨rfl, rfl⟩ (by kernel_rfl) rfl plain (by kernel_rfl)
#print axioms card
end Go.Proofs.YtofmpipjklcjhaaDoor.wordsLoose
