/- THE LAW WordsSingle of the chapter 02: the call returns true and nothing that was there before it is turned, whatever the text and the byte. No condition beyond its row's own. -/
import Derived.Test.YthjgdmkelfkneaaDoorCards
import Derived.Test.YthjgdmkelfkneaaDoorTie
import Derived.Test.YthjgdmkelfkneaaDoorWordsLaw
import Derived.WalkKit
import Derived.ProofKit
import Derived.OpenShut
import Derived.ChangeMaps5
import Derived.Deep.DeepHandedRow
namespace Go.Proofs.YthjgdmkelfkneaaDoor.wordsSingle
open Go.ChangeShapes Go.WideShapes Go.ChangeAt Go.RowKit Go.ChangeMaps
set_option maxRecDepth 100000

theorem own : ownKnob Tryd.prog.godebug = none := by kernel_rfl
theorem tables : E2.progOk Tryd.prog = true := by kernel_rfl
def awakeF : E2.Fact := { f := 8, args := [], pre := [], next := 3, ro := 3, glob := 3, ret := .bool true, post := [], next' := 56 }
theorem awakeRun : E2.Fact.ok2 awakeF (E2.envOf Tryd.prog (E2.specR [])) 1000 = true := by kernel_rfl
theorem awakeGood : E2.SpecOk Tryd.prog awakeF.f awakeF.tryC := E2.goodC_fact Tryd.checked.mixed tables E2.goodR_nil (by kernel_rfl) awakeRun

/-- The calls that are answered by a fact: that of 'awake'. -/
def sp (f : Nat) : Option (List E2.V → E2.Heap → Option (E2.CR × E2.Heap)) := if f = 8 then some awakeF.tryC else none
theorem quiet : Quiet sp := fun f hf => by unfold sp; rw [if_neg hf]
theorem spOk : ∀ f s, sp f = some s → E2.SpecOk Tryd.prog f s := by
  intro f s h
  unfold sp at h
  split at h
  · rename_i hf
    cases h
    subst hf
    exact awakeGood
  · cases h
theorem awakeTry (H : E2.Heap) (hg : H.glob = NG) : awakeF.tryC [] H = some (.ret (.bool true), H) := by
  have h1 : awakeF.fits [] [] H = true := by
    have hb : Nat.beq H.glob awakeF.glob = true := by rw [hg]; rfl
    simp only [E2.Fact.fits, hb, Bool.and_true]
    rfl
  have h2 : (awakeF.pre.map fun x => (x.1, x.1)) = [] := rfl
  have h3 : Nat.beq awakeF.ro awakeF.next = true := rfl
  have h4 : E2.eqVB awakeF.ret ((E2.renV (fun _ => none) awakeF.ret).getD (.tuple [.nilp])) = true := rfl
  simp only [E2.Fact.tryC, h2, h1, h3, h4, Bool.and_true, cond_true]
  rfl
theorem awakeOk : AwakeOk sp := fun H hg => E2.callW_spec (s := awakeF.tryC) rfl (awakeTry H hg) ⟨rfl, rfl⟩

theorem body : ∃ c, Tryd.f5.body = some c := ⟨_, rfl⟩

theorem contract (H : Type) (enc : TypeId × Value → H) (W : World) (base : Nat) (args : Array Value) (ds gs : List (DataW H)) (before : List MemPlace)
    (hval : ∀ (j : Nat) t v, Tryd.f5.params[j]? = some t → args[j]? = some v → Value.okWide Tryd.prog W .any base t v)
    (hW : DataW.Whole enc Tryd.prog Tryd.f5.params.toList Rows.wordsSingleSpec.vars false W args.toList ds gs before) :
    Calls Tryd.prog 5 args W fun e W' => ∃ v, e = .returned v ∧ Rows.wordsSingleSpec.post enc Tryd.prog Tryd.f5 false true false false W args v W' := by
  have hW' := hW
  obtain ⟨p, q, hA0, _⟩ := hW
  have hA : DataW.TrodAll enc Tryd.prog W 0 (fun _ => true) true Tryd.f5.params.toList args.toList ds p := hA0
  rw [Tryd.params5] at hA hval
  obtain ⟨v1, v2, d1, d2, p1, p2, ha, rfl, rfl, h1, h2⟩ := trodAll_two hA
  subst ha
  obtain ⟨s, rfl, rfl, rfl, hs⟩ := open_string Tryd.underlying9 (hval 0 9 v1 rfl rfl) h1
  obtain ⟨c, rfl, rfl, rfl, hc⟩ := open_int Tryd.underlying5 (hval 1 5 v2 rfl rfl) h2
  have hb := bounds_u8 hc
  obtain ⟨cd, hcd⟩ := body
  have hsim := E2.sim_start (gs := []) (ng := NG) (W := W) (fun x hx => by cases hx)
  have hlt : ∀ nm g x, E2.startG [] nm g = some x → nm < (E2.startH [] NG).ro := by
    intro nm g x h
    obtain ⟨_, cells, e, ge, fl, fz, ex, hq, _⟩ := E2.startG_some h
    cases hq
  have hrel : E2.RelL (E2.startG []) W [.str s.data.toList, .int .u8 c] (#[Value.string s, Value.int .u8 c] : Array Value).toList := by
    simp only [E2.RelL, E2.Rel]
    exact ⟨_, _, rfl, rfl, _, _, rfl, rfl, rfl⟩
  refine (E2.callW_calls Tryd.checked.mixed tables spOk Tryd.func5 (by kernel_rfl) hcd hsim hrel (law_runs quiet s.data.toList c _ awakeOk rfl hb.1 (by omega))).mono fun e W' ⟨v, H', x, G', hR, he, hx, st⟩ => ?_
  obtain ⟨rfl, _⟩ := hR
  simp only [E2.Rel] at hx
  subst hx
  subst he
  refine ⟨_, rfl, E2.post_true_args (t := 4) hW' rfl rfl Tryd.underlying4 rfl (fun sp => ⟨[] ++ [], ?_⟩) (fun may => st.ext.keptBut hlt may)⟩
  rw [Tryd.params5]
  exact trodAll_mk2 (shut_string Tryd.underlying9 hs) (shut_int Tryd.underlying5 hc)

/-- What an integer table reads as, laid out as cells. -/
def cellsOf : Nat → DataW Unit → List Value
  | n + 1, .agg l => l.flatMap (cellsOf n)
  | _ + 1, .lit (.int k i) => [.int k i]
  | _, _ => []

/-- A WORLD FOR THE WITNESS: the settled one, the two tables as their initialisers lay them. -/
def lay (g : Nat) (cs : List Value) (heap : Array Obj) : Array Obj :=
  heap.modify g fun
    | .cells _ t frozen => .cells cs.toArray t frozen
    | o => o
def wit : Array Value := #[.string ⟨#[]⟩, .int .u8 0]
noncomputable def laidWorld (os : Os) : World :=
  { World.holding Tryd.prog os ⟨#[], wit, []⟩ with heap := lay 1 (cellsOf 8 Rows.laid_unicode_utf8_first) (lay 2 (cellsOf 8 Rows.laid_unicode_utf8_acceptRanges) (World.holding Tryd.prog os ⟨#[], wit, []⟩).heap) }
theorem laid_met (os : Os) : laidMet Tryd.prog Rows.wordsSingleRow.laid ((laidWorld os).forCall (fun _ _ => 0) ⟨#[], wit, []⟩).memory :=
  laidMet_of_run' 8 (by kernel_rfl) (by kernel_rfl)
theorem reads (os : Os) {H : Type} (enc : TypeId × Value → H) : ∃ places, DataW.whole enc Tryd.prog ((laidWorld os).forCall (fun _ _ => 0) ⟨#[], wit, []⟩).memory Tryd.f5.params.toList Rows.wordsSingleSpec.vars false wit.toList 8 = some ([.lit (.string []), .lit (.int .u8 0)], [], places) :=
  ⟨[], by kernel_rfl⟩

theorem lifted (os : Os) (started : os.Started) (H : Type) (enc : TypeId × Value → H) (F : Stop.Interp) :
    ReturnsInHanded {} Tryd.checked os 5 .any ((OpenSpec.ofChange Rows.wordsSingleSpec).preRow enc Tryd.prog Tryd.f5 Rows.wordsSingleRow.domain false Rows.wordsSingleRow.laid) (((OpenSpec.ofChange Rows.wordsSingleSpec).at F).post enc Tryd.prog Tryd.f5 false true false false) := by
  obtain ⟨places, hx⟩ := reads os enc
  refine returnsInHanded_of_row (C := Tryd.checked) (s := OpenSpec.ofChange Rows.wordsSingleSpec) own started (by kernel_rfl) Tryd.func5
    (witness_row_at (enc := enc) (C := Tryd.checked) false (laidWorld os) wit rfl (by kernel_rfl) (by kernel_rfl) (by kernel_rfl)
      (OpenSpec.preRow_of_cond 8 hx (by kernel_rfl) (fun k hk => by cases hk) (by kernel_rfl) (laid_met os))) ?_
  intro W base args ds gs before hval hW _ _ _ hL _ _
  exact contract H enc W base args ds gs before hval hW

theorem said : Rows.WordsSingleSaid :=
  OpenClaim.holds_of_cond 5 Tryd.f5 rfl rfl rfl rfl rfl rfl rfl ⟨rfl, rfl, rfl, rfl, rfl⟩ rfl rfl rfl rfl rfl (by kernel_rfl) Tryd.func5 (by kernel_rfl)
    (of_decide_eq_true (by kernel_rfl)) (by unfold Func.isWrapper; first | (rw [if_pos (by decide +kernel)]; kernel_rfl) | (rw [if_neg (by decide +kernel)]; exact ⟨rfl, rfl⟩))
    (fun os started H enc _ F => by rw [OpenClaim.pre_eq_preRow]; exact lifted os started H enc F)

/-- No parameter wants a stand-in; the program's own looks are off. -/
theorem plain (f : FuncId) (fn : Func) (hf : Tryd.pinned.checked.prog.funcNamed "tactus/tactuslaw02.WordsSingle" = some f) (hfn : Tryd.pinned.checked.prog.funcs[f]? = some fn) :
    false = Tryd.pinned.checked.prog.looks [] ∧ ∀ (j : Nat) t, fn.params[j]? = some t → Tryd.pinned.checked.prog.wantsStandIn t = false := by
  obtain rfl : f = 5 := Option.some.inj ((show Tryd.prog.funcNamed "tactus/tactuslaw02.WordsSingle" = some 5 by kernel_rfl).symm.trans hf) |>.symm
  obtain rfl : fn = Tryd.f5 := (Option.some.inj (Tryd.func5.symm.trans hfn)).symm
  refine ⟨by kernel_rfl, fun j t ht => ?_⟩
  rw [Tryd.params5] at ht
  have h9 : Tryd.pinned.checked.prog.wantsStandIn 9 = false := by kernel_rfl
  have h5 : Tryd.pinned.checked.prog.wantsStandIn 5 = false := by kernel_rfl
  rcases j with _ | _ | j
  · obtain rfl : 9 = t := by simpa using ht
    exact h9
  · obtain rfl : 5 = t := by simpa using ht
    exact h5
  · simp at ht

/-- THE CARD. -/
theorem card : Rows.WordsSingleCardSaid :=
  Claim7.holds_tied_plain_at .later [] _ _ _ _ said (fun _ h => by cases h) (by kernel_rfl) (fun _ h => by cases h) wordsSingle_row_tie rfl ⟨rfl, rfl⟩ (by kernel_rfl) rfl plain (by kernel_rfl)
#print axioms card
end Go.Proofs.YthjgdmkelfkneaaDoor.wordsSingle
