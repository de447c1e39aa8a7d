/- THE LAW WordsRows of the chapter 2: the call returns true and nothing that was there before it is turned, whatever the arguments. No condition beyond its row's own. -/
import Derived.Test.YtofmpipjklcjhaaDoorCards
import Derived.Test.YtofmpipjklcjhaaDoorTie
import Derived.Test.YtofmpipjklcjhaaDoorFns
import Derived.WalkKit
import Derived.ProofKit
import Derived.OpenShut
import Derived.ChangeMaps5
import Derived.Deep.DeepHandedRow
namespace Go.Proofs.YtofmpipjklcjhaaDoor.wordsRows
open Go.ChangeShapes Go.WideShapes Go.ChangeAt Go.RowKit Go.ChangeMaps
set_option maxRecDepth 100000

theorem own : ownKnob Tryd.prog.godebug = none := by kernel_rfl
theorem tables : E2.progOk Tryd.prog = true := by kernel_rfl
def awakeF : E2.Fact := { f := 7, args := [], pre := [], next := 3, ro := 3, glob := 3, ret := .bool true, post := [], next' := 56 }
theorem awakeRun : E2.Fact.ok2 awakeF (E2.envOf Tryd.prog (E2.specR [])) 1000 = true := by kernel_rfl
theorem awakeGood : E2.SpecOk Tryd.prog awakeF.f awakeF.tryC := E2.goodC_fact Tryd.checked.mixed tables E2.goodR_nil (by kernel_rfl) awakeRun

/-- The calls that are answered by a fact: that of 'awake'. -/
def sp (f : Nat) : Option (List E2.V → E2.Heap → Option (E2.CR × E2.Heap)) := if f = 7 then some awakeF.tryC else none
theorem quiet : E3.Quiet3 (cfg sp) := fun f hf => by
  show sp f = none
  unfold sp
  rw [if_neg]
  rintro rfl
  cases hf
theorem spOk : ∀ f s, sp f = some s → E2.SpecOk Tryd.prog f s := by
  intro f s h
  unfold sp at h
  split at h
  · rename_i hf
    cases h
    subst hf
    exact awakeGood
  · cases h
theorem awakeTry (H : E2.Heap) (hg : H.glob = 3) : awakeF.tryC [] H = some (.ret (.bool true), H) := by
  have h1 : awakeF.fits [] [] H = true := by
    have hb : Nat.beq H.glob awakeF.glob = true := by rw [hg]; rfl
    simp only [E2.Fact.fits, hb, Bool.and_true]
    rfl
  have h2 : (awakeF.pre.map fun x => (x.1, x.1)) = [] := rfl
  have h3 : Nat.beq awakeF.ro awakeF.next = true := rfl
  have h4 : E2.eqVB awakeF.ret ((E2.renV (fun _ => none) awakeF.ret).getD (.tuple [.nilp])) = true := rfl
  simp only [E2.Fact.tryC, h2, h1, h3, h4, Bool.and_true, cond_true]
  rfl
theorem awakeCall (H : E2.Heap) (hg : H.glob = (cfg sp).ng) : E2.CallW (cfg sp).E (.func 7) [] H fun v H' => v = .bool true ∧ H' = H := E2.callW_spec (s := awakeF.tryC) rfl (awakeTry H hg) ⟨rfl, rfl⟩
theorem awakeFn : E3.FnOk XK szK (cfg sp) 7 [] awake_res := E3.fn_const cfgOk2 (v := .bool true) .sb rfl awakeCall fun H M => .sb .rfl .rfl fun h0 => absurd rfl h0
theorem awakeOk : E3.CtOk XK szK (cfg sp) 7 ct7 := by
  intro ns pre r h hp
  unfold ct7 at h
  dsimp only at h
  split at h
  · cases h
    exact ⟨_, rfl, awakeFn, E3.formB_ok rfl⟩
  · cases h

theorem body : ∃ c, Tryd.f3.body = some c := ⟨_, rfl⟩

theorem contract (H : Type) (enc : TypeId × Value → H) (W : World) (base : Nat) (args : Array Value) (ds gs : List (DataW H)) (before : List MemPlace)
    (hval : ∀ (j : Nat) t v, Tryd.f3.params[j]? = some t → args[j]? = some v → Value.okWide Tryd.prog W .any base t v)
    (hW : DataW.Whole enc Tryd.prog Tryd.f3.params.toList Rows.wordsRowsSpec.vars false W args.toList ds gs before) :
    Calls Tryd.prog 3 args W fun e W' => ∃ v, e = .returned v ∧ Rows.wordsRowsSpec.post enc Tryd.prog Tryd.f3 false true false false W args v W' := by
  have hW' := hW
  obtain ⟨p, q, hA0, _⟩ := hW
  have hA : DataW.TrodAll enc Tryd.prog W 0 (fun _ => true) true Tryd.f3.params.toList args.toList ds p := hA0
  rw [Tryd.params3] at hA hval
  obtain ⟨v1, d1, ha, rfl, h1⟩ := trodAll_one hA
  subst ha
  obtain ⟨s, rfl, rfl, rfl, hs⟩ := open_string Tryd.underlying9 (hval 0 9 v1 rfl rfl) h1
  obtain ⟨cd, hcd⟩ := body
  have hsim := E2.sim_start (gs := []) (ng := 3) (W := W) (fun x hx => by cases hx)
  have hlt : ∀ nm g x, E2.startG [] nm g = some x → nm < (E2.startH [] 3).ro := by
    intro nm g x h
    obtain ⟨_, cells, e, ge, fl, fz, ex, hq, _⟩ := E2.startG_some h
    cases hq
  have hrel : E2.RelL (E2.startG []) W [.str s.data.toList] (#[Value.string s] : Array Value).toList := by
    simp only [E2.RelL, E2.Rel]
    exact ⟨_, _, rfl, rfl, rfl⟩
  have hstart : E3.Start XK szK (cfg sp) (E2.startH [] 3) (fun _ => False) := ⟨fun n _ => rfl, ⟨Nat.le_refl _, rfl⟩, fun n h => h.elim, fun gn ps h => by cases h⟩
  have hrun := lawRows_fn quiet awakeOk s.data.toList _ _ [.str s.data.toList] hstart (.cons .str .nil)
  refine (E2.callW_calls Tryd.checked.mixed tables spOk Tryd.func3 (by kernel_rfl) hcd hsim hrel hrun).mono fun e W' ⟨v, H', x, G', hR, he, hx, st⟩ => ?_
  obtain ⟨w', hR⟩ := hR
  have hr := hR.rep
  obtain rfl : v = .bool true := by cases hr; rfl
  simp only [E2.Rel] at hx
  subst hx
  subst he
  refine ⟨_, rfl, E2.post_true_args (t := 4) hW' rfl rfl Tryd.underlying4 rfl (fun sp => ⟨[], ?_⟩) (fun may => st.ext.keptBut hlt may)⟩
  rw [Tryd.params3]
  exact trodAll_mk1 (shut_string Tryd.underlying9 hs)

/-- What an integer table reads as, laid out as cells. -/
def cellsOf : Nat → DataW Unit → List Value
  | n + 1, .agg l => l.flatMap (cellsOf n)
  | _ + 1, .lit (.int k i) => [.int k i]
  | _, _ => []

/-- A WORLD FOR THE WITNESS: the settled one, the tables as their initialisers lay them. -/
def lay (g : Nat) (cs : List Value) (heap : Array Obj) : Array Obj :=
  heap.modify g fun
    | .cells _ t frozen => .cells cs.toArray t frozen
    | o => o
def wit : Array Value := #[.string ⟨#[]⟩]
noncomputable def laidWorld (os : Os) : World :=
  { World.holding Tryd.prog os ⟨#[], wit, []⟩ with heap := lay 2 (cellsOf 8 Rows.laid_unicode_utf8_acceptRanges) (lay 1 (cellsOf 8 Rows.laid_unicode_utf8_first) ((World.holding Tryd.prog os ⟨#[], wit, []⟩).heap)) }
theorem laid_met (os : Os) : laidMet Tryd.prog Rows.wordsRowsRow.laid ((laidWorld os).forCall (fun _ _ => 0) ⟨#[], wit, []⟩).memory :=
  laidMet_of_run' 8 (by kernel_rfl) (by kernel_rfl)
theorem reads (os : Os) {H : Type} (enc : TypeId × Value → H) : ∃ places, DataW.whole enc Tryd.prog ((laidWorld os).forCall (fun _ _ => 0) ⟨#[], wit, []⟩).memory Tryd.f3.params.toList Rows.wordsRowsSpec.vars false wit.toList 8 = some ([.lit (.string [])], [], places) :=
  ⟨[], by kernel_rfl⟩

theorem lifted (os : Os) (started : os.Started) (H : Type) (enc : TypeId × Value → H) (F : Stop.Interp) :
    ReturnsInHanded {} Tryd.checked os 3 .any ((OpenSpec.ofChange Rows.wordsRowsSpec).preRow enc Tryd.prog Tryd.f3 Rows.wordsRowsRow.domain false Rows.wordsRowsRow.laid) (((OpenSpec.ofChange Rows.wordsRowsSpec).at F).post enc Tryd.prog Tryd.f3 false true false false) := by
  obtain ⟨places, hx⟩ := reads os enc
  refine returnsInHanded_of_row (C := Tryd.checked) (s := OpenSpec.ofChange Rows.wordsRowsSpec) own started (by kernel_rfl) Tryd.func3
    (witness_row_at (enc := enc) (C := Tryd.checked) false (laidWorld os) wit rfl (by kernel_rfl) (by kernel_rfl) (by kernel_rfl)
      (OpenSpec.preRow_of_cond 8 hx (by kernel_rfl) (fun k hk => by cases hk) (by kernel_rfl) (laid_met os))) ?_
  intro W base args ds gs before hval hW _ _ _ hL _ _
  exact contract H enc W base args ds gs before hval hW

theorem said : Rows.WordsRowsSaid :=
  OpenClaim.holds_of_cond 3 Tryd.f3 rfl rfl rfl rfl rfl rfl rfl ⟨rfl, rfl, rfl, rfl, rfl⟩ rfl rfl rfl rfl rfl (by kernel_rfl) Tryd.func3 (by kernel_rfl)
    (of_decide_eq_true (by kernel_rfl)) (by unfold Func.isWrapper; first | (rw [if_pos (by decide +kernel)]; kernel_rfl) | (rw [if_neg (by decide +kernel)]; exact ⟨rfl, rfl⟩))
    (fun os started H enc _ F => by rw [OpenClaim.pre_eq_preRow]; exact lifted os started H enc F)

/-- No parameter wants a stand-in; the program's own looks. -/
theorem plain (f : FuncId) (fn : Func) (hf : Tryd.pinned.checked.prog.funcNamed "tactus/tactuslaw02.WordsRows" = some f) (hfn : Tryd.pinned.checked.prog.funcs[f]? = some fn) :
    false = Tryd.pinned.checked.prog.looks [] ∧ ∀ (j : Nat) t, fn.params[j]? = some t → Tryd.pinned.checked.prog.wantsStandIn t = false := by
  obtain rfl : f = 3 := Option.some.inj ((show Tryd.prog.funcNamed "tactus/tactuslaw02.WordsRows" = some 3 by kernel_rfl).symm.trans hf) |>.symm
  obtain rfl : fn = Tryd.f3 := (Option.some.inj (Tryd.func3.symm.trans hfn)).symm
  refine ⟨by kernel_rfl, fun j t ht => ?_⟩
  rw [Tryd.params3] at ht
  have q0 : Tryd.pinned.checked.prog.wantsStandIn 9 = false := by kernel_rfl
  rcases j with _ | j
  · obtain rfl : 9 = t := by simpa using ht
    exact q0
  · simp at ht

/-- THE CARD. -/
theorem card : Rows.WordsRowsCardSaid :=
  Claim7.holds_tied_plain_at .later [] _ _ _ _ said (fun _ h => by cases h) (by kernel_rfl) (fun _ h => by cases h) wordsRows_row_tie rfl ⟨rfl, rfl⟩ (by kernel_rfl) rfl plain (by kernel_rfl)
#print axioms card
end Go.Proofs.YtofmpipjklcjhaaDoor.wordsRows
