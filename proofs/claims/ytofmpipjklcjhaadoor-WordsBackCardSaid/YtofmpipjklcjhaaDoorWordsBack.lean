/- THE LAW WordsBack of the chapter 2: the call returns true and nothing that was there before it is turned, whatever the arguments. No condition beyond its row's own. -/
import Derived.Test.YtofmpipjklcjhaaDoorCards
import Derived.Test.YtofmpipjklcjhaaDoorTie
import Derived.Test.YtofmpipjklcjhaaDoorFns
import Derived.Test.YtofmpipjklcjhaaDoorM5
import Derived.WalkKit
import Derived.ProofKit
import Derived.OpenShut
import Derived.ChangeMaps5
import Derived.Deep.DeepHandedRow
namespace Go.Proofs.YtofmpipjklcjhaaDoor.wordsBack
open Go.ChangeShapes Go.WideShapes Go.ChangeAt Go.RowKit Go.ChangeMaps
set_option maxRecDepth 100000

theorem own : ownKnob Tryd.prog.godebug = none := by kernel_rfl
theorem tables : E2.progOk Tryd.prog = true := by kernel_rfl
def awakeF : E2.Fact := { f := 15, args := [], pre := [], next := 0, ro := 0, glob := 0, ret := .bool true, post := [], next' := 171 }
theorem awakeRun : E2.Fact.ok2 awakeF (E2.envOf Tryd.prog (E2.specR [])) 1000 = true := by kernel_rfl
theorem awakeGood : E2.SpecOk Tryd.prog awakeF.f awakeF.tryC := E2.goodC_fact Tryd.checked.mixed tables E2.goodR_nil (by kernel_rfl) awakeRun

/-- The calls that are answered by a fact: that of 'awake'. -/
def sp (f : Nat) : Option (List E2.V → E2.Heap → Option (E2.CR × E2.Heap)) := if f = 15 then some awakeF.tryC else none
theorem quiet2 : E3.Quiet2 (cfg sp) := fun f hf => by
  show sp f = none
  unfold sp
  rw [if_neg]
  rintro rfl
  cases hf
theorem quiet : E3.Quiet3 (cfg sp) := ⟨quiet2, E3.prim_of (C := cfg sp) (F := 29) (tB := 59) (tS := 57) (tQ := 79) (tI := 3) (tU := 5) rfl rfl (by kernel_rfl) fun el h => by
  have := E3.look_mem h
  simp only [codecL, List.mem_cons, Prod.mk.injEq, List.not_mem_nil, or_false] at this
  rcases this with ⟨h1, h2⟩ | ⟨h1, h2⟩ | ⟨h1, h2⟩ | ⟨h1, h2⟩ | ⟨h1, h2⟩ <;> first | exact h1 | cases h2⟩
theorem spOk : ∀ f s, sp f = some s → E2.SpecOk Tryd.prog f s := by
  intro f s h
  unfold sp at h
  split at h
  · rename_i hf
    cases h
    subst hf
    exact awakeGood
  · cases h
theorem awakeTry (H : E2.Heap) (hg : H.glob = 0) : awakeF.tryC [] H = some (.ret (.bool true), H) := by
  have h1 : awakeF.fits [] [] H = true := by
    have hb : Nat.beq H.glob awakeF.glob = true := by rw [hg]; rfl
    simp only [E2.Fact.fits, hb, Bool.and_true]
    rfl
  have h2 : (awakeF.pre.map fun x => (x.1, x.1)) = [] := rfl
  have h3 : Nat.beq awakeF.ro awakeF.next = true := rfl
  have h4 : E2.eqVB awakeF.ret ((E2.renV (fun _ => none) awakeF.ret).getD (.tuple [.nilp])) = true := rfl
  simp only [E2.Fact.tryC, h2, h1, h3, h4, Bool.and_true, cond_true]
  rfl
theorem awakeCall (H : E2.Heap) (hg : H.glob = (cfg sp).ng) : E2.CallW (cfg sp).E (.func 15) [] H fun v H' => v = .bool true ∧ H' = H := E2.callW_spec (s := awakeF.tryC) rfl (awakeTry H hg) ⟨rfl, rfl⟩
theorem awakeFn : E3.FnOk XK szK (cfg sp) 15 [] known_res := E3.fn_const cfgOk2 (v := .bool true) .sb rfl awakeCall fun H M => .sb .rfl .rfl fun h0 => absurd rfl h0
theorem awakeOk : E3.CtOk XK szK (cfg sp) 15 ct15 := by
  intro ns pre r h hp
  unfold ct15 at h
  dsimp only at h
  split at h
  · cases h
    exact ⟨_, rfl, awakeFn, E3.formB_ok rfl⟩
  · cases h

/-! ### The first argument: a list of numbers -/
def good : ∀ c, KT c → Prop
  | 1 => fun n => E3.I64 n
  | _ => fun _ => True
def cdA : Nat → Option Nat := E3.look [(3, 1)]
theorem argOk : E3.ArgOk good XK szK Tryd.prog cdA 8 := by
  refine ⟨fun e c h => ?_⟩
  have := E3.look_mem h
  simp only [List.mem_cons, Prod.mk.injEq, List.not_mem_nil, or_false] at this
  obtain ⟨rfl, rfl⟩ := this
  refine ⟨[.int .i64], by kernel_rfl, rfl, rfl, by kernel_rfl, by decide, fun ps h => ?_⟩
  obtain ⟨p, qs, rfl, ⟨n, rfl, h1, h2⟩, rfl⟩ := h
  exact ⟨True, n, rfl, trivial, h1, h2⟩

theorem body : ∃ c, Tryd.f5.body = some c := ⟨_, rfl⟩

theorem contract (H : Type) (enc : TypeId × Value → H) (W : World) (base : Nat) (args : Array Value) (ds gs : List (DataW H)) (before : List MemPlace)
    (hval : ∀ (j : Nat) t v, Tryd.f5.params[j]? = some t → args[j]? = some v → Value.okWide Tryd.prog W .any base t v)
    (hW : DataW.Whole enc Tryd.prog Tryd.f5.params.toList Rows.wordsBackSpec.vars false W args.toList ds gs before) :
    Calls Tryd.prog 5 args W fun e W' => ∃ v, e = .returned v ∧ Rows.wordsBackSpec.post enc Tryd.prog Tryd.f5 false true false false W args v W' := by
  have hW' := hW
  obtain ⟨p, q, hA0, _⟩ := hW
  have hA : DataW.TrodAll enc Tryd.prog W 0 (fun _ => true) true Tryd.f5.params.toList args.toList ds p := hA0
  rw [Tryd.params5] at hA hval
  obtain ⟨v1, v2, d1, d2, p1, p2, ha, rfl, rfl, h1, h2⟩ := trodAll_two hA
  subst ha
  obtain ⟨s, rfl, rfl, rfl, hs⟩ := open_string Tryd.underlying9 (hval 1 9 v2 rfl rfl) h2
  obtain ⟨cd, hcd⟩ := body
  have hM : ∀ n : Nat, ¬ (fun _ : Nat => False) n := fun n h => h
  have hsim := E3.simW (W := W) (ng := 0) (Nat.zero_le _)
  have hlt : ∀ nm g x, E3.ghostW W nm g = some x → nm < (E3.heapW W 0).ro := by
    intro nm g x h
    obtain ⟨_, arr, e, fz, hb, _⟩ := E3.ghostW_some h
    exact (Array.getElem?_eq_some_iff.1 hb).1
  obtain ⟨pv, u, hleaf, hrep, hrelu⟩ := E3.arg_one (C := cfg sp) (ng := 0) (M := fun _ => False) cfgOk argOk hM (t := 35) (leaf := .list 1) (by kernel_rfl) (by kernel_rfl) (hval 0 35 v1 rfl rfl) h1
  obtain ⟨l, rfl, hll, hgl⟩ := hleaf
  have hrel : E2.RelL (E3.ghostW W) W [u, .str s.data.toList] (#[v1, Value.string s] : Array Value).toList := by
    refine E2.RelL.cons hrelu (E2.RelL.cons ?_ E2.RelL.nil)
    simp only [E2.Rel]
  have hstart : E3.Start XK szK (cfg sp) (E3.heapW W 0) (fun _ => False) := by
    refine ⟨fun n hn => ?_, ⟨Nat.le_refl _, rfl⟩, fun n h => h.elim, fun gn ps h => by cases h⟩
    cases hg : (E3.heapW W 0).get n with
    | none => rfl
    | some o =>
      obtain ⟨arr, e, fz, hb, _⟩ := E3.heapW_some hg
      exact absurd (Array.getElem?_eq_some_iff.1 hb).1 (Nat.not_lt.2 hn)
  have hgood : goodL l := ⟨Int.le_trans (Int.ofNat_le.2 hll) (by decide), hgl⟩
  have hrun := lawBack_fn quiet awakeOk l s.data.toList hgood _ _ [u, .str s.data.toList] hstart (.cons hrep (.cons .str .nil))
  refine (E2.callW_calls Tryd.checked.mixed tables spOk Tryd.func5 (by kernel_rfl) hcd hsim hrel hrun).mono fun e W' ⟨v, H', x, G', hR, he, hx, st⟩ => ?_
  obtain ⟨w', hR⟩ := hR
  have hr := hR.rep
  obtain rfl : v = .bool true := by cases hr; rfl
  simp only [E2.Rel] at hx
  subst hx
  subst he
  have hsame : ∀ b, b < W.heap.size → W'.heap[b]? = W.heap[b]? := E3.extW_same st.ext
  refine ⟨_, rfl, E3.post_true_mem (t := 4) hW' rfl rfl Tryd.underlying4 rfl ⟨p1 ++ [], ?_⟩ (fun may => st.ext.keptBut hlt may)⟩
  rw [Tryd.params5]
  exact trodAll_mk2 (E3.trod_again (by kernel_rfl) (by kernel_rfl) (Nat.le_of_ble_eq_true (by kernel_rfl)) h1 hsame _ fun b hb => decide_eq_true hb) (shut_string Tryd.underlying9 hs)

/-- What an integer table reads as, laid out as cells. -/
def cellsOf : Nat → DataW Unit → List Value
  | n + 1, .agg l => l.flatMap (cellsOf n)
  | _ + 1, .lit (.int k i) => [.int k i]
  | _, _ => []

/-- A WORLD FOR THE WITNESS: the settled one, the tables as their initialisers lay them. -/
def lay (g : Nat) (cs : List Value) (heap : Array Obj) : Array Obj :=
  heap.modify g fun
    | .cells _ t frozen => .cells cs.toArray t frozen
    | o => o
def wit : Array Value := #[.slice none 0 0, .string ⟨#[]⟩]
noncomputable def laidWorld (os : Os) : World :=
  { World.holding Tryd.prog os ⟨#[], wit, []⟩ with heap := lay 2 (cellsOf 8 Rows.laid_unicode_utf8_acceptRanges) (lay 1 (cellsOf 8 Rows.laid_unicode_utf8_first) ((World.holding Tryd.prog os ⟨#[], wit, []⟩).heap)) }
theorem laid_met (os : Os) : laidMet Tryd.prog Rows.wordsBackRow.laid ((laidWorld os).forCall (fun _ _ => 0) ⟨#[], wit, []⟩).memory :=
  laidMet_of_run' 8 (by kernel_rfl) (by kernel_rfl)
theorem reads (os : Os) {H : Type} (enc : TypeId × Value → H) : ∃ places, DataW.whole enc Tryd.prog ((laidWorld os).forCall (fun _ _ => 0) ⟨#[], wit, []⟩).memory Tryd.f5.params.toList Rows.wordsBackSpec.vars false wit.toList 8 = some ([.nil, .lit (.string [])], [], places) :=
  ⟨[], by kernel_rfl⟩

theorem lifted (os : Os) (started : os.Started) (H : Type) (enc : TypeId × Value → H) (F : Stop.Interp) :
    ReturnsInHanded {} Tryd.checked os 5 .any ((OpenSpec.ofChange Rows.wordsBackSpec).preRow enc Tryd.prog Tryd.f5 Rows.wordsBackRow.domain false Rows.wordsBackRow.laid) (((OpenSpec.ofChange Rows.wordsBackSpec).at F).post enc Tryd.prog Tryd.f5 false true false false) := by
  obtain ⟨places, hx⟩ := reads os enc
  refine returnsInHanded_of_row (C := Tryd.checked) (s := OpenSpec.ofChange Rows.wordsBackSpec) own started (by kernel_rfl) Tryd.func5
    (witness_row_at (enc := enc) (C := Tryd.checked) false (laidWorld os) wit rfl (by kernel_rfl) (by kernel_rfl) (by kernel_rfl)
      (OpenSpec.preRow_of_cond 8 hx (by kernel_rfl) (fun k hk => by cases hk) (by kernel_rfl) (laid_met os))) ?_
  intro W base args ds gs before hval hW _ _ _ hL _ _
  exact contract H enc W base args ds gs before hval hW

theorem said : Rows.WordsBackSaid :=
  OpenClaim.holds_of_cond 5 Tryd.f5 rfl rfl rfl rfl rfl rfl rfl ⟨rfl, rfl, rfl, rfl, rfl⟩ rfl rfl rfl rfl rfl (by kernel_rfl) Tryd.func5 (by kernel_rfl)
    (of_decide_eq_true (by kernel_rfl)) (by unfold Func.isWrapper; first | (rw [if_pos (by decide +kernel)]; kernel_rfl) | (rw [if_neg (by decide +kernel)]; exact ⟨rfl, rfl⟩))
    (fun os started H enc _ F => by rw [OpenClaim.pre_eq_preRow]; exact lifted os started H enc F)

/-- No parameter wants a stand-in; the program's own looks. -/
theorem plain (f : FuncId) (fn : Func) (hf : Tryd.pinned.checked.prog.funcNamed "tactus/tactuslaw02.WordsBack" = some f) (hfn : Tryd.pinned.checked.prog.funcs[f]? = some fn) :
    false = Tryd.pinned.checked.prog.looks [] ∧ ∀ (j : Nat) t, fn.params[j]? = some t → Tryd.pinned.checked.prog.wantsStandIn t = false := by
  obtain rfl : f = 5 := Option.some.inj ((show Tryd.prog.funcNamed "tactus/tactuslaw02.WordsBack" = some 5 by kernel_rfl).symm.trans hf) |>.symm
  obtain rfl : fn = Tryd.f5 := (Option.some.inj (Tryd.func5.symm.trans hfn)).symm
  refine ⟨by kernel_rfl, fun j t ht => ?_⟩
  rw [Tryd.params5] at ht
  have q0 : Tryd.pinned.checked.prog.wantsStandIn 35 = false := by kernel_rfl
  have q1 : Tryd.pinned.checked.prog.wantsStandIn 9 = false := by kernel_rfl
  rcases j with _ | _ | j
  · obtain rfl : 35 = t := by simpa using ht
    exact q0
  · obtain rfl : 9 = t := by simpa using ht
    exact q1
  · simp at ht

/-- THE CARD. -/
theorem card : Rows.WordsBackCardSaid :=
  Claim7.holds_tied_plain_at .later [] _ _ _ _ said (fun _ h => by cases h) (by kernel_rfl) (fun _ h => by cases h) wordsBack_row_tie rfl ⟨rfl, rfl⟩ (by kernel_rfl) rfl plain (by kernel_rfl)
#print axioms card
end Go.Proofs.YtofmpipjklcjhaaDoor.wordsBack
