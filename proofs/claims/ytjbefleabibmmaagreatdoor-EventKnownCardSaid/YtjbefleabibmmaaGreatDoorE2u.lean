/- E2: FROM A RUN OF E2 TO A CONTRACT of the model's; a function without arguments that answers true. -/
import Derived.Test.YtjbefleabibmmaaGreatDoorE2t
import Derived.ChangeSame
import Derived.RowKit
import Derived.OpenShut
import Derived.Deep.DeepHandedRow
namespace Go.E2
open Go Go.ChangeShapes Go.WideShapes Go.ChangeAt Go.RowKit

section
variable {P : Program} {H H' : Heap} {G : Ghost} {W : World}

theorem CallOk.calls {call : Call} (hc : CallOk P call) {f : FuncId} {fn : Func} {c : Code} (hf : P.funcs[f]? = some fn) (hname : (fn.name == "runtime.NumGoroutine") = false) (hb : fn.body = some c)
    {args : List V} {rargs : Array Value} {r : CR} (h : call (.func f) args H = some (r, H')) (hs : Sim H G W) (hr : RelL G W args rargs.toList) :
    Calls P f rargs W fun e w' => ∃ G', Step H G W H' G' w' ∧ RelEnd G' w' r e := by
  have hinv : (invoke (.fn (.func f) #[]) rargs).run P W = .ok (.enter f rargs) W := by
    have h0 : (invoke (.fn (.func f) #[]) rargs).run P W = (callFunc f (rargs ++ #[])).run P W := rfl
    rw [h0, Array.append_empty, run_callFunc_body hf hname hb]
  rcases hc (.func f) args H r H' h G W (.fn (.func f) #[]) rargs hs ⟨#[], rfl, by simpa using hr⟩ with ⟨x, w', G', v, h1, _⟩ | ⟨f', rargs', h1, h2⟩ | ⟨l, f', t', a', b', h1, _⟩
  · rw [hinv] at h1
    cases h1
  · rw [hinv] at h1
    cases h1
    exact callsIn_wide.1 (h2 Fence.wide 0 ⟨fun _ => trivial, rfl⟩)
  · rw [hinv] at h1
    cases h1

/-- No name at all: E2's memory at the start of a run without arguments. -/
def H0 : Heap := { objs := .nil, next := 0, ro := 0, glob := 0 }

def noG : Ghost := fun _ _ => none

theorem sim_H0 (W : World) : Sim H0 noG W :=
  ⟨fun _ _ _ _ _ h => (by cases h), fun _ _ _ _ _ _ _ _ _ h => (by cases h), fun nm o h _ => absurd h (Nat.not_lt_zero _), Nat.le_refl _, Nat.le_refl _, fun g o h _ => absurd h (Nat.not_lt_zero _)⟩

/-- What was there and has no name is kept. -/
theorem Step.keptBut {w' : World} {G' : Ghost} (h : Step H0 noG W H' G' w') (may : MemPlace → Prop) : W.keptBut w' may := by
  refine ⟨h.ext.out.1, h.ext.out.2, fun i hi => ?_⟩
  have h1 := (h.ext.frg i hi (fun _ _ _ _ h => by cases h)).1
  rw [h1]
  split
  · rename_i h2 h3
    rw [h2] at h3
    cases h3
    exact ⟨rfl, rfl, rfl, fun _ _ => rfl⟩
  · rename_i h2 h3
    rw [h2] at h3
    cases h3
    exact .inr ⟨rfl, rfl⟩
  · rfl

def runsTrue (P : Program) (n f : Nat) : Bool :=
  match callFn (envOf P fun _ => none) n (.func f) [] H0 with
  | some (.ret (.bool b), _) => b
  | _ => false

theorem runsTrue_calls (hm : P.follows .mixedOrders = true) (hok : progOk P = true) {f : FuncId} {fn : Func} {c : Code} (hf : P.funcs[f]? = some fn) (hname : (fn.name == "runtime.NumGoroutine") = false) (hb : fn.body = some c) {n : Nat} (h : runsTrue P n f = true) (W : World) :
    Calls P f #[] W fun e w' => e = .returned (.bool true) ∧ ∀ may, W.keptBut w' may := by
  unfold runsTrue at h
  split at h
  · rename_i b H' hrun
    subst h
    refine ((callFn_ok hm hok n).calls hf hname hb hrun (sim_H0 W) (rargs := #[]) RelL.nil).mono fun e w' ⟨G', st, se⟩ => ?_
    obtain ⟨v, rfl, hv⟩ := se
    simp only [Rel] at hv
    subst hv
    exact ⟨rfl, st.keptBut⟩
  · cases h

/-- A law that has no argument: what its row asks behind the call. -/
theorem post_true {Hd : Type} {enc : TypeId × Value → Hd} {fn : Func} {s : ChangeSpec} {apart fresh handsOn : Bool} {w' : World} {ds gs : List (DataW Hd)} {before : List MemPlace} {t : TypeId}
    (hW : DataW.Whole enc P fn.params.toList s.vars apart W ([] : List Value) ds gs before) (hp : fn.params.toList = []) (hv : s.vars = []) (ht : fn.resultTypes = #[t]) (hu : P.underlying t = some .bool)
    (hfn : s.fn Hd [] = { results := [.lit (.bool true)], args := [] }) (hk : ∀ may, W.keptBut w' may) :
    s.post enc P fn apart fresh handsOn false W #[] (.bool true) w' := by
  have hW' := hW
  obtain ⟨p, q, hA, hV, rfl, _, _⟩ := hW
  rw [hp] at hA
  obtain ⟨_, rfl, rfl⟩ := trodAll_nil hA
  rw [hv] at hV
  obtain ⟨rfl, rfl⟩ := trodVars_none hV
  refine ⟨[], [], [], [], [], [], hW', ?_, ?_, ?_, hk _, fun h => by cases h⟩
  · rw [ht, List.append_nil, hfn]
    exact trodAll_mk1 (shut_bool hu true)
  · rw [hp, List.append_nil, hfn]
    exact trodAll_mk0
  · rw [hv, List.append_nil, hfn]
    rfl

end
end Go.E2
