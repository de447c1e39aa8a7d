/- E2: CALLS: what E2 makes of a function the model makes of it. -/
import Derived.Test.YtchmjfblflimoaaDoorE2r
import Derived.Laws.Externs
namespace Go.E2
open Go

section
variable {P : Program} {sp : Nat → Option (List V → Heap → Option (CR × Heap))} {H : Heap} {G : Ghost} {w : World} {fr : Fr} {a : Act}

/-- What a function without a body comes to. -/
def ExtOk (P : Program) : Prop :=
  ∀ f fn args v, P.funcs[f]? = some fn → fn.body = none → extV (extOf fn.name) args = some v → ∀ G w (rargs : Array Value), RelL G w args rargs.toList →
    ∃ x w', (callFunc f rargs).run P w = .ok (.value x) w' ∧ w'.heap = w.heap ∧ (w'.os = w.os ∧ w'.output = w.output) ∧ Rel G w v x

/-- What is asked of a law proved elsewhere for a function. -/
def SpecOk (P : Program) (f : Nat) (s : List V → Heap → Option (CR × Heap)) : Prop :=
  ∀ args H r H', s args H = some (r, H') → ∀ G w rargs, Sim H G w → RelL G w args rargs.toList → ∃ fn c, P.funcs[f]? = some fn ∧ (fn.name == "runtime.NumGoroutine") = false ∧ fn.body = some c ∧
    ∀ F n, WideF F → CallsIn F n P f rargs w fun e w' => ∃ G', Step H G w H' G' w' ∧ RelEnd G' w' r e

theorem run_callFunc_body {f : FuncId} {fn : Func} {c : Code} (hf : P.funcs[f]? = some fn) (hname : (fn.name == "runtime.NumGoroutine") = false) (hb : fn.body = some c) (args : Array Value) (w : World) :
    (callFunc f args).run P w = .ok (.enter f args) w := by
  have h1 : fn.name ≠ "runtime.NumGoroutine" := by simpa using hname
  simp [callFunc, hf, h1, hb]

def resOf (tmps : Array Value) : ResultVar → Sem Value
  | .tmp t => pure (tmps.getD t undef)
  | .cell a t => do loadVar t (← asAddr (tmps.getD a undef))

theorem results_sound (hs : Sim H G w) (e : SimFr G w fr a) : ∀ (rs : List ResultVar) (vs : List V), resultsV (envOf P sp) fr H rs = some vs → ∃ l, (rs.mapM (resOf a.tmps)).run P w = .ok l w ∧ RelL G w vs l
  | [], vs, h => by
    simp only [resultsV, Option.some.injEq] at h
    subst h
    exact ⟨[], by simp, RelL.nil⟩
  | .tmp t :: rs, vs, h => by
    simp only [resultsV, Option.bind_eq_some_iff, Option.map_eq_some_iff] at h
    obtain ⟨v, hv, us, h1, rfl⟩ := h
    obtain ⟨l, h2, h3⟩ := results_sound hs e rs us h1
    exact ⟨_ :: l, by simp [List.mapM_cons, resOf, h2], RelL.cons (tmp_sound e hv) h3⟩
  | .cell x t :: rs, vs, h => by
    simp only [resultsV, envOf, Option.bind_eq_some_iff, Option.map_eq_some_iff] at h
    obtain ⟨ti, ht, p, hp, v, hv, us, h1, rfl⟩ := h
    obtain ⟨l, h2, h3⟩ := results_sound hs e rs us h1
    obtain ⟨y, ad, l1, l2, l3⟩ := load_sound hs ht (tmp_sound e hp) hv
    refine ⟨y :: l, ?_, RelL.cons l3 h3⟩
    simp [List.mapM_cons, resOf, h2, l1, asAddr, l2]

theorem back_sound (hs : Sim H G w) (e : SimFr G w fr a) {fn : Func} {vs : List V} (h : resultsV (envOf P sp) fr H fn.results.toList = some vs) :
    ∃ v, (results fn a.tmps).run P w = .ok v w ∧ Rel G w (oneOf vs) v := by
  obtain ⟨l, h1, h2⟩ := results_sound hs e _ _ h
  have hm : (fn.results.mapM (resOf a.tmps)).run P w = .ok l.toArray w := by
    rw [Array.mapM_eq_mapM_toList]
    simp only [Sem.run_map, h1, Result.andThen_ok]
  have hr : results fn a.tmps = (do
      let vs ← fn.results.mapM (resOf a.tmps)
      pure (if h : vs.size = 1 then vs[0] else .tuple vs)) := rfl
  rw [hr]
  simp only [Sem.run_bind, hm, Result.andThen_ok, Sem.run_pure]
  refine ⟨_, rfl, ?_⟩
  match vs, h2 with
  | [], h2 =>
    simp only [RelL] at h2
    subst h2
    simp only [oneOf, Rel]
    exact ⟨_, rfl, RelL.nil⟩
  | [v], h2 =>
    simp only [RelL] at h2
    obtain ⟨x, xs, rfl, h3, rfl⟩ := h2
    exact h3
  | u :: v :: vs, h2 =>
    have hl := h2.length
    simp only [oneOf, Rel]
    refine ⟨l.toArray, ?_, h2⟩
    rw [dif_neg (by simp at hl ⊢; omega)]

theorem entry_sound {args : List V} {rargs : Array Value} (h : RelL G w args rargs.toList) (k : Nat) : SimFr G w { tmps := enterTmps args, n := max args.length k, defers := [] } { tmps := rargs ++ Array.replicate (k - rargs.size) undef, defers := [] } := by
  have hl := h.length
  simp only [Array.length_toList] at hl
  refine ⟨fun i v hv => ?_, ?_, by simp [RelDs]⟩
  · simp only [enterTmps, Tree.get_ofList] at hv
    obtain ⟨x, hx, hr⟩ := h.get hv
    have : (rargs ++ Array.replicate (k - rargs.size) undef).getD i undef = x := by
      rw [Array.getElem?_toList] at hx
      have hi : i < rargs.size := by rw [Array.getElem?_eq_some_iff] at hx; exact hx.1
      rw [Array.getD_eq_getD_getElem?, Array.getElem?_append_left hi, hx]; rfl
    rw [this]; exact hr
  · simp only [Array.size_append, Array.size_replicate]
    omega

/-- CALLS. -/
theorem callFn_sound (hm : P.follows .mixedOrders = true) (hext : ExtOk P) (hcode : ∀ (f : Nat) (fn : Func) (c : Code), P.funcs[f]? = some fn → fn.body = some c → codeOk c = true)
    (hsp : ∀ f s, sp f = some s → SpecOk P f s) : ∀ n, CallOk P (callFn (envOf P sp) n)
  | 0 => by intro tgt args H r H' h; simp [callFn] at h
  | n + 1 => by
    intro tgt args H r H' h G w t rargs hs ht
    cases tgt with
    | round l => simp [callFn] at h
    | func f =>
      obtain ⟨cap, rfl, hr⟩ := ht
      have hr' : RelL G w args (rargs ++ cap).toList := by simpa using hr
      have hinv : (invoke (.fn (.func f) cap) rargs).run P w = (callFunc f (rargs ++ cap)).run P w := rfl
      rw [hinv]
      simp only [callFn] at h
      split at h
      · rename_i s hspec
        obtain ⟨fn, c, h1, h2, h3, h4⟩ := hsp f s hspec args H r H' h G w _ hs hr'
        exact .inr (.inl ⟨f, rargs ++ cap, run_callFunc_body h1 h2 h3 _ _, h4⟩)
      · simp only [Option.bind_eq_some_iff] at h
        obtain ⟨fi, hfi, h⟩ := h
        simp only [envOf, funcOf] at hfi
        split at hfi
        · rename_i fn hfn
          rw [cond_eq_ite] at hfi
          split at hfi
          · cases hfi
          · rename_i hname
            have hname' : (fn.name == "runtime.NumGoroutine") = false := by simpa using hname
            split at hfi
            · rename_i c hbody
              cases hfi
              simp only [Option.bind_eq_some_iff] at h
              obtain ⟨x, hx, y, hy, h⟩ := h
              refine .inr (.inl ⟨f, rargs ++ cap, run_callFunc_body hfn hname' hbody _ _, fun F m hF => ?_⟩)
              have hF0 : WideF { F with round := none } := hF
              refine (CallsIn.inRound (F := { F with round := none }) 0 (callsIn_of_wp (F := { F with round := none }) hfn hbody (hF.1 f) ?_ rfl) : CallsIn F m P f (rargs ++ cap) w _)
              refine evCode_sound (callFn_sound hm hext hcode hsp n) (drawOk (callFn_sound hm hext hcode hsp n) hm) f (n + 1) c (hcode f fn c hfn hbody) none H G w _ _ x _ m _ hF0 rfl hs (entry_sound hr' fn.ntmps) hx (fun ex a' w' hp => ?_)
              obtain ⟨G', st, sf, se⟩ := hp
              unfold wayOut at hy
              split at hy
              · rename_i hdf
                have hdf' : a'.defers = [] := by
                  have := sf.dfr
                  rw [hdf] at this
                  simpa [RelDs] using this
                have hret : ∀ (hy : y = (.returning, x.2.1, x.2.2)), a'.defers = [] ∧ ∃ v, (results fn a'.tmps).run P w' = .ok v w' ∧ ∃ G', Step H G w H' G' w' ∧ RelEnd G' w' r (.returned v) := by
                  intro hy
                  subst hy
                  simp only [handBack, Option.map_eq_some_iff, Prod.mk.injEq] at h
                  obtain ⟨vs, hvs, rfl, rfl⟩ := h
                  obtain ⟨v, b1, b2⟩ := back_sound st.sim sf hvs
                  exact ⟨hdf', v, b1, G', st, v, rfl, b2⟩
                split at hy
                · rename_i hx1
                  cases hy
                  rw [hx1] at se
                  simp only [RelEx] at se
                  subst se
                  exact hret rfl
                · rename_i hx1
                  cases hy
                  rw [hx1] at se
                  simp only [RelEx] at se
                  subst se
                  exact hret rfl
                · rename_i v hx1
                  cases hy
                  rw [hx1] at se
                  obtain ⟨rch, rfl, hch⟩ := se
                  simp only [handBack, Option.some.injEq, Prod.mk.injEq] at h
                  obtain ⟨rfl, rfl⟩ := h
                  exact ⟨hdf', G', st, rch, rfl, hch⟩
                · cases hy
              · cases hy
            · rename_i hbody
              cases hfi
              simp only [Option.map_eq_some_iff, Prod.mk.injEq] at h
              obtain ⟨v, hv, rfl, rfl⟩ := h
              obtain ⟨x, w', e1, e2, eo, e3⟩ := hext f fn args v hfn hbody hv G w _ hr'
              exact .inl ⟨x, w', G, v, e1, Step.same hs e2 eo, rfl, e3.same e2⟩
        · cases hfi

end
end Go.E2
