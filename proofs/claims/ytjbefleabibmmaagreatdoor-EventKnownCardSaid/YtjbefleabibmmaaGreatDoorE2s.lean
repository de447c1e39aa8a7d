/- E2: CALLS: what E2 makes of a function the model makes of it. -/
import Derived.Test.YtjbefleabibmmaaGreatDoorE2x
import Derived.Laws.Externs
namespace Go.E2
open Go

section
variable {P : Program} {sp : Nat → Option (List V → Heap → Option (CR × Heap))} {H : Heap} {G : Ghost} {w : World} {fr : Fr} {a : Act}

/-- What a function without a body comes to. -/
def ExtOk (P : Program) : Prop :=
  ∀ f fn args v, P.funcs[f]? = some fn → fn.body = none → extV (extOf fn.name) args = some v → ∀ G w (rargs : Array Value), RelL G w args rargs.toList →
    ∃ x w', (callFunc f rargs).run P w = .ok (.value x) w' ∧ w'.heap = w.heap ∧ (w'.os = w.os ∧ w'.output = w.output) ∧ Rel G w v x

/-- What is asked of a law proved elsewhere for a function. -/
def SpecOk (P : Program) (f : Nat) (s : List V → Heap → Option (CR × Heap)) : Prop :=
  ∀ args H r H', s args H = some (r, H') → ∀ G w rargs, Sim H G w → RelL G w args rargs.toList → ∃ fn c, P.funcs[f]? = some fn ∧ (fn.name == "runtime.NumGoroutine") = false ∧ fn.body = some c ∧
    ∀ F n, WideF F → CallsIn F n P f rargs w fun e w' => ∃ G', Step H G w H' G' w' ∧ RelEnd G' w' r e

def resOf (tmps : Array Value) : ResultVar → Sem Value
  | .tmp t => pure (tmps.getD t undef)
  | .cell a t => do loadVar t (← asAddr (tmps.getD a undef))

theorem results_sound (hs : Sim H G w) (e : SimFr G w fr a) : ∀ (rs : List ResultVar) (vs : List V), resultsV (envOf P sp) fr H rs = some vs → ∃ l, (rs.mapM (resOf a.tmps)).run P w = .ok l w ∧ RelL G w vs l
  | [], vs, h => by
    simp only [resultsV, Option.some.injEq] at h
    subst h
    exact ⟨[], by simp, RelL.nil⟩
  | .tmp t :: rs, vs, h => by
    simp only [resultsV, Option.bind_eq_some_iff, Option.map_eq_some_iff] at h
    obtain ⟨v, hv, us, h1, rfl⟩ := h
    obtain ⟨l, h2, h3⟩ := results_sound hs e rs us h1
    exact ⟨_ :: l, by simp [List.mapM_cons, resOf, h2], RelL.cons (tmp_sound e hv) h3⟩
  | .cell x t :: rs, vs, h => by
    simp only [resultsV, envOf, Option.bind_eq_some_iff, Option.map_eq_some_iff] at h
    obtain ⟨ti, ht, p, hp, v, hv, us, h1, rfl⟩ := h
    obtain ⟨l, h2, h3⟩ := results_sound hs e rs us h1
    obtain ⟨y, ad, l1, l2, l3⟩ := load_sound hs ht (tmp_sound e hp) hv
    refine ⟨y :: l, ?_, RelL.cons l3 h3⟩
    simp [List.mapM_cons, resOf, h2, l1, asAddr, l2]

theorem back_sound (hs : Sim H G w) (e : SimFr G w fr a) {fn : Func} {vs : List V} (h : resultsV (envOf P sp) fr H fn.results.toList = some vs) :
    ∃ v, (results fn a.tmps).run P w = .ok v w ∧ Rel G w (oneOf vs) v := by
  obtain ⟨l, h1, h2⟩ := results_sound hs e _ _ h
  have hm : (fn.results.mapM (resOf a.tmps)).run P w = .ok l.toArray w := by
    rw [Array.mapM_eq_mapM_toList]
    simp only [Sem.run_map, h1, Result.andThen_ok]
  have hr : results fn a.tmps = (do
      let vs ← fn.results.mapM (resOf a.tmps)
      pure (if h : vs.size = 1 then vs[0] else .tuple vs)) := rfl
  rw [hr]
  simp only [Sem.run_bind, hm, Result.andThen_ok, Sem.run_pure]
  refine ⟨_, rfl, ?_⟩
  match vs, h2 with
  | [], h2 =>
    simp only [RelL] at h2
    subst h2
    simp only [oneOf, Rel]
    exact ⟨_, rfl, RelL.nil⟩
  | [v], h2 =>
    simp only [RelL] at h2
    obtain ⟨x, xs, rfl, h3, rfl⟩ := h2
    exact h3
  | u :: v :: vs, h2 =>
    have hl := h2.length
    simp only [oneOf, Rel]
    refine ⟨l.toArray, ?_, h2⟩
    rw [dif_neg (by simp at hl ⊢; omega)]

theorem entry_sound {args : List V} {rargs : Array Value} (h : RelL G w args rargs.toList) (k : Nat) : SimFr G w { tmps := enterTmps args, n := max args.length k, defers := [] } { tmps := rargs ++ Array.replicate (k - rargs.size) undef, defers := [] } := by
  have hl := h.length
  simp only [Array.length_toList] at hl
  refine ⟨fun i v hv => ?_, ?_, by simp [RelDs]⟩
  · simp only [enterTmps, Tree.get_ofList] at hv
    obtain ⟨x, hx, hr⟩ := h.get hv
    have : (rargs ++ Array.replicate (k - rargs.size) undef).getD i undef = x := by
      rw [Array.getElem?_toList] at hx
      have hi : i < rargs.size := by rw [Array.getElem?_eq_some_iff] at hx; exact hx.1
      rw [Array.getD_eq_getD_getElem?, Array.getElem?_append_left hi, hx]; rfl
    rw [this]; exact hr
  · simp only [Array.size_append, Array.size_replicate]
    omega

/-- A deferred call. -/
theorem deferred_sound {call : Call} (hc : CallOk P call) (hd : DrawOk P sp call) (hcode : ∀ (f : Nat) (fn : Func) (c : Code), P.funcs[f]? = some fn → fn.body = some c → codeOk c = true) (fuel : Nat) {F : Fence} (hF : WideF F) (hro : F.round = none) {d : D} {rd : Deferred} {md md' : Md} {u : FrameMode} {H' : Heap}
    (hs : Sim H G w) (hdf : RelDf G w d rd) (hm : RelMd G w md u) (h : deferredCall (envOf P sp) call fuel d md H = some (md', H')) :
    ∃ fv cap f args, rd.target = .fn fv cap ∧ (invoke rd.target rd.args).run P w = .ok (.enter f args) w ∧ ∀ (n : Nat) (R : Ending → FrameMode → World → Prop), (∀ v u' w' G', Step H G w H' G' w' → RelMd G' w' md' u' → R (.returned v) u' w') → CallsDIn F n P f args u w R := by
  obtain ⟨fn', cap, ht, h1, h2, h3⟩ := hdf
  unfold deferredCall at h
  split at h
  · rename_i f hfn0
    rw [hfn0] at h1
    simp only [RelFn] at h1
    subst h1
    simp only [Option.bind_eq_some_iff] at h
    obtain ⟨fi, hfi, h⟩ := h
    simp only [envOf, funcOf] at hfi
    split at hfi
    · rename_i fn hfn
      rw [cond_eq_ite] at hfi
      split at hfi
      · cases hfi
      · rename_i hname
        have hname' : (fn.name == "runtime.NumGoroutine") = false := by simpa using hname
        split at hfi
        · rename_i c hbody
          cases hfi
          simp only [Option.bind_eq_some_iff] at h
          obtain ⟨x, hx, h⟩ := h
          have hargs : RelL G w (d.args ++ d.captured) (rd.args ++ cap).toList := by rw [Array.toList_append]; exact h3.append h2
          refine ⟨.func f, cap, f, rd.args ++ cap, ht, ?_, fun n R hR => ?_⟩
          · rw [ht]
            have h0 : (invoke (.fn (.func f) cap) rd.args).run P w = (callFunc f (rd.args ++ cap)).run P w := rfl
            rw [h0, run_callFunc_body hfn hname' hbody]
          · refine callsDIn_of_wpSIn hfn hbody (hF.1 f) (fun c₀ cs hu => ?_)
            subst hu
            refine evCodeS_sound hc hd f fuel c (hcode f fn c hfn hbody) H G w md c₀.mode _ _ x F n _ c₀ cs hF hro hs (entry_sound hargs fn.ntmps) hm hx (fun e a' cs' w' hp => ?_)
            obtain ⟨u', rfl, G', s1, s2, s3, s4⟩ := hp
            obtain ⟨ex, md1, fr1, H1⟩ := x
            have fin : ∀ vs, fr1.defers = [] → resultsV (envOf P sp) fr1 H1 fn.results.toList = some vs → md1 = md' → H1 = H' → bodyPostS P fn c₀ cs R .normal a' ({ c₀ with mode := u' } :: cs) w' := by
              intro vs hd0 hvs e1 e2
              subst e1
              subst e2
              obtain ⟨v, b1, b2⟩ := back_sound s1.sim s2 hvs
              have hdf := s2.dfr
              simp only at hdf
              rw [hd0] at hdf
              exact ⟨hdf, u', rfl, v, b1, hR v u' w' G' s1 s4⟩
            simp only at h
            split at h
            · rename_i hx1 hx2
              simp only [Option.map_eq_some_iff, Prod.mk.injEq] at h
              obtain ⟨vs, hvs, e1, e2⟩ := h
              simp only [RelEx] at s3
              subst s3
              exact fin vs hx2 hvs e1 e2
            · rename_i hx1 hx2
              simp only [Option.map_eq_some_iff, Prod.mk.injEq] at h
              obtain ⟨vs, hvs, e1, e2⟩ := h
              simp only [RelEx] at s3
              subst s3
              exact fin vs hx2 hvs e1 e2
            · cases h
        · cases hfi
          cases h
    · cases hfi
  · cases h

/-- What is deferred, carried out; the marks of an activation's loops, taken off. -/
theorem leave_sound {call : Call} (hc : CallOk P call) (hd : DrawOk P sp call) (hcode : ∀ (f : Nat) (fn : Func) (c : Code), P.funcs[f]? = some fn → fn.body = some c → codeOk c = true) (fuel : Nat) {F : Fence} {n : Nat} (hF : WideF F) (hro : F.round = none) {fn : Func} {tmps : Array Value} {R : Ending → World → Prop} {md' : Md} {H' : Heap} : ∀ (ds : List Dfr) (l : List Deferred) (H : Heap) (G : Ghost) (w : World) (md : Md) (u : FrameMode), Sim H G w → RelDs G w ds l → RelMd G w md u → leave (envOf P sp) call fuel ds md H = some (md', H') →
    (∀ w' G' u', Step H G w H' G' w' → RelMd G' w' md' u' → LeavesInM F n P fn tmps R [] u' w') → LeavesInM F n P fn tmps R l u w
  | [], l, H, G, w, md, u, hs, hdf, hm, h, hR => by
    simp only [RelDs] at hdf
    subst hdf
    simp only [leave, Option.some.injEq, Prod.mk.injEq] at h
    obtain ⟨rfl, rfl⟩ := h
    exact hR w G u (Step.refl hs) hm
  | .call d :: ds, l, H, G, w, md, u, hs, hdf, hm, h, hR => by
    simp only [RelDs] at hdf
    obtain ⟨x, xs, rfl, h1, h2⟩ := hdf
    simp only [leave, Option.bind_eq_some_iff] at h
    obtain ⟨⟨md1, H1⟩, h3, h⟩ := h
    obtain ⟨fv, cap, f, args, ht, hinv, hcall⟩ := deferred_sound hc hd hcode fuel hF hro hs h2 hm h3
    refine ⟨hm.ne_run, .inr ⟨by rw [hF.2]; simp, fv, cap, f, args, ht, hinv, fun g _ => hF.1 g, hcall (n - 1) _ (fun v u' w' G' st hm' => ?_)⟩⟩
    exact leave_sound hc hd hcode fuel hF hro ds xs H1 G' w' (settleV md1) (Go.settle u') st.sim (h1.ext st.ext) hm'.settle h (fun w2 G2 u2 st2 hm2 => hR w2 G2 u2 (st.trans st2) hm2)
  | .mark nm :: ds, l, H, G, w, md, u, hs, hdf, hm, h, hR => by
    simp only [RelDs] at hdf
    obtain ⟨x, xs, rfl, h1, b, sh, m, hg, rfl⟩ := hdf
    simp only [leave] at h
    split at h
    · rename_i ho
      simp only [Option.bind_eq_some_iff] at h
      obtain ⟨H1, hup, h⟩ := h
      obtain ⟨u1, rfl⟩ := upd_some hup
      have hob := hs.obj nm _ (hs.lt _ _ _ _ _ hg).2 ho
      have hb := (hob 0 b sh m hg).2
      have st := hs.setObj .gone ho hg u1 (.deferred none) hb (by simp only [World.shape?, hb]) (fun _ => trivial)
      refine ⟨hm.ne_run, .inl ⟨b, _, rfl, ?_, leave_sound hc hd hcode fuel hF hro ds xs _ G _ md u st.sim (h1.ext st.ext) (hm.ext st.ext) h (fun w' G' u' st' hm' => hR w' G' u' (st.trans st') hm')⟩⟩
      simp only [Instr.takeDeferred, Sem.run_bind]
      simp [getObj, setObj, Sem.run, hb, setW]
    · cases h

theorem putParams_sound {ln : Nat} : ∀ (ps : List Tmp) (args : List V) (t t' : Tree V) (arr : Array Value) (rargs : List Value), RelT G w t arr → arr.size = ln → RelL G w args rargs → putParams ln ps args t = some t' →
    rargs.length = ps.length ∧ RelT G w t' ((ps.zip rargs).foldl (fun tmps (x : Tmp × Value) => tmps.setIfInBounds x.1 x.2) arr) ∧ ((ps.zip rargs).foldl (fun tmps (x : Tmp × Value) => tmps.setIfInBounds x.1 x.2) arr).size = ln
  | [], [], t, t', arr, rargs, ht, hn, hr, h => by
    simp only [RelL] at hr
    subst hr
    simp only [putParams, Option.some.injEq] at h
    subst h
    exact ⟨rfl, ht, hn⟩
  | [], _ :: _, t, t', arr, rargs, ht, hn, hr, h => by simp [putParams] at h
  | _ :: _, [], t, t', arr, rargs, ht, hn, hr, h => by simp [putParams] at h
  | p :: ps, v :: args, t, t', arr, rargs, ht, hn, hr, h => by
    simp only [RelL] at hr
    obtain ⟨y, ys, rfl, h1, h2⟩ := hr
    simp only [putParams, cond_eq_ite, Nat.blt_eq] at h
    split at h
    · rename_i hp
      have e0 : SimFr G w { tmps := t, n := ln, defers := [] } { tmps := arr, defers := [] } := ⟨ht, hn, by simp [RelDs]⟩
      have e1 := (e0.put (some p) h1).tmps
      simp only [Fr.put, Act.put, cond_eq_ite, Nat.blt_eq, hp, if_true] at e1
      obtain ⟨q1, q2, q3⟩ := putParams_sound ps args (t.set p v) t' (arr.setIfInBounds p y) ys e1 (by simpa using hn) h2 h
      exact ⟨by simp [q1], q2, q3⟩
    · cases h

theorem endRound_sound (hs : Sim H G w) {l b sh n : Nat} (hg : G l 0 = some (b, sh, n)) {jump : Option Code} {r : CR} {H' : Heap} (h : endRoundV H l jump = some (r, H')) :
    ∃ v w', (Instr.endRound b jump).run P w = .ok v w' ∧ Step H G w H' G w' ∧ RelEnd G w' r (.returned v) := by
  unfold endRoundV at h
  split at h
  · rename_i st pend lt ln lp la lb ld ho
    simp only [Option.map_eq_some_iff, Prod.mk.injEq] at h
    obtain ⟨H1, hu, rfl, rfl⟩ := h
    obtain ⟨L, e1, _, _, st1⟩ := hs.setLoop ho hg hu
    refine ⟨.bool jump.isNone, _, ?_, st1, ⟨_, rfl, by simp only [Rel]⟩⟩
    simp only [Instr.endRound, Sem.run_bind, run_getLoop e1, Result.andThen_ok, run_setObj_loop e1, Sem.run_pure]
  · cases h

theorem beginRound_sound (hs : Sim H G w) {l b sh n : Nat} (hg : G l 0 = some (b, sh, n)) {H' : Heap} (h : beginV H l = some H') :
    ∃ w', (Instr.beginRound b).run P w = .ok () w' ∧ Step H G w H' G w' := by
  unfold beginV at h
  split at h
  · rename_i pend lt ln lp la lb ld ho
    obtain ⟨L, e1, e2, e3, st1⟩ := hs.setLoop ho hg h
    refine ⟨_, ?_, e3 ▸ st1⟩
    simp only [Instr.beginRound, Sem.run_bind, run_getLoop e1, Result.andThen_ok, run_setObj_loop e1, e2, Sem.run_pure]
  · cases h

theorem results_defers (fr : Fr) (H : Heap) : ∀ (rs : List ResultVar), resultsV (envOf P sp) { fr with defers := [] } H rs = resultsV (envOf P sp) fr H rs
  | [] => rfl
  | .tmp t :: rs => by simp only [resultsV, results_defers fr H rs]; rfl
  | .cell x t :: rs => by simp only [resultsV, results_defers fr H rs]; rfl

theorem RelPE.ext {r : Nat} {G' : Ghost} {w' : World} (h : Ext r G w G' w') {p : PE} {q : PanicEntry} (e : RelPE G w p q) : RelPE G' w' p q := ⟨e.1.ext h, e.2⟩

theorem RelCh.ext {r : Nat} {G' : Ghost} {w' : World} (h : Ext r G w G' w') : ∀ {l : List PE} {l' : List PanicEntry}, RelCh G w l l' → RelCh G' w' l l'
  | [], _, e => e
  | p :: ps, _, e => by
    obtain ⟨q, qs, rfl, h1, h2⟩ := e
    exact ⟨q, qs, rfl, h1.ext h, RelCh.ext h h2⟩

/-- CALLS. -/
theorem callFn_sound (hm : P.follows .mixedOrders = true) (hext : ExtOk P) (hcode : ∀ (f : Nat) (fn : Func) (c : Code), P.funcs[f]? = some fn → fn.body = some c → codeOk c = true)
    (hsp : ∀ f s, sp f = some s → SpecOk P f s) : ∀ n, CallOk P (callFn (envOf P sp) n)
  | 0 => by intro tgt args H r H' h; simp [callFn] at h
  | n + 1 => by
    intro tgt args H r H' h G w t rargs hs ht
    cases tgt with
    | round l =>
      obtain ⟨cap, b, sh, m, rfl, hg, hr⟩ := ht
      simp only [callFn] at h
      split at h
      · rename_i st pend lt ln lp la lb ld ho
        simp only [Option.bind_eq_some_iff] at h
        obtain ⟨t', hput, h⟩ := h
        obtain ⟨_, L, e1, e2, e3, e4, e5, e6, e7, e7', e8, e9, db, dsh, dn, e10, e11⟩ := hs.obj l _ (hs.lt _ _ _ _ _ hg).2 ho 0 b sh m hg
        obtain ⟨q1, q2, q3⟩ := putParams_sound lp args lt t' L.tmps rargs.toList e9 e8 hr hput
        have hzip : (L.params.zip rargs).foldl (fun tmps (x : Tmp × Value) => tmps.setIfInBounds x.1 x.2) L.tmps = (lp.zip rargs.toList).foldl (fun tmps (x : Tmp × Value) => tmps.setIfInBounds x.1 x.2) L.tmps := by
          rw [← Array.foldl_toList, Array.toList_zip, e4]
        refine .inr (.inr ⟨b, L.fn, (lp.zip rargs.toList).foldl (fun tmps (x : Tmp × Value) => tmps.setIfInBounds x.1 x.2) L.tmps, L.assign, L.body, ?_, fun F k hF => ?_⟩)
        · have hinv : (invoke (.fn (.yield b) cap) rargs).run P w = (Instr.yield b rargs).run P w := rfl
          have hsz : ¬ rargs.size ≠ L.params.size := by
            have h1 : L.params.size = lp.length := by rw [← e4]; simp
            have h2 : rargs.size = lp.length := by simpa using q1
            omega
          rw [hinv, ← hzip]
          simp only [Instr.yield, Sem.run_bind, run_getLoop e1, Result.andThen_ok, if_neg hsz, Sem.run_pure]
        · split at h
          · rename_i fr1 H1 hev
            simp only [Option.bind_eq_some_iff] at h
            obtain ⟨H2, hbeg, y, hev2, hout⟩ := h
            refine roundIn_of_wpIn (hF.1 _) ?_
            rw [e5, e6]
            refine evCode_sound (callFn_sound hm hext hcode hsp n) (drawOk (callFn_sound hm hext hcode hsp n) hm) 0 (n + 1) la e7 (some l) H G w { tmps := t', n := ln, defers := [] } _ _ (F.inRound b) k _ (hF.inRound b) ⟨b, sh, m, hg, rfl⟩ hs ⟨q2, q3, by simp [RelDs]⟩ hev (fun ex a' w' hp => ?_)
            obtain ⟨G1, st1, sf1, se1⟩ := hp
            simp only [RelEx] at se1
            subst se1
            have hg1 := st1.ext.sub _ _ _ hg
            obtain ⟨w2, hb2, st2⟩ := beginRound_sound (P := P) st1.sim hg1 hbeg
            refine ⟨w2, hb2, ?_⟩
            refine evCode_sound (callFn_sound hm hext hcode hsp n) (drawOk (callFn_sound hm hext hcode hsp n) hm) 0 (n + 1) lb e7' (some l) H2 G1 w2 fr1 _ _ (F.inRound b) k _ (hF.inRound b) ⟨b, sh, m, hg1, rfl⟩ st2.sim (sf1.ext st2.ext) hev2 (fun ex a'' w'' hp => ?_)
            obtain ⟨G3, st3, sf3, se3⟩ := hp
            have hg3 := st3.ext.sub _ _ _ hg1
            have stA := (st1.trans st2).trans st3
            unfold roundOut at hout
            split at hout
            · rename_i hx
              rw [hx] at se3
              simp only [RelEx] at se3
              subst se3
              obtain ⟨v, w4, g1, g2, g3⟩ := endRound_sound (P := P) st3.sim hg3 hout
              exact ⟨v, w4, g1, G3, stA.trans g2, g3⟩
            · rename_i hx
              rw [hx] at se3
              simp only [RelEx] at se3
              subst se3
              obtain ⟨v, w4, g1, g2, g3⟩ := endRound_sound (P := P) st3.sim hg3 hout
              exact ⟨v, w4, g1, G3, stA.trans g2, g3⟩
            · rename_i id hx
              rw [hx] at se3
              simp only [RelEx] at se3
              subst se3
              obtain ⟨v, w4, g1, g2, g3⟩ := endRound_sound (P := P) st3.sim hg3 hout
              exact ⟨v, w4, g1, G3, stA.trans g2, g3⟩
            · cases hout
          · cases h
      · cases h
    | func f =>
      obtain ⟨cap, rfl, hr⟩ := ht
      have hr' : RelL G w args (rargs ++ cap).toList := by simpa using hr
      have hinv : (invoke (.fn (.func f) cap) rargs).run P w = (callFunc f (rargs ++ cap)).run P w := rfl
      rw [hinv]
      simp only [callFn] at h
      split at h
      · rename_i r' hspec
        cases h
        split at hspec
        · rename_i s hspec'
          obtain ⟨fn, c, h1, h2, h3, h4⟩ := hsp f s hspec' args H r H' hspec G w _ hs hr'
          exact .inr (.inl ⟨f, rargs ++ cap, run_callFunc_body h1 h2 h3 _ _, h4⟩)
        · cases hspec
      · simp only [Option.bind_eq_some_iff] at h
        obtain ⟨fi, hfi, h⟩ := h
        simp only [envOf, funcOf] at hfi
        split at hfi
        · rename_i fn hfn
          rw [cond_eq_ite] at hfi
          split at hfi
          · cases hfi
          · rename_i hname
            have hname' : (fn.name == "runtime.NumGoroutine") = false := by simpa using hname
            split at hfi
            · rename_i c hbody
              cases hfi
              simp only [Option.bind_eq_some_iff] at h
              obtain ⟨x, hx, y, hy, h⟩ := h
              refine .inr (.inl ⟨f, rargs ++ cap, run_callFunc_body hfn hname' hbody _ _, fun F m hF => ?_⟩)
              have hF0 : WideF { F with round := none } := hF
              refine (CallsIn.inRound (F := { F with round := none }) 0 (callsIn_of_wp_marks (F := { F with round := none }) hfn hbody (hF.1 f) ?_ rfl) : CallsIn F m P f (rargs ++ cap) w _)
              refine evCode_sound (callFn_sound hm hext hcode hsp n) (drawOk (callFn_sound hm hext hcode hsp n) hm) f (n + 1) c (hcode f fn c hfn hbody) none H G w _ _ x _ m _ hF0 rfl hs (entry_sound hr' fn.ntmps) hx (fun ex a' w' hp => ?_)
              obtain ⟨G', st, sf, se⟩ := hp
              have hgo : ∀ md md2 H2 u, RelMd G' w' md u → leave (envOf P sp) (callFn (envOf P sp) n) (n + 1) x.2.1.defers md x.2.2 = some (md2, H2) → y = (md2, x.2.1, H2) → LeavesInM { F with round := none } m P fn a'.tmps (fun e w' => ∃ G', Step H G w H' G' w' ∧ RelEnd G' w' r e) a'.defers u w' := by
                intro md md2 H2 u hm0 hl hy
                subst hy
                refine leave_sound (callFn_sound hm hext hcode hsp n) (drawOk (callFn_sound hm hext hcode hsp n) hm) hcode (n + 1) hF0 rfl _ _ _ _ _ _ _ st.sim sf.dfr hm0 hl (fun w2 G2 u2 st2 hm2 => ?_)
                cases md2 with
                | returning =>
                  simp only [RelMd] at hm2
                  subst hm2
                  simp only [handBack, Option.map_eq_some_iff, Prod.mk.injEq] at h
                  obtain ⟨vs, hvs, rfl, rfl⟩ := h
                  have sf2 := sf.ext st2.ext
                  have sf3 : SimFr G2 w2 { x.2.1 with defers := [] } { a' with defers := [] } := ⟨sf2.tmps, sf2.n, by simp [RelDs]⟩
                  have hvs' : resultsV (envOf P sp) { x.2.1 with defers := [] } H2 fn.results.toList = some vs := by rw [← hvs]; exact results_defers _ _ _
                  obtain ⟨v, b1, b2⟩ := back_sound st2.sim sf3 hvs'
                  exact ⟨v, b1, G2, st.trans st2, v, rfl, b2⟩
                | panicking v =>
                  obtain ⟨rv, rfl, hv⟩ := hm2
                  simp only [handBack, Option.some.injEq, Prod.mk.injEq] at h
                  obtain ⟨rfl, rfl⟩ := h
                  exact ⟨G2, st.trans st2, _, rfl, by simp only [RelCh, RelPE]; exact ⟨_, _, rfl, ⟨hv, rfl, rfl⟩, rfl⟩⟩
                | recovered v => simp [handBack] at h
              unfold wayOut at hy
              split at hy
              · rename_i hx1
                rw [hx1] at se
                simp only [RelEx] at se
                subst se
                simp only [Option.map_eq_some_iff] at hy
                obtain ⟨⟨md2, H2⟩, hl, hy⟩ := hy
                exact hgo .returning md2 H2 .returning rfl hl hy.symm
              · rename_i hx1
                rw [hx1] at se
                simp only [RelEx] at se
                subst se
                simp only [Option.map_eq_some_iff] at hy
                obtain ⟨⟨md2, H2⟩, hl, hy⟩ := hy
                exact hgo .returning md2 H2 .returning rfl hl hy.symm
              · rename_i v hx1
                rw [hx1] at se
                obtain ⟨rch, rfl, hch⟩ := se
                simp only [RelCh, RelPE] at hch
                obtain ⟨⟨qv, qr, qg⟩, qs, rfl, ⟨q1, q2, q3⟩, rfl⟩ := hch
                simp only at q2 q3
                subst q2
                subst q3
                simp only [Option.map_eq_some_iff] at hy
                obtain ⟨⟨md2, H2⟩, hl, hy⟩ := hy
                exact hgo (.panicking v) md2 H2 _ ⟨qv, rfl, q1⟩ hl hy.symm
              · cases hy
            · rename_i hbody
              cases hfi
              simp only [Option.map_eq_some_iff, Prod.mk.injEq] at h
              obtain ⟨v, hv, rfl, rfl⟩ := h
              obtain ⟨x, w', e1, e2, eo, e3⟩ := hext f fn args v hfn hbody hv G w _ hr'
              exact .inl ⟨x, w', G, v, e1, Step.same hs e2 eo, rfl, e3.same e2⟩
        · cases hfi

end
end Go.E2
