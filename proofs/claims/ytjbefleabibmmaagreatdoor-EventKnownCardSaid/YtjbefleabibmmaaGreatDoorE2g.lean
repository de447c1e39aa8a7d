/- E2: single operations against the model's, first part. -/
import Derived.Test.YtjbefleabibmmaaGreatDoorE2f
namespace Go.E2
open Go

def RelDf (G : Ghost) (w : World) (d : D) (rd : Deferred) : Prop :=
  ∃ fn cap, rd.target = .fn fn cap ∧ RelFn G d.fn fn ∧ RelL G w d.captured cap.toList ∧ RelL G w d.args rd.args.toList

def RelDs (G : Ghost) (w : World) : List Dfr → List Deferred → Prop
  | [], l => l = []
  | d :: ds, l => ∃ x xs, l = x :: xs ∧ RelDs G w ds xs ∧ match d with
    | .mark nm => ∃ b sh n, G nm 0 = some (b, sh, n) ∧ x = { target := .collected b, args := #[] }
    | .call d => RelDf G w d x

structure SimFr (G : Ghost) (w : World) (fr : Fr) (a : Act) : Prop where
  tmps : RelT G w fr.tmps a.tmps
  n : a.tmps.size = fr.n
  dfr : RelDs G w fr.defers a.defers

theorem RelDf.up {G G' : Ghost} {w w' : World} (h : Up G w G' w') {d : D} {rd : Deferred} (e : RelDf G w d rd) : RelDf G' w' d rd := by
  obtain ⟨fn, cap, e1, e2, e3, e4⟩ := e
  exact ⟨fn, cap, e1, e2.ext h.sub, RelL.up h e3, RelL.up h e4⟩

theorem RelDs.up {G G' : Ghost} {w w' : World} (h : Up G w G' w') : ∀ {ds : List Dfr} {l : List Deferred}, RelDs G w ds l → RelDs G' w' ds l
  | [], _, e => by simpa [RelDs] using e
  | .mark nm :: ds, _, e => by
    simp only [RelDs] at e ⊢
    obtain ⟨x, xs, e1, e2, b, sh, n, e3, e4⟩ := e
    exact ⟨x, xs, e1, RelDs.up h e2, b, sh, n, h.sub _ _ _ e3, e4⟩
  | .call d :: ds, _, e => by
    simp only [RelDs] at e ⊢
    obtain ⟨x, xs, e1, e2, e3⟩ := e
    exact ⟨x, xs, e1, RelDs.up h e2, e3.up h⟩

theorem RelDs.ext {r : Nat} {G G' : Ghost} {w w' : World} (h : Ext r G w G' w') {ds : List Dfr} {l : List Deferred} (e : RelDs G w ds l) : RelDs G' w' ds l := RelDs.up h.up e

theorem SimFr.ext {r : Nat} {G G' : Ghost} {w w' : World} (h : Ext r G w G' w') {fr : Fr} {a : Act} (e : SimFr G w fr a) : SimFr G' w' fr a :=
  ⟨e.tmps.ext h, e.n, e.dfr.ext h⟩

theorem rel_undef {G : Ghost} {w : World} : Rel G w undefV undef := by
  simp only [undefV, undef, Rel]
  exact ⟨#[], rfl, RelL.nil⟩

theorem SimFr.put {G : Ghost} {w : World} {fr : Fr} {a : Act} (e : SimFr G w fr a) (dst : Option Tmp) {v : V} {x : Value} (hv : Rel G w v x) : SimFr G w (fr.put dst v) (a.put dst x) := by
  cases dst with
  | none => exact e
  | some d =>
    simp only [Fr.put, Act.put, cond_eq_ite, Nat.blt_eq]
    by_cases hd : d < fr.n
    · rw [if_pos hd]
      refine ⟨fun k u hu => ?_, by simp [e.n], e.dfr⟩
      simp only [Tree.get_set] at hu
      by_cases hk : k = d
      · subst hk
        have : (a.tmps.setIfInBounds k x).getD k undef = x := by
          have hlt : k < a.tmps.size := by rw [e.n]; exact hd
          simp [Array.getElem?_setIfInBounds_self_of_lt hlt]
        rw [if_pos rfl] at hu
        cases hu
        rw [this]
        exact hv
      · rw [if_neg hk] at hu
        have : (a.tmps.setIfInBounds d x).getD k undef = a.tmps.getD k undef := by
          simp [Array.getElem?_setIfInBounds_ne (Ne.symm hk)]
        rw [this]
        exact e.tmps k u hu
    · rw [if_neg hd]
      have : a.tmps.setIfInBounds d x = a.tmps := Array.setIfInBounds_eq_of_size_le (by rw [e.n]; exact Nat.le_of_not_lt hd)
      rw [this]
      exact ⟨e.tmps, e.n, e.dfr⟩

theorem tmp_sound {G : Ghost} {w : World} {fr : Fr} {a : Act} (e : SimFr G w fr a) {t : Nat} {v : V} (h : fr.tmp t = some v) : Rel G w v (a.tmps.getD t undef) := e.tmps t v h

theorem opd_sound {H : Heap} {G : Ghost} {w : World} (hs : Sim H G w) {fr : Fr} {a : Act} (e : SimFr G w fr a) {x : Operand} {v : V} (h : opd fr H x = some v) : Rel G w v (a.eval x) := by
  cases x with
  | tmp t => exact tmp_sound e h
  | const c => exact absV_sound G w _ _ _ h
  | global g =>
    simp only [opd, cond_eq_ite, Nat.blt_eq] at h
    split at h
    · rename_i hg
      split at h
      · rename_i cells el fl fz ex ho
        cases h
        obtain ⟨n, hn⟩ := hs.globs g _ hg ho
        have := (hs.obj g _ (hs.lt _ _ _ _ _ hn).2 ho).2.2 0 g 0 n hn
        simp only [Rel, Act.eval]
        exact ⟨g, 0, n, hn, Nat.le_refl _, Nat.le_of_eq (this.2.2.2.1 rfl).symm, rfl⟩
      · cases h
    · cases h
  | func f =>
    simp only [opd, Option.some.injEq] at h
    subst h
    simp only [Rel, Act.eval, RelFn]
    exact ⟨_, _, _, rfl, rfl, RelL.nil, RelL.nil⟩

theorem opds_sound {H : Heap} {G : Ghost} {w : World} (hs : Sim H G w) {fr : Fr} {a : Act} (e : SimFr G w fr a) : ∀ {l : List Operand} {vs : List V}, opds fr H l = some vs → RelL G w vs (l.map a.eval)
  | [], vs, h => by simp only [opds, Option.some.injEq] at h; subst h; exact RelL.nil
  | x :: l, vs, h => by
    simp only [opds, Option.bind_eq_some_iff, Option.map_eq_some_iff] at h
    obtain ⟨v, h1, us, h2, rfl⟩ := h
    exact RelL.cons (opd_sound hs e h1) (opds_sound hs e h2)

/-- What a call is of, and with what. -/
def RelTgt (G : Ghost) (w : World) (tgt : Tgt) (args : List V) (t : Target) (rargs : Array Value) : Prop :=
  match tgt with
  | .func f => ∃ cap, t = .fn (.func f) cap ∧ RelL G w args (rargs.toList ++ cap.toList)
  | .round l => ∃ cap b sh n, t = .fn (.yield b) cap ∧ G l 0 = some (b, sh, n) ∧ RelL G w args rargs.toList

/-- What one operation comes to. -/
def OpOk (P : Program) (o : Oper) (a : Act) (H : Heap) (G : Ghost) (w : World) (H' : Heap) (out : Out) : Prop :=
  match out with
  | .val v => ∃ x w' G', (execOp a.eval o).run P w = .ok (.value x) w' ∧ Step H G w H' G' w' ∧ Rel G' w' v x
  | .skip => ∃ w' G', (execOp a.eval o).run P w = .ok .skip w' ∧ Step H G w H' G' w'
  | .call tgt args => H' = H ∧ ∃ t rargs, (execOp a.eval o).run P w = (invoke t rargs).run P w ∧ RelTgt G w tgt args t rargs
  | .defer d => H' = H ∧ ∃ rd, (execOp a.eval o).run P w = .ok (.defer rd) w ∧ RelDf G w d rd
  | .panic v => H' = H ∧ ∃ x, (execOp a.eval o).run P w = .halt (.panic x) w ∧ Rel G w v x

section
variable {P : Program} {o : Oper} {a : Act} {H : Heap} {G : Ghost} {w : World}

theorem OpOk.pure (hs : Sim H G w) {v : V} {x : Value} (h : (execOp a.eval o).run P w = .ok (.value x) w) (hv : Rel G w v x) : OpOk P o a H G w H (.val v) :=
  ⟨x, w, G, h, Step.refl hs, hv⟩

end
end Go.E2
