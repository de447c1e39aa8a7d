/- E2: new rows, loads, stores, appends against the model's. -/
import Derived.Test.YtjbefleabibmmaaGreatDoorE2d
namespace Go.E2
open Go

/-! ### Constants and types -/
mutual
theorem absV_sound (G : Ghost) (w : World) : ∀ (n : Nat) (v : Value) (x : V), absV n v = some x → Rel G w x v
  | 0, _, _, h => by simp [absV] at h
  | n + 1, v, x, h => by
    unfold absV at h
    split at h <;> try (cases h; done)
    all_goals try (cases h; simp [Rel]; done)
    · simp only [Option.bind_eq_some_iff, Option.map_eq_some_iff] at h
      obtain ⟨a, h1, c, h2, rfl⟩ := h
      simp only [Rel, RelFn]
      exact ⟨_, _, _, rfl, rfl, absL_sound G w n _ _ h1, absL_sound G w n _ _ h2⟩
    · simp only [Option.map_eq_some_iff] at h
      obtain ⟨y, h1, rfl⟩ := h
      simp only [Rel]
      exact ⟨_, rfl, absV_sound G w n _ _ h1⟩
    · simp only [Option.map_eq_some_iff] at h
      obtain ⟨y, h1, rfl⟩ := h
      simp only [Rel]
      exact ⟨_, rfl, absL_sound G w n _ _ h1⟩
    · simp only [Option.map_eq_some_iff] at h
      obtain ⟨y, h1, rfl⟩ := h
      simp only [Rel]
      exact ⟨_, rfl, absL_sound G w n _ _ h1⟩
theorem absL_sound (G : Ghost) (w : World) : ∀ (n : Nat) (l : List Value) (x : List V), absL n l = some x → RelL G w x l
  | 0, _, _, h => by simp [absL] at h
  | n + 1, l, x, h => by
    unfold absL at h
    split at h
    · cases h; exact RelL.nil
    · simp only [Option.bind_eq_some_iff, Option.map_eq_some_iff] at h
      obtain ⟨a, h1, c, h2, rfl⟩ := h
      exact RelL.cons (absV_sound G w n _ _ h1) (absL_sound G w n _ _ h2)
end

theorem relL_cells {G : Ghost} {w : World} {v : V} {x : Value} (h : Rel G w v x) : RelL G w v.cells x.cells.toList := by
  cases v with
  | agg cs =>
    simp only [Rel] at h
    obtain ⟨a, rfl, h2⟩ := h
    simpa [V.cells, Value.cells] using h2
  | _ =>
    have hx : x.cells = #[x] := by
      have := h.oneCell
      cases x with
      | agg a =>
        exfalso
        first
          | (simp only [V.oneCell, Value.oneCell', reduceCtorEq] at this; done)
          | (simp only [Rel] at h; obtain ⟨a, h1, h2⟩ := h; cases h1; done)
      | _ => rfl
    rw [hx]
    simp only [V.cells]
    exact RelL.cons h RelL.nil

theorem typeOf_some {P : Program} {t : Nat} {ti : TI} (h : typeOf P t = some ti) :
    P.underlying t = some ti.under ∧ ti.isAgg = isAggD ti.under ∧ ∃ i z, P.info? t = some i ∧ i.size = ti.size ∧ i.bytes = ti.bytes ∧ i.zero = some z ∧ absV 1000 z = some ti.zero ∧
      ti.zero.cells.length = ti.size ∧ z.cells.size = ti.size := by
  unfold typeOf at h
  split at h
  · rename_i i u hi hu
    simp only [Option.bind_eq_some_iff, cond_eq_ite, Nat.beq_eq] at h
    obtain ⟨z, ⟨z', h1, h2⟩, h3⟩ := h
    split at h3
    · rename_i hc
      cases h3
      refine ⟨hu, rfl, i, z', hi, rfl, rfl, h1, h2, hc, ?_⟩
      have := (relL_cells (absV_sound (fun _ _ => none) default _ _ _ h2)).length
      simpa [hc] using this.symm
    · cases h3
  · cases h

section
variable {P : Program}

theorem run_underlying' {t : Nat} {ti : TI} (h : typeOf P t = some ti) (w : World) : (underlying t).run P w = .ok ti.under w := run_underlying (typeOf_some h).1 w

theorem run_sizeOf' {t : Nat} {ti : TI} (h : typeOf P t = some ti) (w : World) : (sizeOf t).run P w = .ok ti.size w := by
  obtain ⟨_, _, i, z, hi, hs, _⟩ := typeOf_some h
  simp [sizeOf, typeInfo, hi, hs]

theorem run_zeroValue' {t : Nat} {ti : TI} (h : typeOf P t = some ti) (w : World) : ∃ z, (zeroValue t).run P w = .ok z w ∧ (P.info? t).bind (·.zero) = some z ∧ ∀ G w, Rel G w ti.zero z := by
  obtain ⟨_, _, i, z, hi, _, _, hz, ha, _⟩ := typeOf_some h
  exact ⟨z, by simp [zeroValue, typeInfo, hi, hz], by simp [hi, hz], fun G w => absV_sound G w _ _ _ ha⟩

theorem run_isAgg' {t : Nat} {ti : TI} (h : typeOf P t = some ti) (w : World) : (isAgg t).run P w = .ok ti.isAgg w := by
  obtain ⟨hu, ha, _⟩ := typeOf_some h
  simp only [isAgg, Sem.run_bind, run_underlying hu, Result.andThen_ok, ha]
  cases ti.under <;> rfl

/-- A world of the same memory. -/
theorem Step.same {H : Heap} {G : Ghost} {w w' : World} (h : Sim H G w) (e : w'.heap = w.heap) (eo : w'.os = w.os ∧ w'.output = w.output) : Step H G w H G w' := by
  have hext : Ext H.ro G w G w' := ⟨fun _ _ _ h => h, fun b _ hf => ⟨by rw [e], hf⟩, by rw [e]; exact Nat.le_refl _, fun b x hx => by simpa only [World.shape?, e] using hx, fun _ _ _ _ _ _ _ => by rw [e], eo⟩
  refine ⟨hext, ⟨fun nm g b sh n hg => by rw [e]; exact h.lt nm g b sh n hg, h.inj, fun nm o hl ho => (h.obj nm o hl ho).ext hext (fun _ _ h => h) (fun _ _ _ _ _ => by rw [e]), h.ro, h.glob, h.globs⟩, Nat.le_refl _, rfl, rfl, fun _ _ => rfl, fun _ _ _ h _ => h, fun _ _ h => ⟨h, fun _ _ _ _ _ => by rw [e], fun _ _ h => h⟩⟩

theorem Rel.same {G : Ghost} {w w' : World} (e : w'.heap = w.heap) {v : V} {x : Value} (h : Rel G w v x) : Rel G w' v x :=
  Rel.up ⟨fun _ _ _ h => h, fun b x hx => by simpa only [World.shape?, e] using hx⟩ h

theorem RelL.same {G : Ghost} {w w' : World} (e : w'.heap = w.heap) {v : List V} {x : List Value} (h : RelL G w v x) : RelL G w' v x :=
  RelL.up ⟨fun _ _ _ h => h, fun b x hx => by simpa only [World.shape?, e] using hx⟩ h
theorem RelC.same {G : Ghost} {w w' : World} (e : w'.heap = w.heap) {v : List V} {x : List Value} (h : RelC G w v x) : RelC G w' v x :=
  RelC.up ⟨fun _ _ _ h => h, fun b x hx => by simpa only [World.shape?, e] using hx⟩ h

/-! ### A new row -/
theorem Sim.newRow {H : Heap} {G : Ghost} {w : World} (hs : Sim H G w) {cells : List V} {l : List Value} (hc : RelL G w cells l) (rest : List Value) (elem : TypeId) (exact : Bool) (hx : exact = true → rest = []) :
    Step H G w (H.new (.row cells elem 0 0 0 exact)) (addG G H.next 0 (w.heap.size, 0, cells.length)) (push w (.cells (l ++ rest).toArray elem)) := by
  refine hs.new _ _ _ (fun hext => ?_)
  refine ⟨Nat.le_refl _, fun _ => rfl, fun g b sh n hg => ?_⟩
  simp only [addG] at hg
  by_cases h : g = 0
  · rw [if_pos ⟨trivial, h⟩] at hg
    cases hg
    subst h
    have hl := hc.length
    refine ⟨Nat.le_refl _, Nat.zero_le _, Nat.le_refl _, fun _ => rfl, fun _ => rfl, fun _ => ⟨(l ++ rest).toArray, (0, 0), heap_push_self _ _, by simp; omega, ?_, fun _ i _ h2 => by simp at h2, fun e => by simp [hx e, hl]⟩⟩
    have : (l ++ rest).toArray.toList.take (cells.length - 0) = l := by simp [hl]
    rw [this]
    simpa using (RelL.ext hext hc).c
  · rw [if_neg (fun x => h x.2), hs.fresh] at hg; simp at hg

theorem rel_newPtr {G : Ghost} {nm b n : Nat} {w' : World} : Rel (addG G nm 0 (b, 0, n)) w' (.ptr nm 0 0 n) (.pointer (some ⟨b, 0, none⟩)) := by
  simp only [Rel]
  exact ⟨b, 0, n, addG_self _ _ _ _, Nat.le_refl _, Nat.le_refl _, rfl⟩

theorem shape_new {w : World} {arr : Array Value} {e : TypeId} : (push w (.cells arr e)).shape? w.heap.size = some (e, arr.size) := by
  simp only [World.shape?, heap_push_self]

/-! ### Loads and stores -/
theorem load_sound {H : Heap} {G : Ghost} {w : World} (hs : Sim H G w) {t : Nat} {ti : TI} (ht : typeOf P t = some ti) {p v : V} {rp : Value} (hp : Rel G w p rp) (h : loadV H ti p = some v) :
    ∃ x a, rp = .pointer (some a) ∧ (loadVar t a).run P w = .ok x w ∧ Rel G w v x := by
  simp only [loadV, Option.bind_eq_some_iff] at h
  obtain ⟨cs, h1, h2⟩ := h
  obtain ⟨a, l, rfl, hh, hr, hl⟩ := readCells_sound hs hp h1
  have hl' := hr.length
  simp only [loadVar, Sem.run_bind, run_isAgg' ht, Result.andThen_ok]
  cases hagg : ti.isAgg with
  | true =>
    simp only [hagg, cond_true, Option.some.injEq] at h2
    subst h2
    have hrun := hh.run P
    rw [← hl', hl] at hrun
    refine ⟨.agg l.toArray, a, rfl, by simp [run_sizeOf' ht, hrun], ?_⟩
    simp only [Rel]
    exact ⟨_, rfl, by simpa using hr⟩
  | false =>
    simp only [hagg, cond_false] at h2
    split at h2
    · rename_i u
      cases h2
      have h1' := hr.length
      match l, hr, hh, h1' with
      | [x], hr, hh, _ =>
        rw [RelL.cons_iff] at hr
        have hc := hh 0 x rfl
        simp only [Addr.add_zero'] at hc
        refine ⟨x, a, rfl, ?_, hr.1⟩
        simp only [Bool.false_eq_true, if_false]
        rw [run_load, hc]
    · cases h2

theorem store_sound {H H' : Heap} {G : Ghost} {w : World} (hs : Sim H G w) {t : Nat} {ti : TI} (ht : typeOf P t = some ti) {p v : V} {rp x : Value} (hp : Rel G w p rp) (hv : Rel G w v x) (h : storeV H ti p v = some H') :
    ∃ a w', rp = .pointer (some a) ∧ (storeVar t a x).run P w = .ok () w' ∧ Step H G w H' G w' := by
  simp only [storeV, cond_eq_ite, Nat.beq_eq] at h
  split at h
  · rename_i hc
    have hcell := relL_cells hv
    obtain ⟨a, w', rfl, hst, hstep⟩ := writeCells_sound hs hp hcell h P
    have hl := hcell.length
    simp only [Array.length_toList] at hl
    refine ⟨a, w', rfl, ?_, hstep⟩
    simp [storeVar, run_sizeOf' ht, ← hl, hc, hst]
  · cases h

end
end Go.E2
