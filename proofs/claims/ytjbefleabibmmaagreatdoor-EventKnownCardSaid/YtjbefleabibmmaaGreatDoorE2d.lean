/- E2's reads and writes of cells against the model's. -/
import Derived.Test.YtjbefleabibmmaaGreatDoorE2c
namespace Go.E2
open Go

theorem take_drop_take {α : Type} (l : List α) (n o s : Nat) (h : o + s ≤ n) : ((l.take n).drop o).take s = (l.drop o).take s := by
  rw [List.drop_take, List.take_take, Nat.min_eq_left (by omega)]

theorem addr_add (b o j : Nat) : (⟨b, o, none⟩ : Addr).add j = ⟨b, o + j, none⟩ := by unfold Addr.add; split <;> simp_all

theorem Rel.oneCell {G : Ghost} {w : World} {v : V} {x : Value} (h : Rel G w v x) : x.oneCell' = v.oneCell := by
  cases v <;> simp only [Rel] at h <;> first
    | (subst h; rfl)
    | (obtain ⟨a, rfl, h2⟩ := h; rfl)
    | (obtain ⟨b, sh, n, h1, h2, h3, rfl⟩ := h; rfl)
    | (obtain ⟨b, sh, n, ro, c, e, m, h1, rfl, h2⟩ := h; rfl)
    | (obtain ⟨b, o, c, arr, e, fz, rfl, h2⟩ := h; rfl)
    | (obtain ⟨b, o, arr, e, fz, rfl, h2⟩ := h; rfl)
    | (obtain ⟨a, b, c, rfl, h2⟩ := h; rfl)
    | (obtain ⟨b, sh, n, h1, rfl⟩ := h; rfl)

theorem RelL.oneCell {G : Ghost} {w : World} : ∀ {vs : List V} {l : List Value}, RelL G w vs l → vs.all V.oneCell = true → ∀ x ∈ l, x.oneCell' = true
  | [], _, h, _, x, hx => by simp [RelL] at h; simp [h] at hx
  | v :: vs, _, h, ha, x, hx => by
    simp only [RelL] at h
    obtain ⟨y, ys, rfl, h1, h2⟩ := h
    simp only [List.all_cons, Bool.and_eq_true] at ha
    rcases List.mem_cons.1 hx with rfl | hx
    · rw [h1.oneCell]; exact ha.1
    · exact RelL.oneCell h2 ha.2 x hx

/-- The cells at an address hold these values. -/
def Holds (w : World) (a : Addr) (l : List Value) : Prop := ∀ j v, l[j]? = some v → w.cell? (a.add j) = some v

theorem Holds.of_heap {w w' : World} {a : Addr} {l : List Value} (h : Holds w a l) (e : w'.heap = w.heap) : Holds w' a l := by
  intro j v hj
  have := h j v hj
  simpa only [World.cell?, e] using this

theorem Holds.run {w : World} {a : Addr} {l : List Value} (h : Holds w a l) (P : Program) : (loadCells a l.length).run P w = .ok l.toArray w :=
  run_loadCells_list w a l h

theorem holds_at {w : World} {b : Nat} {arr : Array Value} {e : TypeId} {fz : Nat × Nat} (h : w.heap[b]? = some (.cells arr e fz)) (o s : Nat) : Holds w ⟨b, o, none⟩ ((arr.toList.drop o).take s) := by
  intro j v hj
  rw [addr_add]
  simp only [World.cell?, h, Option.isSome_none, Bool.false_eq_true, if_false]
  rw [List.getElem?_take] at hj
  split at hj
  · rw [List.getElem?_drop] at hj; simpa using hj
  · cases hj

theorem run_storeCells_list (P : Program) (g o : Nat) (t : TypeId) (fz : Nat × Nat) : ∀ (vs : List Value) (i : Nat) (cur : Array Value) (w : World), w.heap[g]? = some (.cells cur t fz) →
    (∀ j, o + i ≤ j → fz.1 ≤ j → j < fz.2 → False) → o + i + vs.length ≤ cur.size → (∀ v ∈ vs, v.oneCell' = true) →
    (storeCells ⟨g, o, none⟩ vs i).run P w = .ok () (w.setRow g (cur.toList.take (o + i) ++ vs ++ cur.toList.drop (o + i + vs.length)).toArray)
  | [], i, cur, w, hg, _, _, _ => by
    simp only [storeCells, List.append_nil, List.length_nil, Nat.add_zero, List.take_append_drop, Array.toArray_toList]
    rw [setRow_self w g cur t fz hg]
    rfl
  | v :: rest, i, cur, w, hg, hfz, hl, h1 => by
    have hi : o + i < cur.size := by simp at hl; omega
    have hcell : w.cell? ⟨g, o + i, none⟩ = some cur[o + i] := by simp [World.cell?, hg, hi]
    have hfro : w.frozen? ⟨g, o + i, none⟩ = false := by
      obtain ⟨lo, hi'⟩ := fz
      simp only [World.frozen?, hg, Bool.and_eq_false_iff, decide_eq_false_iff_not]
      have := hfz (o + i) (Nat.le_refl _)
      by_cases h1 : lo ≤ o + i
      · exact .inr (this h1)
      · exact .inl h1
    have hst : (store ((⟨g, o, none⟩ : Addr).add i) v).run P w = .ok () (w.setRow g (cur.setIfInBounds (o + i) v)) := by
      rw [addr_add, run_store P w _ v _ (h1 v (by simp)), hcell]
      simp [hfro, setCell_eq_setRow w g (o + i) cur t fz v hg]
    have ih := run_storeCells_list P g o t fz rest (i + 1) (cur.setIfInBounds (o + i) v) (w.setRow g (cur.setIfInBounds (o + i) v)) (setRow_heap w g cur _ t _ hg) (fun j hj => hfz j (by omega)) (by simp at hl ⊢; omega) (fun x hx => h1 x (by simp [hx]))
    simp only [storeCells, Sem.run_bind, hst, Result.andThen_ok, ih, setRow_setRow]
    congr 3
    have e := list_seg_step cur.toList (o + i) v rest (by simp at hl ⊢; omega)
    simpa [Array.toList_setIfInBounds, Nat.add_assoc] using e

/-- Cells at a place, of some of which nothing may be known. -/
theorem readRaw_sound {H : Heap} {G : Ghost} {w : World} (hs : Sim H G w) {nm g off lim size : Nat} {rp : Value} (hp : Rel G w (.ptr nm g off lim) rp) {cells : List V} {elem : TypeId} {gen floor frz : Nat} {exact : Bool} (ho : H.get nm = some (.row cells elem gen floor frz exact))
    (hf : floor ≤ g) (c1 : off + size ≤ lim) (c2 : lim ≤ cells.length) : ∃ a l, rp = .pointer (some a) ∧ Holds w a l ∧ RelC G w ((cells.drop off).take size) l ∧ ((cells.drop off).take size).length = size := by
  simp only [Rel] at hp
  obtain ⟨b, sh, n, hg, h1, h2, rfl⟩ := hp
  have hob := hs.obj nm _ (hs.lt _ _ _ _ _ hg).2 ho
  obtain ⟨q1, q0, q2⟩ := hob
  obtain ⟨r1, r2, r3, r4, r4', r5⟩ := q2 g b sh n hg
  obtain ⟨arr, fz, a1, a2, a3, a4⟩ := r5 hf
  refine ⟨_, _, rfl, holds_at a1 (off - sh) size, ?_, by simp; omega⟩
  have := (a3.drop (off - sh)).take size
  rw [List.drop_drop, show sh + (off - sh) = off by omega, take_drop_take _ _ _ _ (by omega), take_drop_take _ _ _ _ (by omega)] at this
  exact this

/-- READING: what E2 reads at a place, the model reads there. -/
theorem readCells_sound {H : Heap} {G : Ghost} {w : World} (hs : Sim H G w) {p : V} {rp : Value} (hp : Rel G w p rp) {size : Nat} {cs : List V} (h : readCells H size p = some cs) :
    ∃ a l, rp = .pointer (some a) ∧ Holds w a l ∧ RelL G w cs l ∧ cs.length = size := by
  cases p with
  | ptr nm g off lim =>
    simp only [Rel] at hp
    obtain ⟨b, sh, n, hg, h1, h2, rfl⟩ := hp
    simp only [readCells] at h
    split at h
    · rename_i cells elem gen floor frz exact ho
      have hob := hs.obj nm _ (hs.lt _ _ _ _ _ hg).2 ho
      obtain ⟨q1, q0, q2⟩ := hob
      obtain ⟨r1, r2, r3, r4, r4', r5⟩ := q2 g b sh n hg
      simp only [cond_eq_ite, Bool.and_eq_true, Nat.ble_eq] at h
      split at h
      · rename_i hc
        obtain ⟨rfl, hno⟩ := noHoles_some h
        obtain ⟨arr, fz, a1, a2, a3, a4⟩ := r5 hc.1.1
        refine ⟨_, _, rfl, holds_at a1 (off - sh) size, ?_, by simp; omega⟩
        have := (a3.drop (off - sh)).take size
        rw [List.drop_drop, show sh + (off - sh) = off by omega, take_drop_take _ _ _ _ (by omega), take_drop_take _ _ _ _ (by omega)] at this
        exact this.l hno
      · cases h
    · cases h
  | _ => simp [readCells] at h

theorem upd_some {H H' : Heap} {n : Nat} {o : O} (h : H.upd n o = some H') : H.ro ≤ n ∧ H' = { H with objs := H.objs.set n o } := by
  simp only [Heap.upd, cond_eq_ite, Nat.blt_eq] at h
  split at h
  · cases h
  · cases h; exact ⟨by omega, rfl⟩

theorem get_upd {H : Heap} {n : Nat} {o : O} (nm : Nat) : ({ H with objs := H.objs.set n o } : Heap).get nm = if nm = n then some o else H.get nm := by
  simp only [Heap.get, Tree.get_set]

theorem heap_setRow_ne {w : World} {g b : Nat} {c : Array Value} (h : b ≠ g) : (w.setRow g c).heap[b]? = w.heap[b]? := by
  unfold World.setRow
  simp only [Array.getElem?_modify]
  rw [if_neg (fun e => h e.symm)]

theorem setCells_length {cs vs : List V} {off : Nat} (h : off + vs.length ≤ cs.length) : (setCells cs off vs).length = cs.length := by
  simp [setCells]; omega

theorem setCells_drop (cs vs : List V) (off sh : Nat) (h1 : sh ≤ off) (h2 : off + vs.length ≤ cs.length) :
    (setCells cs off vs).drop sh = (cs.drop sh).take (off - sh) ++ vs ++ (cs.drop sh).drop (off - sh + vs.length) := by
  unfold setCells
  rw [List.append_assoc, List.drop_append_of_le_length (by simp; omega), List.drop_drop, show sh + (off - sh + vs.length) = off + vs.length by omega, List.append_assoc, List.drop_take]

theorem list_set_take {α : Type} (l x : List α) (o n : Nat) (h1 : o + x.length ≤ n) (h2 : n ≤ l.length) :
    (l.take o ++ x ++ l.drop (o + x.length)).take n = (l.take n).take o ++ x ++ (l.take n).drop (o + x.length) := by
  rw [List.take_append, List.take_append, List.take_take, List.take_take]
  simp only [List.length_append, List.length_take]
  rw [Nat.min_eq_left (by omega : o ≤ l.length), Nat.min_comm n o, List.take_of_length_le (l := x) (by omega), List.drop_take]

/-- A row of the model's after a store into the newest block of a name. -/
theorem Sim.store {H : Heap} {G : Ghost} {w : World} (hs : Sim H G w) {nm g b sh n off : Nat} {cells : List V} {elem : TypeId} {floor frz : Nat} {exact : Bool}
    (ho : H.get nm = some (.row cells elem g floor frz exact)) (hg : G nm g = some (b, sh, n)) {vs : List V} {l : List Value} (hv : RelL G w vs l)
    (h1 : sh ≤ off) (h2 : off + vs.length ≤ cells.length) (hro : H.ro ≤ nm)
    {arr : Array Value} {fz : Nat × Nat} (a1 : w.heap[b]? = some (.cells arr elem fz)) (arr' : Array Value)
    (harr' : arr'.toList = arr.toList.take (off - sh) ++ l ++ arr.toList.drop (off - sh + l.length)) (hsz2 : arr'.size = arr.size) :
    Step H G w { H with objs := H.objs.set nm (.row (setCells cells off vs) elem g g frz exact) } G (w.setRow b arr') := by
  obtain ⟨q1, q0, q2⟩ := hs.obj nm _ (hs.lt _ _ _ _ _ hg).2 ho
  obtain ⟨r1, r2, r3, r4, r4', r5⟩ := q2 g b sh n hg
  obtain ⟨arr0, fz0, a1', a2, a3, a4, a5⟩ := r5 q1
  rw [a1] at a1'
  cases a1'
  have hn := r4 rfl
  have hlen := hv.length
  have hb : b < w.heap.size := (hs.lt _ _ _ _ _ hg).1
  have hsz : (w.setRow b arr').heap.size = w.heap.size := by unfold World.setRow; simp
  have hrow := setRow_heap w b arr arr' elem fz a1
  refine hs.turn nm (.row (setCells cells off vs) elem g g frz exact) (fun m => get_upd m) (Nat.le_refl _) (fun _ h _ => h) rfl rfl hro (hs.lt _ _ _ _ _ hg).2 (.inr (by rw [ho]; simp)) (fun _ _ _ h => h) (fun _ _ _ h _ => h) (by rw [hsz]; exact Nat.le_refl _)
    (fun g' b' sh' n' hg' => ⟨by rw [hsz]; exact (hs.lt _ _ _ _ _ hg').1, .inr ⟨_, _, hg'⟩⟩) (fun _ _ _ _ _ _ _ h1 h2 _ => (hs.inj _ _ _ _ _ _ _ _ _ h1 h2).2) (fun b' hb' hne => heap_setRow_ne (fun e => hne g sh n (e ▸ hg))) ?_ ?_
  · intro b' x hx
    by_cases hbb : b' = b
    · subst hbb
      simp only [World.shape?, a1, hrow, hsz2] at hx ⊢
      exact hx
    · simp only [World.shape?, heap_setRow_ne hbb] at hx ⊢; exact hx
  · intro hext
    refine ⟨Nat.le_refl _, q0, fun g' b' sh' n' hg' => ?_⟩
    obtain ⟨s1, s2, s3, s4, s4', s5⟩ := q2 g' b' sh' n' hg'
    refine ⟨s1, s2, by rw [setCells_length h2]; exact s3, fun e => by rw [setCells_length h2]; exact s4 e, s4', fun hfl => ?_⟩
    have hgg : g' = g := Nat.le_antisymm s1 hfl
    subst hgg
    rw [hg] at hg'; cases hg'
    refine ⟨arr', fz, hrow, by rw [hsz2]; exact a2, ?_, a4, fun hx => by rw [hsz2, setCells_length h2]; exact a5 hx⟩
    rw [List.take_of_length_le (by rw [setCells_length h2]; omega), setCells_drop _ _ _ _ h1 h2, harr', list_set_take _ _ _ _ (by omega) (by simpa using a2), hlen]
    rw [List.take_of_length_le (by omega)] at a3
    exact RelC.append (RelC.append (RelC.ext hext (a3.take _)) (RelL.ext hext hv).c) (RelC.ext hext (a3.drop _))

/-- WRITING: the model's store into the cells that E2 writes. -/
theorem writeCells_sound {H H' : Heap} {G : Ghost} {w : World} (hs : Sim H G w) {p : V} {rp : Value} (hp : Rel G w p rp) {vs : List V} {l : List Value} (hv : RelL G w vs l)
    (h : writeCells H vs p = some H') (P : Program) :
    ∃ a w', rp = .pointer (some a) ∧ (storeCells a l).run P w = .ok () w' ∧ Step H G w H' G w' := by
  cases p with
  | ptr nm g off lim =>
    simp only [Rel] at hp
    obtain ⟨b, sh, n, hg, h1, h2, rfl⟩ := hp
    simp only [writeCells] at h
    split at h
    · rename_i cells elem gen floor frz exact ho
      obtain ⟨q1, q0, q2⟩ := hs.obj nm _ (hs.lt _ _ _ _ _ hg).2 ho
      obtain ⟨r1, r2, r3, r4, r4', r5⟩ := q2 g b sh n hg
      simp only [cond_eq_ite, Bool.and_eq_true, Nat.ble_eq, Nat.beq_eq] at h
      split at h
      · rename_i hc
        obtain ⟨⟨⟨⟨c1, c2⟩, c3⟩, c4⟩, c5⟩ := hc
        subst c1
        obtain ⟨arr, fz, a1, a2, a3, a4, a5⟩ := r5 q1
        have hn := r4 rfl
        obtain ⟨u1, rfl⟩ := upd_some h
        have hlen := hv.length
        have hst := run_storeCells_list P b (off - sh) elem fz l 0 arr w a1 (fun j hj _ f2 => a4 rfl j (by omega) f2) (by omega) (RelL.oneCell hv c5)
        simp only [Nat.add_zero] at hst
        exact ⟨_, _, rfl, hst, hs.store ho hg hv h1 (by omega) u1 a1 _ rfl (by simp; omega)⟩
      · cases h
    · cases h
  | _ => simp [writeCells] at h

end Go.E2
