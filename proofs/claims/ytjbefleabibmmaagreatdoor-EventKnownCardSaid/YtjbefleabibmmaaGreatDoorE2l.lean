/- E2: single operations against the model's, sixth part: builds and builtins. -/
import Derived.Test.YtjbefleabibmmaaGreatDoorE2k
namespace Go.E2
open Go

section
variable {P : Program} {o : Oper} {a : Act} {H : Heap} {G : Ghost} {w : World} {fr : Fr}

theorem foldl_set (off : Nat) : ∀ (l : List Value) (k : Nat) (cs : Array Value), off + k + l.length ≤ cs.size →
    ((l.zipIdx k).foldl (fun (cs : Array Value) (x : Value × Nat) => cs.setIfInBounds (off + x.2) x.1) cs).toList = cs.toList.take (off + k) ++ l ++ cs.toList.drop (off + k + l.length)
  | [], k, cs, _ => by simp
  | v :: l, k, cs, h => by
    simp only [List.zipIdx_cons, List.foldl_cons]
    rw [foldl_set off l (k + 1) (cs.setIfInBounds (off + k) v) (by simp at h ⊢; omega)]
    have e := list_seg_step cs.toList (off + k) v l (by simp at h ⊢; omega)
    simpa [Array.toList_setIfInBounds, Nat.add_assoc] using e

theorem setCells_rel {cs vs : List V} {l x : List Value} {off : Nat} (h : RelL G w cs l) (hv : RelL G w vs x) : RelL G w (setCells cs off vs) (l.take off ++ x ++ l.drop (off + x.length)) := by
  unfold setCells
  rw [hv.length]
  exact ((h.take _).append hv).append (h.drop _)

theorem fill_sound (place : Nat → Option (Nat × Nat)) : ∀ (parts : List (Nat × V)) (rparts : List (Nat × Value)) (cells cs : List V) (rcells : Array Value), RelL G w cells rcells.toList →
    parts.map (·.1) = rparts.map (·.1) → RelL G w (parts.map (·.2)) (rparts.map (·.2)) → fillV place cells parts = some cs → ∃ rcs, Instr.fill place rcells rparts = some rcs ∧ RelL G w cs rcs.toList
  | [], rparts, cells, cs, rcells, hc, h1, h2, h => by
    cases rparts with
    | nil => simp only [fillV, Option.some.injEq] at h; subst h; exact ⟨rcells, rfl, hc⟩
    | cons x r => simp at h1
  | (i, v) :: parts, rparts, cells, cs, rcells, hc, h1, h2, h => by
    cases rparts with
    | nil => simp at h1
    | cons x r =>
      obtain ⟨j, y⟩ := x
      simp only [List.map_cons, List.cons.injEq] at h1
      obtain ⟨rfl, h1⟩ := h1
      simp only [List.map_cons] at h2
      rw [RelL.cons_iff] at h2
      simp only [fillV] at h
      split at h
      · cases h
      · rename_i off size hp
        simp only [cond_eq_ite, Bool.and_eq_true, Nat.beq_eq, Nat.ble_eq] at h
        split at h
        · rename_i hcnd
          have hv := relL_cells h2.1
          have hl := hv.length
          have hcl := hc.length
          simp only [Array.length_toList] at hl hcl
          have hr : (y.cells.zipIdx.foldl (fun (cs : Array Value) (x : Value × Nat) => cs.setIfInBounds (off + x.2) x.1) rcells).toList = rcells.toList.take off ++ y.cells.toList ++ rcells.toList.drop (off + y.cells.toList.length) := by
            have := foldl_set off y.cells.toList 0 rcells (by simp; omega)
            simp only [Nat.add_zero] at this
            rw [← this, ← Array.foldl_toList, Array.toList_zipIdx]
          obtain ⟨rcs, e1, e2⟩ := fill_sound place parts r (setCells cells off v.cells) cs _ (by rw [hr]; exact setCells_rel hc hv) h1 h2.2 h
          refine ⟨rcs, ?_, e2⟩
          have c1 : y.cells.size = size := by omega
          have c2 : ¬ (off + y.cells.size > rcells.size) := by omega
          simp only [Instr.fill, hp]
          rw [if_neg (by simp only [c1, ne_eq, not_true_eq_false, decide_false, Bool.false_or, decide_eq_true_eq]; omega)]
          exact e1
        · cases h

theorem parts_rel (hs : Sim H G w) (e : SimFr G w fr a) {parts : Array (Nat × Operand)} {vs : List V} (h : opds fr H (parts.toList.map (·.2)) = some vs) :
    (((parts.toList.map (·.1)).zip vs).map (·.1) = ((parts.map fun (x : Nat × Operand) => (x.1, a.eval x.2)).toList).map (·.1)) ∧
    RelL G w (((parts.toList.map (·.1)).zip vs).map (·.2)) (((parts.map fun (x : Nat × Operand) => (x.1, a.eval x.2)).toList).map (·.2)) := by
  have h1 := opds_sound hs e h
  have hl := h1.length
  simp only [List.length_map, Array.length_toList] at hl
  constructor
  · rw [List.map_fst_zip (by simp; omega)]
    simp
  · rw [List.map_snd_zip (by simp; omega)]
    simpa [List.map_map, Function.comp_def] using h1

def placeOf (f : Field) : Sem (Nat × Nat) := do pure (f.offset, ← sizeOf f.type)

theorem mapM_places (w' : World) : ∀ (l : List Field), (∀ f ∈ l, ∃ ti, typeOf P f.type = some ti) →
    ∃ pl : List (Nat × Nat), (l.mapM placeOf).run P w' = .ok pl w' ∧ ∀ i : Nat, pl[i]? = (l[i]?).bind fun f => (typeOf P f.type).map fun fi => (f.offset, fi.size)
  | [], _ => ⟨[], by simp, fun i => by simp⟩
  | f :: l, h => by
    obtain ⟨pl, h1, h2⟩ := mapM_places w' l (fun g hg => h g (by simp [hg]))
    obtain ⟨ti, ht⟩ := h f (by simp)
    have h0 : (placeOf f).run P w' = .ok (f.offset, ti.size) w' := by simp [placeOf, run_sizeOf' ht]
    refine ⟨(f.offset, ti.size) :: pl, ?_, fun i => ?_⟩
    · simp [List.mapM_cons, h0, h1]
    · cases i with
      | zero => simp [ht]
      | succ i => simpa using h2 i

theorem op_buildStruct (hs : Sim H G w) (e : SimFr G w fr a) {t : TypeId} {ti : TI} (ht : typeOf P t = some ti) {fs : Array Field} (hu : ti.under = .struct fs) {parts : Array (Nat × Operand)} (ho : o.op = .build t parts) {vs cs : List V}
    (hv : opds fr H (parts.toList.map (·.2)) = some vs) (hall : ∀ f ∈ fs.toList, ∃ fi, typeOf P f.type = some fi)
    (h : fillV (fun (i : Nat) => (fs[i]?).bind fun (f : Field) => (typeOf P f.type).map fun fi => (f.offset, fi.size)) ti.zero.cells ((parts.toList.map (·.1)).zip vs) = some cs) : OpOk P o a H G w H (.val (.agg cs)) := by
  obtain ⟨z, hz, _, hr⟩ := run_zeroValue' ht w
  have hus : P.underlying t = some (.struct fs) := hu ▸ (typeOf_some ht).1
  obtain ⟨p1, p2⟩ := parts_rel hs e hv
  obtain ⟨pl, m1, m2⟩ := mapM_places (P := P) w fs.toList hall
  obtain ⟨rcs, f1, f2⟩ := fill_sound _ _ _ _ _ z.cells (relL_cells (hr G w)) p1 p2 h
  refine OpOk.pure hs (x := .agg rcs) ?_ (by simp only [Rel]; exact ⟨rcs, rfl, f2⟩)
  have hm : (fs.mapM placeOf).run P w = .ok pl.toArray w := by
    rw [Array.mapM_eq_mapM_toList]
    simp only [Sem.run_map, m1, Result.andThen_ok]
  have hp : (fun (i : Nat) => pl.toArray[i]?) = (fun (i : Nat) => (fs[i]?).bind fun (f : Field) => (typeOf P f.type).map fun fi => (f.offset, fi.size)) := by
    funext i
    rw [List.getElem?_toArray, m2 i, Array.getElem?_toList]
  have hb : (fs.mapM (m := Sem) fun (f : Field) => do pure (f.offset, ← sizeOf f.type)) = fs.mapM placeOf := rfl
  simp only [execOp, ho, Sem.run_bind, Instr.build, hz, Result.andThen_ok, run_underlying hus, hb, hm, hp, f1, Sem.run_pure]

theorem op_buildArray (hs : Sim H G w) (e : SimFr G w fr a) {t el : TypeId} {n : Nat} {ti ei : TI} (ht : typeOf P t = some ti) (hu : ti.under = .array n el) (hel : typeOf P el = some ei) {parts : Array (Nat × Operand)} (ho : o.op = .build t parts) {vs cs : List V}
    (hv : opds fr H (parts.toList.map (·.2)) = some vs) (h : fillV (fun i => some (i * ei.size, ei.size)) ti.zero.cells ((parts.toList.map (·.1)).zip vs) = some cs) : OpOk P o a H G w H (.val (.agg cs)) := by
  obtain ⟨z, hz, _, hr⟩ := run_zeroValue' ht w
  have hus : P.underlying t = some (.array n el) := hu ▸ (typeOf_some ht).1
  obtain ⟨p1, p2⟩ := parts_rel hs e hv
  obtain ⟨rcs, f1, f2⟩ := fill_sound _ _ _ _ _ z.cells (relL_cells (hr G w)) p1 p2 h
  refine OpOk.pure hs (x := .agg rcs) ?_ (by simp only [Rel]; exact ⟨rcs, rfl, f2⟩)
  simp only [execOp, ho, Sem.run_bind, Instr.build, hz, Result.andThen_ok, run_underlying hus, run_sizeOf' hel, f1, Sem.run_pure]

theorem rep_cells (rz : Array Value) (n : Nat) : ((Array.range (n * rz.size)).map (fun i => rz[i % rz.size]!)).toList = (List.replicate n rz.toList).flatten := by
  rw [Array.toList_map, Array.toList_range]
  induction n with
  | zero => simp
  | succ n ih =>
    rw [Nat.succ_mul, List.range_add, List.map_append, ih, List.replicate_succ', List.flatten_concat, List.map_map]
    congr 1
    apply List.ext_getElem
    · simp
    · intro i h1 h2
      have hi : i < rz.size := by simpa using h2
      simp [Nat.mod_eq_of_lt hi, hi]

theorem zero_cells {z : List V} {rz : Array Value} (h : RelL G w z rz.toList) (n : Nat) : RelL G w (List.replicate n z).flatten ((Array.range (n * rz.size)).map (fun i => rz[i % rz.size]!)).toList := by
  rw [rep_cells]
  induction n with
  | zero => exact RelL.nil
  | succ n ih => simpa [List.replicate_succ] using h.append ih

theorem run_newRow {e : TypeId} {cells : Array Value} : (Go.newRow e cells).run P w = .ok ⟨w.heap.size, 0, none⟩ (push w (.cells cells e)) := by
  simp [Go.newRow]
  rfl

/-- A slice of a whole new row. -/
theorem rel_newSlice {nm b n sz c : Nat} {w0 : World} {arr : Array Value} {e : TypeId} {len : Nat} (hb : b = w0.heap.size) (hlen : len ≤ c) (hn : c * sz = n) (ha : arr.size = n) :
    Rel (addG G nm 0 (b, 0, n)) (push w0 (.cells arr e)) (.slice nm 0 0 len sz (some c)) (.slice (some ⟨b, 0, none⟩) len c) := by
  subst hb
  have : len * sz ≤ c * sz := Nat.mul_le_mul_right _ hlen
  simp only [Rel]
  exact ⟨w0.heap.size, 0, n, 0, c, e, arr.size, addG_self _ _ _ _, rfl, hlen, Nat.le_refl _, by omega, .inl rfl, (fun k hk => by cases hk; exact ⟨rfl, by omega⟩), shape_new, by omega⟩

theorem flatten_len {α : Type} (n : Nat) (l : List α) : (List.replicate n l).flatten.length = n * l.length := by
  simp

theorem fillV_length (place : Nat → Option (Nat × Nat)) : ∀ (parts : List (Nat × V)) (cells cs : List V), fillV place cells parts = some cs → cs.length = cells.length
  | [], cells, cs, h => by simp only [fillV, Option.some.injEq] at h; rw [h]
  | (i, v) :: parts, cells, cs, h => by
    simp only [fillV] at h
    split at h
    · cases h
    · rename_i off size hp
      simp only [cond_eq_ite, Bool.and_eq_true, Nat.beq_eq, Nat.ble_eq] at h
      split at h
      · rename_i hc
        rw [fillV_length place parts _ cs h, setCells_length (by omega)]
      · cases h

theorem op_buildSlice (hs : Sim H G w) (e : SimFr G w fr a) {t el : TypeId} {len : Nat} {ti ei : TI} (ht : typeOf P t = some ti) (hu : ti.under = .slice el) (hel : typeOf P el = some ei) {parts : Array (Nat × Operand)} (ho : o.op = .buildSlice t len parts) {vs cs : List V}
    (hv : opds fr H (parts.toList.map (·.2)) = some vs) (hb : len * ei.size ≤ 16777216) (h : fillV (fun i => some (i * ei.size, ei.size)) (List.replicate len ei.zero.cells).flatten ((parts.toList.map (·.1)).zip vs) = some cs) :
    OpOk P o a H G w (newRowV H cs el) (.val (.slice H.next 0 0 len ei.size (some len))) := by
  obtain ⟨z, hz, hzi, hr⟩ := run_zeroValue' hel w
  have hzs : z.cells.size = ei.size := by
    obtain ⟨_, _, i, z', hi, _, _, hz', _, _, hh⟩ := typeOf_some hel
    rw [hi] at hzi
    simp only [Option.bind_some, hz', Option.some.injEq] at hzi
    rw [← hzi]; exact hh
  have hus : P.underlying t = some (.slice el) := hu ▸ (typeOf_some ht).1
  obtain ⟨p1, p2⟩ := parts_rel hs e hv
  have hz0 := zero_cells (relL_cells (hr G w)) len
  rw [hzs] at hz0
  obtain ⟨rcs, f1, f2⟩ := fill_sound _ _ _ _ _ _ hz0 p1 p2 h
  have hstep := hs.newRow f2 [] el true (fun _ => rfl)
  simp only [List.append_nil, Array.toArray_toList] at hstep
  have hlen : cs.length = len * ei.size := by
    rw [fillV_length _ _ _ _ h, flatten_len, (typeOf_some hel).2.2.choose_spec.choose_spec.2.2.2.2.2.1]
  refine ⟨.slice (some ⟨w.heap.size, 0, none⟩) len len, _, _, ?_, hstep, ?_⟩
  · have hnb : ¬ (len * ei.size > 2 ^ 24) := by omega
    by_cases h0 : len * ei.size = 0
    · have f1' : Instr.fill (fun i => some (i * ei.size, ei.size)) #[] (Array.map (fun (x : Nat × Operand) => (x.1, a.eval x.2)) parts).toList = some rcs := by
        rw [h0, Array.range_zero'] at f1
        simpa using f1
      simp only [Array.toList_map] at f1'
      simp [execOp, ho, Instr.buildSlice, run_underlying hus, run_sizeOf' hel, h0, f1', run_newRow, Array.range_zero']
    · simp only [execOp, ho, Sem.run_bind, Instr.buildSlice, run_underlying hus, Result.andThen_ok, run_sizeOf' hel, hnb, if_false, h0, hz, Sem.run_pure, hzs, f1, run_newRow]
  · have := f2.length
    exact rel_newSlice rfl (Nat.le_refl _) hlen.symm (by simpa [hlen] using this.symm)

end
end Go.E2
