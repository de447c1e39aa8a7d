/- E2: single operations against the model's, second part: each operation. -/
import Derived.Test.YtjbefleabibmmaaGreatDoorE2g
namespace Go.E2
open Go

section
variable {P : Program} {o : Oper} {a : Act} {H : Heap} {G : Ghost} {w : World} {fr : Fr}

theorem op_move (hs : Sim H G w) (e : SimFr G w fr a) {x : Operand} (ho : o.op = .move x ∨ o.op = .assign x) {v : V} (h : opd fr H x = some v) : OpOk P o a H G w H (.val v) := by
  refine OpOk.pure hs (x := a.eval x) ?_ (opd_sound hs e h)
  rcases ho with ho | ho <;> simp [execOp, ho]

theorem op_pick (hs : Sim H G w) (e : SimFr G w fr a) {c x y : Operand} (ho : o.op = .pick c x y) {b : Bool} {v : V} (hc : opd fr H c = some (.bool b)) (h : opd fr H (if b then x else y) = some v) : OpOk P o a H G w H (.val v) := by
  have h1 := opd_sound hs e hc
  simp only [Rel] at h1
  have h2 := opd_sound hs e h
  refine OpOk.pure hs (x := a.eval (if b then x else y)) ?_ h2
  simp only [execOp, ho, h1, asBool]
  cases b <;> simp

theorem op_nilCheck (hs : Sim H G w) (e : SimFr G w fr a) {x : Operand} (ho : o.op = .nilCheck x) {v : V} (h : opd fr H x = some v)
    (hn : match v with | .nilp | .nili | .nilf | .func (.method _) _ _ => False | _ => True) : OpOk P o a H G w H (.val v) := by
  have h1 := opd_sound hs e h
  refine OpOk.pure hs (x := a.eval x) ?_ h1
  generalize hx : a.eval x = rx at h1
  simp only [execOp, ho, hx]
  cases v with
  | func fn f c =>
    simp only [Rel] at h1
    obtain ⟨fn', a', c', rfl, hf, _⟩ := h1
    cases fn with
    | method n => exact hn.elim
    | yield l => obtain ⟨b, sh, n, _, rfl⟩ := hf; simp
    | func g => simp only [RelFn] at hf; subst hf; simp
    | methodOf t n => simp only [RelFn] at hf; subst hf; simp
    | via t p f q => simp only [RelFn] at hf; subst hf; simp
  | ptr nm g off lim => simp only [Rel] at h1; obtain ⟨b, sh, n, _, _, _, rfl⟩ := h1; simp
  | slice nm g off len sz cap => simp only [Rel] at h1; obtain ⟨b, sh, n, ro, c, e, m, _, rfl, _⟩ := h1; simp
  | iface t y => simp only [Rel] at h1; obtain ⟨y', rfl, _⟩ := h1; simp
  | agg cs => simp only [Rel] at h1; obtain ⟨y', rfl, _⟩ := h1; simp
  | tuple cs => simp only [Rel] at h1; obtain ⟨y', rfl, _⟩ := h1; simp
  | map nm => simp only [Rel] at h1; obtain ⟨b, sh, n, _, rfl⟩ := h1; simp
  | nilp => exact hn.elim
  | nili => exact hn.elim
  | nilf => exact hn.elim
  | _ => simp only [Rel] at h1; subst h1; simp

/-! ### New variables -/
theorem op_newRow (hs : Sim H G w) {v : V} {x : Value} (hv : Rel G w v x) {t : TypeId}
    (hrun : (execOp a.eval o).run P w = .ok (.value (.pointer (some ⟨w.heap.size, 0, none⟩))) (push w (.cells x.cells t))) : OpOk P o a H G w (newRowV H v.cells t) (.val (.ptr H.next 0 0 v.cells.length)) := by
  have hstep := hs.newRow (relL_cells hv) [] t true (fun _ => rfl)
  simp only [List.append_nil, Array.toArray_toList] at hstep
  exact ⟨_, _, _, hrun, hstep, rel_newPtr⟩

theorem op_alloc (hs : Sim H G w) {t : TypeId} {ti : TI} (ho : o.op = .alloc t) (ht : typeOf P t = some ti) : OpOk P o a H G w (newRowV H ti.zero.cells t) (.val (.ptr H.next 0 0 ti.zero.cells.length)) := by
  obtain ⟨z, hz, _, hr⟩ := run_zeroValue' ht w
  refine op_newRow hs (hr G w) ?_
  simp [execOp, ho, Instr.alloc, hz, newVar, Go.newRow]
  rfl

theorem op_box (hs : Sim H G w) (e : SimFr G w fr a) {t : TypeId} {x : Operand} (ho : o.op = .box t x) {v : V} (h : opd fr H x = some v) : OpOk P o a H G w (newRowV H v.cells t) (.val (.ptr H.next 0 0 v.cells.length)) := by
  refine op_newRow hs (opd_sound hs e h) ?_
  simp [execOp, ho, Instr.box, newVar, Go.newRow]
  rfl

/-! ### Memory -/
theorem op_load (hs : Sim H G w) (e : SimFr G w fr a) {t : TypeId} {ti : TI} (ht : typeOf P t = some ti) {x : Operand} (ho : o.op = .load t x) {p v : V} (hp : opd fr H x = some p) (h : loadV H ti p = some v) : OpOk P o a H G w H (.val v) := by
  obtain ⟨y, ad, h1, h2, h3⟩ := load_sound hs ht (opd_sound hs e hp) h
  refine OpOk.pure hs (x := y) ?_ h3
  simp [execOp, ho, Instr.loadAt, h1, Instr.sureAddr, h2]

theorem op_store (hs : Sim H G w) (e : SimFr G w fr a) {t : TypeId} {ti : TI} (ht : typeOf P t = some ti) {x y : Operand} (ho : o.op = .store t x y) {p v : V} (hp : opd fr H x = some p) (hv : opd fr H y = some v) {H' : Heap} (h : storeV H ti p v = some H') : OpOk P o a H G w H' .skip := by
  obtain ⟨ad, w', h1, h2, h3⟩ := store_sound hs ht (opd_sound hs e hp) (opd_sound hs e hv) h
  refine ⟨w', G, ?_, h3⟩
  simp [execOp, ho, Instr.storeAt, h1, Instr.sureAddr, h2]

/-! ### Places -/
theorem run_struct {s : TypeId} {ti : TI} (ht : typeOf P s = some ti) {k : Nat} {f : Field} (hf : fieldOf ti k = some f) : ∃ fs, ti.under = .struct fs ∧ fs[k]? = some f ∧ P.underlying s = some (.struct fs) := by
  unfold fieldOf at hf
  split at hf
  · rename_i fs hu
    exact ⟨fs, hu, hf, hu ▸ (typeOf_some ht).1⟩
  · cases hf

theorem op_fieldAddr (hs : Sim H G w) (e : SimFr G w fr a) {s : TypeId} {ti fi : TI} (ht : typeOf P s = some ti) {x : Operand} {k : Nat} {f : Field} (ho : o.op = .fieldAddr s x k) (hf : fieldOf ti k = some f) (hfi : typeOf P f.type = some fi)
    (hz : fi.size ≠ 0) {p v : V} (hp : opd fr H x = some p) (h : (match p with | .ptr nm g off lim => some (.ptr nm g (off + f.offset) lim) | _ => none) = some v) :
    OpOk P o a H G w H (.val v) := by
  obtain ⟨fs, hu, hk, hus⟩ := run_struct ht hf
  have h1 := opd_sound hs e hp
  have hrun : ∀ b ro, a.eval x = .pointer (some ⟨b, ro, none⟩) → (execOp a.eval o).run P w = .ok (.value (.pointer (some ⟨b, ro + f.offset, none⟩))) w := by
    intro b ro hx
    simp [execOp, ho, Instr.fieldAt, run_underlying hus, hk, hx, Instr.sureAddr, fieldPlace, run_sizeOf' hfi, hz, addr_add]
  cases p with
  | ptr nm g off lim =>
    cases h
    simp only [Rel] at h1
    obtain ⟨b, sh, n, h2, h3, h4, h5⟩ := h1
    refine OpOk.pure hs (hrun _ _ h5) ?_
    simp only [Rel]
    exact ⟨b, sh, n, h2, by omega, h4, by rw [show off + f.offset - sh = off - sh + f.offset by omega]⟩
  | _ => cases h

theorem op_indexAddr (hs : Sim H G w) (e : SimFr G w fr a) {t el : TypeId} {ti ei : TI} (ht : typeOf P t = some ti) (hu : ti.under = .slice el) (hel : typeOf P el = some ei) {x i : Operand} (ho : o.op = .indexAddr t x i) {p q v : V}
    (hp : opd fr H x = some p) (hq : opd fr H i = some q) (h : indexAddrV ei.size p q = some v) : OpOk P o a H G w H (.val v) := by
  have h1 := opd_sound hs e hp
  have h2 := opd_sound hs e hq
  have hut : P.underlying t = some (.slice el) := hu ▸ (typeOf_some ht).1
  have hrun : ∀ b ro len c k (j : Int), a.eval x = .slice (some ⟨b, ro, none⟩) len c → a.eval i = .int k j → 0 ≤ j → j < len → (execOp a.eval o).run P w = .ok (.value (.pointer (some ⟨b, ro + j.toNat * ei.size, none⟩))) w := by
    intro b ro len c k j hx hj h0 hl
    simp [execOp, ho, Instr.indexAt, run_underlying hut, hx, hj, asIntOf, run_sizeOf' hel, h0, hl, addr_add]
  cases p with
  | slice nm g off len sz cap =>
    cases q with
    | int k j =>
      simp only [indexAddrV] at h
      split at h
      · rename_i hc
        obtain ⟨c1, c2, c3⟩ := hc
        rw [Nat.beq_eq] at c1
        subst c1
        cases h
        simp only [Rel] at h1 h2
        obtain ⟨b, sh, n, ro, c, e', m, r1, r2, r3, r4, r5, r6, r7, r8, r9⟩ := h1
        refine OpOk.pure hs (hrun _ _ _ _ _ _ r2 h2 c2 c3) ?_
        have hj : j.toNat < len := by omega
        have hm : j.toNat * ei.size ≤ len * ei.size := Nat.mul_le_mul_right _ (by omega)
        simp only [Rel]
        refine ⟨b, sh, n, r1, by omega, r5, ?_⟩
        have : ro + sh = off := by rcases r6 with r6 | r6 <;> omega
        rw [show off + j.toNat * ei.size - sh = ro + j.toNat * ei.size by omega]
      · cases h
    | _ => cases h
  | _ => cases q <;> cases h

theorem op_indexAddrArr (hs : Sim H G w) (e : SimFr G w fr a) {t el : TypeId} {n : Nat} {ti ei : TI} (ht : typeOf P t = some ti) (hu : ti.under = .array n el) (hel : typeOf P el = some ei) {x i : Operand} (ho : o.op = .indexAddr t x i) {p v : V} {k : IntKind} {j : Int}
    (hp : opd fr H x = some p) (hq : opd fr H i = some (.int k j)) (hj0 : 0 ≤ j) (hjn : j < n)
    (h : (match p with | .ptr nm g off lim => some (.ptr nm g (off + j.toNat * ei.size) lim) | _ => none) = some v) : OpOk P o a H G w H (.val v) := by
  have h1 := opd_sound hs e hp
  have h2 := opd_sound hs e hq
  simp only [Rel] at h2
  have hut : P.underlying t = some (.array n el) := hu ▸ (typeOf_some ht).1
  have hrun : ∀ b ro, a.eval x = .pointer (some ⟨b, ro, none⟩) → (execOp a.eval o).run P w = .ok (.value (.pointer (some ⟨b, ro + j.toNat * ei.size, none⟩))) w := by
    intro b ro hx
    simp [execOp, ho, Instr.indexAt, run_underlying hut, hx, h2, asIntOf, Instr.sureAddr, run_sizeOf' hel, hj0, hjn, addr_add]
  cases p with
  | ptr nm g off lim =>
    cases h
    simp only [Rel] at h1
    obtain ⟨b, sh, m, h3, h4, h5, h6⟩ := h1
    refine OpOk.pure hs (hrun _ _ h6) ?_
    simp only [Rel]
    exact ⟨b, sh, m, h3, by omega, h5, by rw [show off + j.toNat * ei.size - sh = off - sh + j.toNat * ei.size by omega]⟩
  | _ => cases h

end
end Go.E2
