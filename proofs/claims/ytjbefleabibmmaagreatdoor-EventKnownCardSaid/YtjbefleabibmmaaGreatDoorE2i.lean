/- E2: single operations against the model's, third part: operators, parts, slices. -/
import Derived.Test.YtjbefleabibmmaaGreatDoorE2h
namespace Go.E2
open Go

section
variable {P : Program} {o : Oper} {a : Act} {H : Heap} {G : Ghost} {w : World} {fr : Fr}

theorem part_sound {t : TypeId} {ti : TI} (ht : typeOf P t = some ti) {xs : List V} {rxs : Array Value} (hx : RelL G w xs rxs.toList) {off : Nat} {v : V} (h : partV ti xs off = some v) :
    ∃ y, (∀ w', (part t rxs off).run P w' = .ok y w') ∧ Rel G w v y := by
  simp only [partV, cond_eq_ite] at h
  cases hagg : ti.isAgg with
  | true =>
    simp only [hagg, if_true, Nat.ble_eq] at h
    split at h
    · rename_i hle
      cases h
      refine ⟨.agg (rxs.extract off (off + ti.size)), fun w' => by simp [part, run_isAgg' ht, hagg, run_sizeOf' ht], ?_⟩
      simp only [Rel]
      refine ⟨_, rfl, ?_⟩
      have := (hx.drop off).take ti.size
      simpa [Array.toList_extract, List.extract_eq_take_drop] using this
    · cases h
  | false =>
    simp only [hagg, Bool.false_eq_true, if_false] at h
    obtain ⟨y, hy, hr⟩ := hx.get h
    refine ⟨y, fun w' => ?_, hr⟩
    simp only [part, Sem.run_bind, run_isAgg' ht, Result.andThen_ok, hagg, Bool.false_eq_true, if_false]
    have : rxs[off]? = some y := by simpa using hy
    simp [this]

theorem rel_bool {b : Bool} {x : Value} : Rel G w (.bool b) x ↔ x = .bool b := by simp [Rel]
theorem rel_int {k : IntKind} {n : Int} {x : Value} : Rel G w (.int k n) x ↔ x = .int k n := by simp [Rel]
theorem rel_str {s : List UInt8} {x : Value} : Rel G w (.str s) x ↔ x = .string ⟨s.toArray⟩ := by simp [Rel]

theorem toList_mk (s : List UInt8) : (⟨s.toArray⟩ : ByteArray).toList = s := by rw [ByteArray.toList_eq]

theorem int_sound {op : BinOp} {k : IntKind} {x y : Int} {v : V} (t : TypeId) (h : intOpV op k x y = some v) : ∃ z, (∀ w', (binOp op t (.int k x) (.int k y)).run P w' = .ok z w') ∧ Rel G w v z := by
  cases op <;> simp only [intOpV] at h <;> try (cases h; done)
  all_goals try
    (cases h
     exact ⟨_, fun w' => by simp [binOp, Op.intArith, Op.intBits, Op.intCmp]; rfl, by simp [Rel]⟩)
  all_goals
    split at h
    · cases h
    · rename_i hy
      cases h
      exact ⟨_, fun w' => by simp [binOp, Op.intDiv, hy]; rfl, by simp [Rel]⟩

theorem shift_sound {op : BinOp} {k k' : IntKind} {x y : Int} {v : V} (t : TypeId) (hop : op = .shl ∨ op = .shr) (h : shiftV op k x y = some v) : ∃ z, (∀ w', (binOp op t (.int k x) (.int k' y)).run P w' = .ok z w') ∧ Rel G w v z := by
  simp only [shiftV] at h
  split at h
  · cases h
  · rename_i hy
    rcases hop with rfl | rfl
    · cases h
      exact ⟨_, fun w' => by simp [binOp, Op.shift, hy]; rfl, by simp [Rel]⟩
    · cases h
      exact ⟨_, fun w' => by simp [binOp, Op.shift, hy]; rfl, by simp [Rel]⟩

theorem bytesLess_eq : ∀ x y : List UInt8, Op.bytesLess x y = bytesLessL x y
  | _, [] => by simp [Op.bytesLess, bytesLessL]
  | [], _ :: _ => by simp [Op.bytesLess, bytesLessL]
  | a :: x, b :: y => by simp only [Op.bytesLess, bytesLessL, bytesLess_eq x y]

theorem str_sound {op : BinOp} {x y : List UInt8} {v : V} (t : TypeId) (h : strOpV op x y = some v) : ∃ z, (∀ w', (binOp op t (.string ⟨x.toArray⟩) (.string ⟨y.toArray⟩)).run P w' = .ok z w') ∧ Rel G w v z := by
  cases op <;> simp only [strOpV] at h <;> try (cases h; done)
  case add =>
    simp only [cond_eq_ite, Nat.ble_eq] at h
    split at h
    · rename_i hle
      cases h
      have hle' : x.length + y.length ≤ 140737488355328 := hle
      refine ⟨.string (⟨x.toArray⟩ ++ ⟨y.toArray⟩), fun w' => ?_, ?_⟩
      · have : ¬ (9223372036854775807 < ((x.length : Int) + (y.length : Int))) := by omega
        simp [binOp, Op.stringOp, ByteArray.size, this]
      · rw [rel_str]
        congr 1
    · cases h
  all_goals
    cases h
    exact ⟨_, fun w' => by simp [binOp, Op.stringOp, bytesLess_eq]; rfl, by simp [Rel]⟩

/-! ### Equality -/
theorem plainEq_struct {n : Nat} {t : TypeId} {fs : Array Field} (h : plainEq P n t = true) (hu : P.underlying t = some (.struct fs)) :
    P.stoodInHeld t = false ∧ P.eqGuardType P.depth t = false ∧ ∀ f ∈ fs.toList, f.name ≠ "_" := by
  cases n with
  | zero => simp [plainEq] at h
  | succ n =>
    simp only [plainEq, hu, Bool.and_eq_true, Bool.not_eq_true'] at h
    refine ⟨h.1.1, h.1.2, fun f hf => ?_⟩
    have := (Array.all_eq_true'.1 h.2) f (by simpa using hf)
    simp only [Bool.and_eq_true, bne_iff_ne] at this
    exact this.1

mutual
theorem eq_sound {E : Env} (hE : E.types = typeOf P) (hok : E.eqOk = plainEq P 20) : ∀ (d D : Nat) (t : TypeId) (x y : V) (rx ry : Value) (b : Bool), d ≤ D → eqV E d t x y = some b → Rel G w x rx → Rel G w y ry →
    ∀ w', (Op.equalIn D t rx ry).run P w' = .ok b w'
  | 0, _, _, _, _, _, _, _, _, h, _, _ => by simp [eqV] at h
  | d + 1, 0, _, _, _, _, _, _, hd, _, _, _ => by omega
  | d + 1, D + 1, t, x, y, rx, ry, b, hd, h, hx, hy => by
    intro w'
    simp only [eqV, hE] at h
    split at h
    · cases h
    rename_i ti ht
    have hu := (typeOf_some ht).1
    split at h
    · -- int
      rename_i k0 k a k' a' hti
      rw [hti] at hu
      split at h
      · rename_i hk
        subst hk
        cases h
        simp only [Rel] at hx hy
        subst hx; subst hy
        exact run_equalIn_int w' D t k k0 a a' hu
      · cases h
    · rename_i a a' hti
      rw [hti] at hu
      cases h
      simp only [Rel] at hx hy
      subst hx; subst hy
      rw [run_equalIn_string w' D t _ _ hu, toList_mk, toList_mk]
    · rename_i a a' hti
      rw [hti] at hu
      cases h
      simp only [Rel] at hx hy
      subst hx; subst hy
      exact run_equalIn_bool' w' D t _ _ hu
    · rename_i fs xs ys hti
      rw [hti] at hu
      simp only [hok, cond_eq_ite] at h
      split at h
      · rename_i hpl
        obtain ⟨p1, p2, p3⟩ := plainEq_struct hpl hu
        simp only [Rel] at hx hy
        obtain ⟨ax, rfl, hx⟩ := hx
        obtain ⟨ay, rfl, hy⟩ := hy
        have hfo : P.fieldsOf t = fs := by simp [Program.fieldsOf, hu]
        rw [run_equalIn_struct w' D t ax ay (by rw [hfo]; exact hu) p1, hfo]
        exact eqFields_sound hE hok d D fs.toList xs ys ax ay b (by omega) h hx hy p3 w'
      · cases h
    all_goals try (
      rename_i hti
      rw [hti] at hu
      cases h
      simp only [Rel] at hx hy
      first
        | (subst hx; subst hy; simp [Op.equalIn, run_underlying hu]; done)
        | (subst hx; obtain ⟨_, _, _, _, _, _, _, _, rfl, _⟩ := hy; simp [Op.equalIn, run_underlying hu]; done)
        | (subst hy; obtain ⟨_, _, _, _, _, _, _, _, rfl, _⟩ := hx; simp [Op.equalIn, run_underlying hu]; done)
        | (subst hx; obtain ⟨_, _, _, _, _, _, rfl, _⟩ := hy; simp [Op.equalIn, run_underlying hu]; done)
        | (subst hy; obtain ⟨_, _, _, _, _, _, rfl, _⟩ := hx; simp [Op.equalIn, run_underlying hu]; done)
        | (subst hx; obtain ⟨_, _, _, rfl, _⟩ := hy; simp [Op.equalIn, run_underlying hu]; done)
        | (subst hy; obtain ⟨_, _, _, rfl, _⟩ := hx; simp [Op.equalIn, run_underlying hu]; done)
        | (subst hx; obtain ⟨_, _, _, _, rfl⟩ := hy; simp [Op.equalIn, run_underlying hu]; done)
        | (subst hy; obtain ⟨_, _, _, _, rfl⟩ := hx; simp [Op.equalIn, run_underlying hu]; done)
        | (subst hx; obtain ⟨_, _, _, _, _, _, rfl⟩ := hy; simp [Op.equalIn, run_underlying hu, samePointer]; done)
        | (subst hy; obtain ⟨_, _, _, _, _, _, rfl⟩ := hx; simp [Op.equalIn, run_underlying hu, samePointer]; done)
        | (subst hx; obtain ⟨_, rfl, _⟩ := hy; simp [Op.equalIn, run_underlying hu]; done)
        | (subst hy; obtain ⟨_, rfl, _⟩ := hx; simp [Op.equalIn, run_underlying hu]; done)
      done)
    · rename_i el nm g off lim nm' g' off' lim' hti
      rw [hti] at hu
      simp only [Option.bind_eq_some_iff, cond_eq_ite, Bool.and_eq_true, Bool.not_eq_true', Nat.beq_eq] at h
      obtain ⟨ei, hei, h⟩ := h
      split at h
      · rename_i hc
        obtain ⟨c1, rfl, rfl⟩ := hc
        have c1 : ei.size ≠ 0 := by
          intro h0; rw [h0] at c1; cases c1
        cases h
        simp only [Rel] at hx hy
        obtain ⟨b1, sh1, n1, q1, q2, q3, rfl⟩ := hx
        obtain ⟨b2, sh2, n2, q4, q5, q6, rfl⟩ := hy
        rw [q1] at q4
        cases q4
        simp [Op.equalIn, run_underlying hu, run_sizeOf' hei, c1, sameAddr]
        rw [Bool.eq_iff_iff]
        simp only [beq_iff_eq, Nat.beq_eq]
        constructor
        · intro hh; simp only [Addr.mk.injEq, true_and, and_true] at hh; omega
        · intro hh; subst hh; rfl
      · cases h
    · cases h
theorem eqFields_sound {E : Env} (hE : E.types = typeOf P) (hok : E.eqOk = plainEq P 20) : ∀ (d D : Nat) (fs : List Field) (xs ys : List V) (rxs rys : Array Value) (b : Bool), d ≤ D → eqFields E d fs xs ys = some b → RelL G w xs rxs.toList → RelL G w ys rys.toList →
    (∀ f ∈ fs, f.name ≠ "_") → ∀ w', (Op.eqFields D rxs rys fs).run P w' = .ok b w'
  | 0, _, _, _, _, _, _, _, _, h, _, _, _ => by simp [eqFields] at h
  | d + 1, D, fs, xs, ys, rxs, rys, b, hd, h, hx, hy, hn => by
    intro w'
    cases fs with
    | nil =>
      simp only [eqFields, Option.some.injEq] at h
      subst h
      simp [Op.eqFields]
    | cons f fs =>
      simp only [eqFields, hE] at h
      split at h
      · cases h
      rename_i ti ht
      simp only [Option.bind_eq_some_iff] at h
      obtain ⟨u, h1, v, h2, r, h3, h4⟩ := h
      obtain ⟨ru, q1, q2⟩ := part_sound ht hx h1
      obtain ⟨rv, q3, q4⟩ := part_sound ht hy h2
      have heq := eq_sound hE hok d D f.type u v ru rv r (by omega) h3 q2 q4
      simp only [Op.eqFields, hn f (by simp), ne_eq, not_false_eq_true, if_true, Sem.run_bind, q1, q3, Result.andThen_ok, heq]
      cases r with
      | true =>
        simp only [cond_true] at h4
        simp only [Bool.not_true, Bool.false_eq_true, if_false]
        exact eqFields_sound hE hok d D fs xs ys rxs rys b (by omega) h4 hx hy (fun f hf => hn f (by simp [hf])) w'
      | false =>
        simp only [cond_false, Option.some.injEq] at h4
        subst h4
        simp
end

end
end Go.E2
