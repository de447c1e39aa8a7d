/- E2: single operations against the model's, fifth part: builtins, slices, builds. -/
import Derived.Test.YtjbefleabibmmaaGreatDoorE2j
namespace Go.E2
open Go

section
variable {P : Program} {o : Oper} {a : Act} {H : Heap} {G : Ghost} {w : World} {fr : Fr}

/-! ### Slices -/
theorem bound_sound {lo hi : Nat} {x : Option V} {rx : Option Value} (hx : match x, rx with | none, none => True | some v, some r => Rel G w v r | _, _ => False) {d n : Nat} (h : boundV lo hi x d = some n) :
    (x = none ∧ rx = none ∧ n = d) ∨ ∃ k i, x = some (.int k i) ∧ rx = some (.int k i) ∧ (lo : Int) ≤ i ∧ i ≤ hi ∧ n = i.toNat := by
  cases x with
  | none =>
    cases rx with
    | none => simp only [boundV, Option.some.injEq] at h; exact .inl ⟨rfl, rfl, h.symm⟩
    | some r => exact hx.elim
  | some v =>
    cases rx with
    | none => exact hx.elim
    | some r =>
      cases v with
      | int k i =>
        simp only [Rel] at hx
        subst hx
        simp only [boundV] at h
        split at h
        · rename_i hc
          cases h
          exact .inr ⟨k, i, rfl, rfl, hc.1, hc.2, rfl⟩
        · cases h
      | _ => simp [boundV] at h

theorem run_sliceBound {k : IntKind} {i : Int} {y : Nat} {c : BoundsCode} (h0 : 0 ≤ i) (h1 : i ≤ y) : ∀ w', (Instr.sliceBound (.int k i) y c).run P w' = .ok i.toNat w' := by
  intro w'
  simp [Instr.sliceBound, asIntOf, h0, h1]

def RelO (G : Ghost) (w : World) (x : Option V) (rx : Option Value) : Prop :=
  match x, rx with
  | none, none => True
  | some v, some r => Rel G w v r
  | _, _ => False

theorem opdO_sound (hs : Sim H G w) (e : SimFr G w fr a) {x : Option Operand} {v : Option V} (h : opdO fr H x = some v) : RelO G w v (x.map a.eval) := by
  cases x with
  | none => simp only [opdO, Option.some.injEq] at h; subst h; trivial
  | some x =>
    simp only [opdO, Option.map_eq_some_iff] at h
    obtain ⟨u, h1, rfl⟩ := h
    exact opd_sound hs e h1

/-- The bounds of a slice expression without a third one. -/
theorem run_sliceBounds2 {isSlice : Bool} {len cap c : Nat} {lo hi : Option V} {rlo rhi : Option Value} (h1 : RelO G w lo rlo) (h2 : RelO G w hi rhi) {l h : Nat} (hh : boundV 0 c hi len = some h) (hl : boundV 0 h lo 0 = some l) (hc : c ≤ cap) (hlen : len ≤ c) :
    l ≤ h ∧ h ≤ c ∧ ∀ w', (Instr.sliceBounds isSlice len cap rlo rhi none).run P w' = .ok (l, h, cap) w' := by
  have e2 := bound_sound h2 hh
  have e1 := bound_sound h1 hl
  rcases e2 with ⟨rfl, rfl, rfl⟩ | ⟨k, i, rfl, rfl, i0, i1, rfl⟩
  · rcases e1 with ⟨rfl, rfl, rfl⟩ | ⟨k', j, rfl, rfl, j0, j1, rfl⟩
    · exact ⟨Nat.zero_le _, hlen, fun w' => by simp [Instr.sliceBounds]⟩
    · have j0' : 0 ≤ j := by simpa using j0
      exact ⟨by omega, hlen, fun w' => by simp [Instr.sliceBounds, run_sliceBound j0' j1]⟩
  · have i0' : 0 ≤ i := by simpa using i0
    have i2 : i ≤ cap := by omega
    rcases e1 with ⟨rfl, rfl, rfl⟩ | ⟨k', j, rfl, rfl, j0, j1, rfl⟩
    · exact ⟨Nat.zero_le _, by omega, fun w' => by simp [Instr.sliceBounds, run_sliceBound i0' i2]⟩
    · have j0' : 0 ≤ j := by simpa using j0
      have j1' : j ≤ i.toNat := j1
      exact ⟨by omega, by omega, fun w' => by simp [Instr.sliceBounds, run_sliceBound i0' i2, run_sliceBound j0' j1']⟩

theorem extract_mk (s : List UInt8) (l h : Nat) : (ByteArray.mk s.toArray).extract l h = ⟨((s.take h).drop l).toArray⟩ := by
  apply ByteArray.ext
  simp [ByteArray.data_extract]
  rw [List.drop_take]

theorem op_sliceStr (hs : Sim H G w) (e : SimFr G w fr a) {t : TypeId} {ti : TI} (ht : typeOf P t = some ti) (hu : ti.under = .string) {x : Operand} {lo hi : Option Operand} (ho : o.op = .slice t x lo hi none) {s : List UInt8} {vlo vhi : Option V} {v : V}
    (hp : opd fr H x = some (.str s)) (h1 : opdO fr H lo = some vlo) (h2 : opdO fr H hi = some vhi) (h : sliceV 1 (.str s) vlo vhi none = some v) : OpOk P o a H G w H (.val v) := by
  have hx := opd_sound hs e hp
  simp only [Rel] at hx
  have hus : P.underlying t = some .string := hu ▸ (typeOf_some ht).1
  simp only [sliceV, Option.bind_eq_some_iff, Option.map_eq_some_iff] at h
  obtain ⟨hh, h3, l, h4, rfl⟩ := h
  obtain ⟨b1, b2, b3⟩ := run_sliceBounds2 (P := P) (isSlice := false) (cap := s.length) (opdO_sound hs e h1) (opdO_sound hs e h2) h3 h4 (Nat.le_refl _) (Nat.le_refl _)
  refine OpOk.pure hs (x := .string ⟨((s.take hh).drop l).toArray⟩) ?_ (by simp [Rel])
  have hsz : (ByteArray.mk s.toArray).size = s.length := by simp [ByteArray.size]
  simp [execOp, ho, hx, Instr.sliceAt, run_underlying hus, Instr.slice, hsz, b3, extract_mk]

theorem op_sliceSl (hs : Sim H G w) (e : SimFr G w fr a) {t el : TypeId} {ti ei : TI} (ht : typeOf P t = some ti) (hu : ti.under = .slice el) (hel : typeOf P el = some ei) {x : Operand} {lo hi : Option Operand} (ho : o.op = .slice t x lo hi none) {p : V} {vlo vhi : Option V} {v : V}
    (hp : opd fr H x = some p) (h1 : opdO fr H lo = some vlo) (h2 : opdO fr H hi = some vhi) (hns : ∀ s, p ≠ .str s) (h : sliceV ei.size p vlo vhi none = some v) : OpOk P o a H G w H (.val v) := by
  have hx := opd_sound hs e hp
  have hus : P.underlying t = some (.slice el) := hu ▸ (typeOf_some ht).1
  have r1 := opdO_sound hs e h1
  have r2 := opdO_sound hs e h2
  cases p with
  | str s => exact absurd rfl (hns s)
  | nils =>
    simp only [Rel] at hx
    have e0 : ∀ (y : Option V), boundV 0 0 (none : Option V) 0 = some 0 := fun _ => rfl
    simp only [sliceV, boundV, Option.bind_some, Option.bind_eq_some_iff, Option.map_eq_some_iff] at h
    obtain ⟨hh, h3, l, h4, rfl⟩ := h
    obtain ⟨b1, b2, b3⟩ := run_sliceBounds2 (P := P) (isSlice := true) (len := 0) (cap := 0) (c := 0) r1 r2 h3 h4 (Nat.le_refl _) (Nat.le_refl _)
    have hh0 : hh = 0 := by omega
    have hl0 : l = 0 := by omega
    subst hh0; subst hl0
    refine OpOk.pure hs (x := .slice none 0 0) ?_ (by simp [Rel])
    simp [execOp, ho, hx, Instr.sliceAt, run_underlying hus, Instr.slice, b3, run_sizeOf' hel]
  | slice nm g off len sz cap =>
    have hrel := hx
    simp only [Rel] at hx
    obtain ⟨b, sh, n, ro, c, e', m, q1, q2, q3, q4, q5, q6, q7, q8, q9⟩ := hx
    simp only [sliceV, cond_eq_ite, Bool.not_eq_true'] at h
    split at h
    · cases h
    rename_i hz
    have hz : ei.size = sz := by
      by_cases hq : ei.size = sz
      · exact hq
      · exact absurd (by rw [← Bool.not_eq_true, Nat.beq_eq]; exact hq) hz
    subst hz
    simp only [Option.bind_eq_some_iff, Option.map_eq_some_iff] at h
    obtain ⟨hh, h3, l, h4, rfl⟩ := h
    have hcap : cap.getD len ≤ c := by
      cases cap with
      | none => exact q3
      | some k => rw [(q7 k rfl).1]; exact Nat.le_refl _
    have hlen : len ≤ cap.getD len := by
      cases cap with
      | none => exact Nat.le_refl _
      | some k => rw [Option.getD_some, ← (q7 k rfl).1]; exact q3
    obtain ⟨b1, b2, b3⟩ := run_sliceBounds2 (P := P) (isSlice := true) (cap := c) r1 r2 h3 h4 hcap hlen
    have hs1 : l * ei.size ≤ hh * ei.size := Nat.mul_le_mul_right _ b1
    have hs2 : hh * ei.size ≤ c * ei.size := Nat.mul_le_mul_right _ (by omega)
    have hs3 : (hh - l) * ei.size = hh * ei.size - l * ei.size := Nat.sub_mul _ _ _
    have hs4 : (c - l) * ei.size = c * ei.size - l * ei.size := Nat.sub_mul _ _ _
    have hext : off + hh * ei.size ≤ n := by
      cases cap with
      | none =>
        have : hh * ei.size ≤ len * ei.size := Nat.mul_le_mul_right _ (by simpa using b2)
        omega
      | some k =>
        have : hh * ei.size ≤ k * ei.size := Nat.mul_le_mul_right _ (by simpa using b2)
        have := (q7 k rfl).2
        omega
    have hcaps : ∀ k, cap.map (· - l) = some k → c - l = k ∧ off + l * ei.size + k * ei.size ≤ n := by
      intro k hk
      simp only [Option.map_eq_some_iff] at hk
      obtain ⟨k0, h5, rfl⟩ := hk
      obtain ⟨h6, h7⟩ := q7 k0 h5
      subst h6
      refine ⟨rfl, ?_⟩
      omega
    refine OpOk.pure hs (x := .slice (if c = l then some ⟨b, ro, none⟩ else some ⟨b, ro + l * ei.size, none⟩) (hh - l) (c - l)) ?_ ?_
    · simp only [execOp, ho, Option.map_none, Sem.run_bind, q2, Instr.sliceAt, run_underlying hus, Result.andThen_ok, Instr.slice, b3, run_sizeOf' hel, Sem.run_pure, Option.map_some, addr_add]
    · by_cases hcl : c = l
      · rw [if_pos hcl]
        simp only [Rel]
        exact ⟨b, sh, n, ro, c - l, e', m, q1, rfl, by omega, by omega, by omega, .inr (by omega), hcaps, q8, by omega⟩
      · rw [if_neg hcl]
        simp only [Rel]
        exact ⟨b, sh, n, ro + l * ei.size, c - l, e', m, q1, rfl, by omega, by omega, by omega, .inl (by omega), hcaps, q8, by omega⟩
  | _ => simp [sliceV] at h

/-- The bounds of a slice expression with a third one. -/
theorem run_sliceBounds3 {isSlice : Bool} {len cap c : Nat} {lo : Option V} {vhi vmx : V} {rlo : Option Value} {rhi rmx : Value} (h1 : RelO G w lo rlo) (h2 : Rel G w vhi rhi) (h3 : Rel G w vmx rmx) {l h m : Nat} (hm : boundV 0 c (some vmx) c = some m) (hh : boundV 0 m (some vhi) len = some h) (hl : boundV 0 h lo 0 = some l) (hc : c ≤ cap) :
    l ≤ h ∧ h ≤ m ∧ m ≤ c ∧ ∀ w', (Instr.sliceBounds isSlice len cap rlo (some rhi) (some rmx)).run P w' = .ok (l, h, m) w' := by
  have e3 := bound_sound (x := some vmx) (rx := some rmx) h3 hm
  have e2 := bound_sound (x := some vhi) (rx := some rhi) h2 hh
  have e1 := bound_sound h1 hl
  rcases e3 with ⟨h0, _, _⟩ | ⟨k3, i3, _, hr3, i30, i31, rfl⟩
  · cases h0
  rcases e2 with ⟨h0, _, _⟩ | ⟨k2, i2, _, hr2, i20, i21, rfl⟩
  · cases h0
  cases hr3
  cases hr2
  have a3 : 0 ≤ i3 := by simpa using i30
  have a2 : 0 ≤ i2 := by simpa using i20
  have b3 : i3 ≤ cap := by omega
  have b2 : i2 ≤ i3.toNat := i21
  rcases e1 with ⟨rfl, rfl, rfl⟩ | ⟨k1, i1, rfl, rfl, i10, i11, rfl⟩
  · exact ⟨Nat.zero_le _, by omega, by omega, fun w' => by simp [Instr.sliceBounds, run_sliceBound a3 b3, run_sliceBound a2 b2]⟩
  · have a1 : 0 ≤ i1 := by simpa using i10
    have b1 : i1 ≤ i2.toNat := i11
    exact ⟨by omega, by omega, by omega, fun w' => by simp [Instr.sliceBounds, run_sliceBound a3 b3, run_sliceBound a2 b2, run_sliceBound a1 b1]⟩

theorem op_sliceSl3 (hs : Sim H G w) (e : SimFr G w fr a) {t el : TypeId} {ti ei : TI} (ht : typeOf P t = some ti) (hu : ti.under = .slice el) (hel : typeOf P el = some ei) {x hi mx : Operand} {lo : Option Operand} (ho : o.op = .slice t x lo (some hi) (some mx)) {nm g off len sz : Nat} {cap : Option Nat} {vlo : Option V} {vhi vmx v : V}
    (hp : opd fr H x = some (.slice nm g off len sz cap)) (h1 : opdO fr H lo = some vlo) (h2 : opd fr H hi = some vhi) (h3 : opd fr H mx = some vmx) (h : sliceV ei.size (.slice nm g off len sz cap) vlo (some vhi) (some vmx) = some v) : OpOk P o a H G w H (.val v) := by
  have hx := opd_sound hs e hp
  have hus : P.underlying t = some (.slice el) := hu ▸ (typeOf_some ht).1
  have r1 := opdO_sound hs e h1
  have r2 := opd_sound hs e h2
  have r3 := opd_sound hs e h3
  simp only [Rel] at hx
  obtain ⟨b, sh, n, ro, c, e', m', q1, q2, q3, q4, q5, q6, q7, q8, q9⟩ := hx
  simp only [sliceV, cond_eq_ite, Bool.not_eq_true'] at h
  split at h
  · cases h
  rename_i hz
  have hz : ei.size = sz := by
    by_cases hq : ei.size = sz
    · exact hq
    · exact absurd (by rw [← Bool.not_eq_true, Nat.beq_eq]; exact hq) hz
  subst hz
  simp only [Option.bind_eq_some_iff, Option.map_eq_some_iff] at h
  obtain ⟨m, h5, hh, h6, l, h7, rfl⟩ := h
  have hcap : cap.getD len ≤ c := by
    cases cap with
    | none => exact q3
    | some k => rw [(q7 k rfl).1]; exact Nat.le_refl _
  obtain ⟨b1, b2, b3, b4⟩ := run_sliceBounds3 (P := P) (isSlice := true) (cap := c) r1 r2 r3 h5 h6 h7 hcap
  have hs1 : l * ei.size ≤ m * ei.size := Nat.mul_le_mul_right _ (by omega)
  have hs2 : m * ei.size ≤ c * ei.size := Nat.mul_le_mul_right _ (by omega)
  have hs3 : (hh - l) * ei.size ≤ (m - l) * ei.size := Nat.mul_le_mul_right _ (by omega)
  have hs4 : (m - l) * ei.size = m * ei.size - l * ei.size := Nat.sub_mul _ _ _
  have hext : off + m * ei.size ≤ n := by
    cases cap with
    | none =>
      have : m * ei.size ≤ len * ei.size := Nat.mul_le_mul_right _ (by simpa using b3)
      omega
    | some k =>
      have : m * ei.size ≤ k * ei.size := Nat.mul_le_mul_right _ (by simpa using b3)
      have := (q7 k rfl).2
      omega
  have hcaps : ∀ k, some (m - l) = some k → m - l = k ∧ off + l * ei.size + k * ei.size ≤ n := by
    intro k hk
    cases hk
    exact ⟨rfl, by omega⟩
  refine OpOk.pure hs (x := .slice (if m = l then some ⟨b, ro, none⟩ else some ⟨b, ro + l * ei.size, none⟩) (hh - l) (m - l)) ?_ ?_
  · simp only [execOp, ho, Option.map_some, Sem.run_bind, q2, Instr.sliceAt, run_underlying hus, Result.andThen_ok, Instr.slice, b4, run_sizeOf' hel, Sem.run_pure, addr_add]
  · by_cases hcl : m = l
    · rw [if_pos hcl]
      simp only [Rel]
      exact ⟨b, sh, n, ro, m - l, e', m', q1, rfl, by omega, by omega, by omega, .inr (by omega), hcaps, q8, by omega⟩
    · rw [if_neg hcl]
      simp only [Rel]
      exact ⟨b, sh, n, ro + l * ei.size, m - l, e', m', q1, rfl, by omega, by omega, by omega, .inl (by omega), hcaps, q8, by omega⟩

end
end Go.E2
