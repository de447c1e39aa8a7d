/- WHAT THE FUNCTIONS OF THE CHAPTER 2 ON SINGLE WORDS COMPUTE, in plain Lean: names, numbers, cuts at a byte; no program in sight. No condition. -/
import Derived.Test.YthjgdmkelfkneaaDoorE2y
namespace Go.Proofs.YthjgdmkelfkneaaDoor
open Go Go.E2

def letterB (n : Int) : Bool := decide (n ≥ 97) && decide (n ≤ 122)
def digitB (n : Int) : Bool := decide (n ≥ 48) && decide (n ≤ 57)
def okc (n : Int) : Bool := letterB n || digitB n || n == 45

theorem letterB_t {n : Int} (h1 : n ≥ 97) (h2 : n ≤ 122) : letterB n = true := by simp [letterB]; omega
theorem okc_iff {n : Int} : okc n = true ↔ (97 ≤ n ∧ n ≤ 122) ∨ (48 ≤ n ∧ n ≤ 57) ∨ n = 45 := by
  simp [okc, letterB, digitB]
  omega
theorem letterB_iff {n : Int} : letterB n = true ↔ 97 ≤ n ∧ n ≤ 122 := by
  simp [letterB]
theorem digitB_iff {n : Int} : digitB n = true ↔ 48 ≤ n ∧ n ≤ 57 := by
  simp [digitB]
theorem letterB_not {n : Int} : letterB n = false ↔ ¬ (97 ≤ n ∧ n ≤ 122) := by
  rw [← letterB_iff, Bool.not_eq_true]
theorem digitB_not {n : Int} : digitB n = false ↔ ¬ (48 ≤ n ∧ n ≤ 57) := by
  rw [← digitB_iff, Bool.not_eq_true]

/-! ### Names -/
def nameL (s : List UInt8) : Bool := decide (s.length ≠ 0) && decide (s.length ≤ 20) && letterB (byteI s 0) && (List.range s.length).all fun j => okc (byteI s j)

theorem nameL_iff {s : List UInt8} : nameL s = true ↔ s.length ≠ 0 ∧ s.length ≤ 20 ∧ (97 ≤ byteI s 0 ∧ byteI s 0 ≤ 122) ∧ ∀ j : Nat, j < s.length → okc (byteI s j) = true := by
  simp only [nameL, Bool.and_eq_true, decide_eq_true_eq, List.all_eq_true, List.mem_range, letterB_iff, and_assoc]

theorem nameL_false {s : List UInt8} (h : s.length = 0 ∨ 20 < s.length ∨ ¬ (97 ≤ byteI s 0 ∧ byteI s 0 ≤ 122) ∨ ∃ j : Nat, j < s.length ∧ okc (byteI s j) = false) : nameL s = false := by
  rw [← Bool.not_eq_true, nameL_iff]
  rintro ⟨h1, h2, h3, h4⟩
  rcases h with h | h | h | ⟨j, hj, h⟩
  · omega
  · omega
  · exact h h3
  · rw [h4 j hj] at h; cases h

theorem name_bad0 {s : List UInt8} (h : s.length = 0 ∨ 20 < s.length ∨ byteI s 0 < 97 ∨ 122 < byteI s 0) : nameL s = false := by
  refine nameL_false ?_
  rcases h with h | h | h | h
  · exact .inl h
  · exact .inr (.inl h)
  · exact .inr (.inr (.inl (by omega)))
  · exact .inr (.inr (.inl (by omega)))
theorem name_badi {s : List UInt8} (i : Nat) (hi : i < s.length) (h : ¬ ((97 ≤ byteI s i ∧ byteI s i ≤ 122) ∨ (48 ≤ byteI s i ∧ byteI s i ≤ 57) ∨ byteI s i = 45)) : nameL s = false :=
  nameL_false (.inr (.inr (.inr ⟨i, hi, by rw [← Bool.not_eq_true, okc_iff]; exact h⟩)))

theorem step_all {s : List UInt8} {i : Nat} (h : ∀ j : Nat, j < i → okc (byteI s j) = true) (hi : okc (byteI s i) = true) : ∀ j : Nat, j < i + 1 → okc (byteI s j) = true := by
  intro j hj
  by_cases he : j = i
  · rw [he]; exact hi
  · exact h j (by omega)

/-! ### Numbers -/
def numGo : List UInt8 → Int → Int × Bool
  | [], n => (n, true)
  | c :: l, n => if (c.toNat : Int) < 48 ∨ (c.toNat : Int) > 57 then (0, false) else if 10 * n + ((c.toNat : Int) - 48) > 1099511627776 then (0, false) else numGo l (10 * n + ((c.toNat : Int) - 48))

def numL (s : List UInt8) : Int × Bool := if s.length = 0 ∨ (byteI s 0 = 48 ∧ s.length > 1) then (0, false) else numGo s 0

theorem numGo_bd : ∀ (l : List UInt8) (n : Int), 0 ≤ n → n ≤ 1099511627776 → 0 ≤ (numGo l n).1 ∧ (numGo l n).1 ≤ 1099511627776
  | [], n, h1, h2 => ⟨h1, h2⟩
  | c :: l, n, h1, h2 => by
    simp only [numGo]
    split
    · exact ⟨by simp, by simp⟩
    · split
      · exact ⟨by simp, by simp⟩
      · exact numGo_bd l _ (by omega) (by omega)

theorem numL_bd (s : List UInt8) : 0 ≤ (numL s).1 ∧ (numL s).1 ≤ 1099511627776 := by
  unfold numL
  split
  · exact ⟨by simp, by simp⟩
  · exact numGo_bd s 0 (by omega) (by omega)

theorem drop_cons {s : List UInt8} {i : Nat} (h : i < s.length) : s.drop i = byteAt s (i : Int) :: s.drop (i + 1) := by
  rw [List.drop_eq_getElem_cons h]
  congr 1
  simp [byteAt, List.getD_eq_getElem?_getD, h]

theorem numGo_cons {s : List UInt8} {i : Nat} {n : Int} (h : i < s.length) : numGo (s.drop i) n = if byteI s i < 48 ∨ byteI s i > 57 then (0, false) else if 10 * n + (byteI s i - 48) > 1099511627776 then (0, false) else numGo (s.drop (i + 1)) (10 * n + (byteI s i - 48)) := by
  rw [drop_cons h, numGo]
  rfl

theorem num_step {s : List UInt8} {i : Nat} {n : Int} (h : i < s.length) (h1 : ¬ byteI s i < 48) (h2 : ¬ byteI s i > 57) (h3 : ¬ 10 * n + (byteI s i - 48) > 1099511627776) (hn : numL s = numGo (s.drop i) n) : numL s = numGo (s.drop (i + 1)) (10 * n + (byteI s i - 48)) := by
  rw [hn, numGo_cons h, if_neg (by rintro (h | h); exact h1 h; exact h2 h), if_neg h3]

theorem num_bad {s : List UInt8} {i : Nat} {n : Int} (h : i < s.length) (hb : byteI s i < 48 ∨ byteI s i > 57) (hn : numL s = numGo (s.drop i) n) : numL s = (0, false) := by
  rw [hn, numGo_cons h, if_pos hb]

theorem num_big {s : List UInt8} {i : Nat} {n : Int} (h : i < s.length) (h1 : ¬ byteI s i < 48) (h2 : ¬ byteI s i > 57) (h3 : 10 * n + (byteI s i - 48) > 1099511627776) (hn : numL s = numGo (s.drop i) n) : numL s = (0, false) := by
  rw [hn, numGo_cons h, if_neg (by rintro (h | h); exact h1 h; exact h2 h), if_pos h3]

theorem num_fail {s : List UInt8} {i : Nat} {n : Int} (h : i < s.length) (hb : byteI s i < 48 ∨ byteI s i > 57 ∨ 10 * n + (byteI s i - 48) > 1099511627776) (hn : numL s = numGo (s.drop i) n) : numL s = (0, false) := by
  by_cases h1 : byteI s i < 48 ∨ byteI s i > 57
  · exact num_bad h h1 hn
  · exact num_big h (by omega) (by omega) (by omega) hn

theorem num_end {s : List UInt8} {i : Nat} {n : Int} (h : s.length ≤ i) (hn : numL s = numGo (s.drop i) n) : numL s = (n, true) := by
  rw [hn, List.drop_of_length_le h, numGo]

theorem num_start {s : List UInt8} (h : ¬ (s.length = 0 ∨ (byteI s 0 = 48 ∧ s.length > 1))) : numL s = numGo (s.drop 0) 0 := by
  rw [numL, if_neg h, List.drop_zero]

theorem num_none {s : List UInt8} (h : s.length = 0 ∨ (byteI s 0 = 48 ∧ s.length > 1)) : numL s = (0, false) := by
  rw [numL, if_pos h]

/-! ### Numbers with a sign -/
def hasPre (s p : List UInt8) : Bool := decide (p.length ≤ s.length) && s.take p.length == p
def cutL (s p : List UInt8) : List UInt8 := if hasPre s p then s.drop p.length else s
def signedL (s : List UInt8) : Int × Bool :=
  if hasPre s [45] then (if (numL (s.drop 1)).2 && !((numL (s.drop 1)).1 == 0) then (-(numL (s.drop 1)).1, true) else (0, false)) else numL s

theorem hasPre_false {s p : List UInt8} (h : s.length < p.length) : hasPre s p = false := by
  have : ¬ p.length ≤ s.length := by omega
  simp [hasPre, this]
theorem hasPre_eq {s p : List UInt8} (h : p.length ≤ s.length) : hasPre s p = (s.take (p.length : Int).toNat == p) := by
  simp [hasPre, h]
theorem hasPre_len {s p : List UInt8} (h : hasPre s p = true) : (p.length : Int) ≤ s.length := by
  simp only [hasPre, Bool.and_eq_true, decide_eq_true_eq] at h
  omega
theorem cutL_len {s p : List UInt8} (h : s.length ≤ 1000000) : (cutL s p).length ≤ 1000000 := by
  unfold cutL
  split
  · simp only [List.length_drop]; omega
  · exact h

theorem numL_false {s : List UInt8} (h : (numL s).2 = false) : (numL s).1 = 0 := by
  have go : ∀ (l : List UInt8) (n : Int), (numGo l n).2 = false → (numGo l n).1 = 0 := by
    intro l
    induction l with
    | nil => intro n h; simp [numGo] at h
    | cons c l ih =>
      intro n h
      simp only [numGo] at h ⊢
      split
      · rfl
      · split
        · rfl
        · rename_i h1 h2
          rw [if_neg h1, if_neg h2] at h
          exact ih _ h
  unfold numL at h ⊢
  split
  · rfl
  · rename_i h1
    rw [if_neg h1] at h
    exact go s 0 h

theorem hasPre_minus {s : List UInt8} : hasPre s [45] = true ↔ s.length ≠ 0 ∧ byteI s 0 = 45 := by
  cases s with
  | nil => simp [hasPre]
  | cons c l =>
    simp only [hasPre, byteI, byteAt, List.length_cons, List.length_nil, Bool.and_eq_true, decide_eq_true_eq, List.take_succ_cons, List.take_zero, beq_iff_eq, List.cons.injEq, and_true, List.getD_cons_zero, Int.toNat_zero]
    constructor
    · rintro ⟨_, rfl⟩
      exact ⟨by omega, rfl⟩
    · rintro ⟨_, h⟩
      refine ⟨by omega, ?_⟩
      apply UInt8.toNat_inj.1
      have h' : (c.toNat : Int) = 45 := by simpa using h
      show c.toNat = 45
      omega

theorem signed_plain {s : List UInt8} (h : hasPre s [45] = false) : signedL s = numL s := by
  simp [signedL, h]

/-- As the program has it. -/
theorem signed_eq {s : List UInt8} : signedL s = if (numL (cutL s [45])).2 = false ∨ (hasPre s [45] = true ∧ (numL (cutL s [45])).1 = 0) then (0, false) else if hasPre s [45] = true then (-(numL (cutL s [45])).1, true) else ((numL (cutL s [45])).1, true) := by
  unfold signedL cutL
  cases hp : hasPre s [45] with
  | false =>
    simp only [Bool.false_eq_true, if_false, false_and, or_false]
    cases hx : (numL s).2 with
    | false =>
      simp only [if_true]
      rw [← hx, ← numL_false hx]
    | true =>
      simp only [Bool.true_eq_false, if_false]
      rw [← hx]
  | true =>
    simp only [if_true, List.length_cons, List.length_nil, Nat.zero_add, true_and]
    generalize numL (s.drop 1) = x
    obtain ⟨n, b⟩ := x
    cases b with
    | false => simp
    | true => by_cases h0 : n = 0 <;> simp [h0]

/-- As the reference has it. -/
theorem signed_ref_plain {s : List UInt8} (h : s.length = 0 ∨ byteI s 0 ≠ 45) : signedL s = numL s := by
  refine signed_plain ?_
  rw [← Bool.not_eq_true, hasPre_minus]
  rintro ⟨h1, h2⟩
  rcases h with h | h
  · exact h1 h
  · exact h h2

theorem signed_ref_minus {s : List UInt8} (h : s.length ≠ 0) (h2 : byteI s 0 = 45) : signedL s = (-(numL (s.drop 1)).1, (numL (s.drop 1)).2 && decide ((numL (s.drop 1)).1 > 0)) := by
  have hp := hasPre_minus.2 ⟨h, h2⟩
  have hb := numL_bd (s.drop 1)
  have hf := numL_false (s := s.drop 1)
  simp only [signedL, hp, if_true]
  generalize numL (s.drop 1) = x at hb hf ⊢
  obtain ⟨n, b⟩ := x
  simp only at hb hf ⊢
  cases b with
  | false => simp [hf rfl]
  | true =>
    by_cases h0 : n = 0
    · simp [h0]
    · have : 0 < n := by omega
      simp [h0, this]

/-! ### Cuts at a byte -/
def idxL (s : List UInt8) (c : Int) : Int := match s.findIdx? (fun b => b == c.toNat.toUInt8) with
  | some i => (i : Int)
  | none => -1

theorem idxL_ge {s : List UInt8} {c : Int} : -1 ≤ idxL s c ∧ idxL s c < s.length ∨ (s.length = 0 ∧ idxL s c = -1) := by
  unfold idxL
  split
  · rename_i i h
    rw [List.findIdx?_eq_some_iff_getElem] at h
    obtain ⟨h1, _⟩ := h
    exact .inl ⟨by omega, by omega⟩
  · by_cases h0 : s.length = 0
    · exact .inr ⟨h0, rfl⟩
    · exact .inl ⟨by omega, by omega⟩

theorem idxL_bd (s : List UInt8) (c : Int) : -1 ≤ idxL s c ∧ (idxL s c < s.length ∨ idxL s c < 0) := by
  rcases idxL_ge (s := s) (c := c) with h | h <;> omega

/-- One occurrence: where, and how many there are; 'at' the last one. -/
def cntGo (c : Int) : List UInt8 → Nat → Int → Int → Int × Int
  | [], _, at_, many => (at_, many)
  | b :: l, i, at_, many => if (b.toNat : Int) = c then cntGo c l (i + 1) i (many + 1) else cntGo c l (i + 1) at_ many

def pairL (s : List UInt8) (c : Int) : List UInt8 × List UInt8 × Bool :=
  let r := cntGo c s 0 0 0
  if r.2 = 1 then (s.take r.1.toNat, s.drop (r.1 + 1).toNat, true) else ([], [], false)

theorem byte_eq {b : UInt8} {c : Int} (h0 : 0 ≤ c) (h1 : c < 256) : (b == c.toNat.toUInt8) = decide ((b.toNat : Int) = c) := by
  rw [Bool.eq_iff_iff, beq_iff_eq, decide_eq_true_eq]
  constructor
  · rintro rfl
    have : c.toNat.toUInt8.toNat = c.toNat := by
      simp [Nat.toUInt8, UInt8.toNat_ofNat']
      omega
    omega
  · intro h
    apply UInt8.toNat_inj.1
    have : c.toNat.toUInt8.toNat = c.toNat := by
      simp [Nat.toUInt8, UInt8.toNat_ofNat']
      omega
    omega

theorem cntGo_none {c : Int} : ∀ (l : List UInt8) (i : Nat) (at_ many : Int), (∀ b ∈ l, ¬ (b.toNat : Int) = c) → cntGo c l i at_ many = (at_, many)
  | [], _, _, _, _ => rfl
  | b :: l, i, at_, many, h => by
    rw [cntGo, if_neg (h b List.mem_cons_self)]
    exact cntGo_none l _ _ _ fun b hb => h b (List.mem_cons_of_mem _ hb)

theorem cntGo_ge {c : Int} : ∀ (l : List UInt8) (i : Nat) (at_ many : Int), many ≤ (cntGo c l i at_ many).2
  | [], _, _, _ => Int.le_refl _
  | b :: l, i, at_, many => by
    rw [cntGo]
    split
    · have := cntGo_ge (c := c) l (i + 1) i (many + 1); omega
    · exact cntGo_ge l _ _ _

theorem cntGo_has {c : Int} : ∀ (l : List UInt8) (i : Nat) (at_ many : Int), (∃ b ∈ l, (b.toNat : Int) = c) → many + 1 ≤ (cntGo c l i at_ many).2
  | [], _, _, _, h => by obtain ⟨b, hb, _⟩ := h; cases hb
  | b :: l, i, at_, many, h => by
    rw [cntGo]
    split
    · have := cntGo_ge (c := c) l (i + 1) i (many + 1); omega
    · rename_i hn
      refine cntGo_has l _ _ _ ?_
      obtain ⟨x, hx, h⟩ := h
      rcases List.mem_cons.1 hx with rfl | hx
      · exact absurd h hn
      · exact ⟨x, hx, h⟩

theorem cntGo_app {c : Int} : ∀ (l r : List UInt8) (i : Nat) (at_ many : Int), (∀ b ∈ l, ¬ (b.toNat : Int) = c) → cntGo c (l ++ r) i at_ many = cntGo c r (i + l.length) at_ many
  | [], r, i, at_, many, _ => rfl
  | b :: l, r, i, at_, many, h => by
    rw [List.cons_append, cntGo, if_neg (h b List.mem_cons_self), cntGo_app l r (i + 1) at_ many fun b hb => h b (List.mem_cons_of_mem _ hb), List.length_cons]
    congr 1
    omega

theorem idxL_none {s : List UInt8} {c : Int} (h0 : 0 ≤ c) (h1 : c < 256) (h : idxL s c < 0) : ∀ b ∈ s, ¬ (b.toNat : Int) = c := by
  unfold idxL at h
  split at h
  · rename_i i hi
    omega
  · rename_i hi
    rw [List.findIdx?_eq_none_iff] at hi
    intro b hb he
    have := hi b hb
    rw [byte_eq h0 h1] at this
    simp [he] at this

theorem idxL_some {s : List UInt8} {c : Int} (h0 : 0 ≤ c) (h1 : c < 256) (h : ¬ idxL s c < 0) : ∃ l b r, s = l ++ b :: r ∧ (b.toNat : Int) = c ∧ (∀ x ∈ l, ¬ (x.toNat : Int) = c) ∧ idxL s c = l.length := by
  unfold idxL at h ⊢
  split at h
  · rename_i i hi
    rw [List.findIdx?_eq_some_iff_getElem] at hi
    obtain ⟨h2, h3, h4⟩ := hi
    refine ⟨s.take i, s[i], s.drop (i + 1), ?_, ?_, ?_, ?_⟩
    · rw [← List.drop_eq_getElem_cons h2, List.take_append_drop]
    · rw [byte_eq h0 h1] at h3; simpa using h3
    · intro x hx
      obtain ⟨j, hj, rfl⟩ := List.mem_iff_getElem.1 hx
      simp only [List.length_take] at hj
      have := h4 j (by omega)
      rw [byte_eq h0 h1] at this
      simpa using this
    · simp; omega
  · exact absurd (by decide) h

theorem has_of_idx {s : List UInt8} {c : Int} (h0 : 0 ≤ c) (h1 : c < 256) (h : idxL s c ≥ 0) : ∃ b ∈ s, (b.toNat : Int) = c := by
  have h' : ¬ idxL s c < 0 := by omega
  obtain ⟨l, b, r, rfl, hb, _⟩ := idxL_some h0 h1 h'
  exact ⟨b, by simp, hb⟩

theorem pair_none {s : List UInt8} {c : Int} (h0 : 0 ≤ c) (h1 : c < 256) (h : idxL s c < 0) : pairL s c = ([], [], false) := by
  have := cntGo_none s 0 0 0 (idxL_none h0 h1 h)
  simp [pairL, this]

theorem drop_after {l r : List UInt8} {b : UInt8} {k : Int} (hk : k = l.length) : (l ++ b :: r).drop (k + 1).toNat = r := by
  subst hk
  have : ((l.length : Int) + 1).toNat = l.length + 1 := by omega
  rw [this, List.drop_append]
  simp

theorem take_before {l r : List UInt8} {b : UInt8} {k : Int} (hk : k = l.length) : (l ++ b :: r).take k.toNat = l := by
  subst hk
  simp

theorem pair_two {s : List UInt8} {c : Int} (h0 : 0 ≤ c) (h1 : c < 256) (h : ¬ idxL s c < 0) (h2 : idxL (s.drop (idxL s c + 1).toNat) c ≥ 0) : pairL s c = ([], [], false) := by
  obtain ⟨l, b, r, rfl, hb, hl, hi⟩ := idxL_some h0 h1 h
  rw [drop_after hi] at h2
  have h3 := cntGo_has r (0 + l.length + 1) (((0 + l.length : Nat) : Int)) (0 + 1) (has_of_idx h0 h1 h2)
  simp only [pairL]
  rw [if_neg]
  rw [cntGo_app l (b :: r) 0 0 0 hl, cntGo, if_pos hb]
  omega

theorem pair_one {s : List UInt8} {c : Int} (h0 : 0 ≤ c) (h1 : c < 256) (h : ¬ idxL s c < 0) (h2 : ¬ idxL (s.drop (idxL s c + 1).toNat) c ≥ 0) : pairL s c = (s.take (idxL s c).toNat, s.drop (idxL s c + 1).toNat, true) := by
  obtain ⟨l, b, r, rfl, hb, hl, hi⟩ := idxL_some h0 h1 h
  rw [drop_after hi] at h2
  have h2' : idxL r c < 0 := by omega
  have h3 := cntGo_none r (0 + l.length + 1) (((0 + l.length : Nat) : Int)) (0 + 1) (idxL_none h0 h1 h2')
  have h4 : cntGo c (l ++ b :: r) 0 0 0 = ((l.length : Int), 1) := by
    rw [cntGo_app l (b :: r) 0 0 0 hl, cntGo, if_pos hb, h3]
    simp
  simp only [pairL, h4, if_true, hi]

theorem pairL_hit {s : List UInt8} {c k q : Int} (hE : cntGo c s 0 0 0 = (k, q)) (h : q = 1) : pairL s c = (s.take k.toNat, s.drop (k + 1).toNat, true) := by
  simp only [pairL, hE, h, if_true]
theorem pairL_no {s : List UInt8} {c k q : Int} (hE : cntGo c s 0 0 0 = (k, q)) (h : q ≠ 1) : pairL s c = ([], [], false) := by
  simp only [pairL, hE, if_neg h]

theorem cnt_hit {s : List UInt8} {c : Int} {i : Nat} {at_ many : Int} (h : i < s.length) (hb : byteI s i = c) (hc : cntGo c s 0 0 0 = cntGo c (s.drop i) i at_ many) : cntGo c s 0 0 0 = cntGo c (s.drop (i + 1)) (i + 1) i (many + 1) := by
  rw [hc, drop_cons h, cntGo]
  exact if_pos hb
theorem cnt_miss {s : List UInt8} {c : Int} {i : Nat} {at_ many : Int} (h : i < s.length) (hb : ¬ byteI s i = c) (hc : cntGo c s 0 0 0 = cntGo c (s.drop i) i at_ many) : cntGo c s 0 0 0 = cntGo c (s.drop (i + 1)) (i + 1) at_ many := by
  rw [hc, drop_cons h, cntGo]
  exact if_neg hb
theorem cnt_end {s : List UInt8} {c : Int} {i : Nat} {at_ many : Int} (h : s.length ≤ i) (hc : cntGo c s 0 0 0 = cntGo c (s.drop i) i at_ many) : cntGo c s 0 0 0 = (at_, many) := by
  rw [hc, List.drop_of_length_le h, cntGo]

end Go.Proofs.YthjgdmkelfkneaaDoor
