/- A VERIFIED EVALUATOR, texts L3a in one. -/
import Derived.Test.YtofmpipjklcjhaaDoorM5
/- PLAIN LEAN FOR CONDITIONS: elements, bytes, parts of lists by numbers; places up to which something holds; cuts at a byte. No program in sight. -/
namespace Go.E3

/-! ### Elements -/
theorem bx_bd (s : List UInt8) (i : Int) : 0 ≤ bx s i ∧ bx s i ≤ 255 := by
  unfold bx
  have := (s.getD i.toNat 0).toNat_lt
  omega

theorem ix_get {α : Type} [Inhabited α] {l : List α} {i : Nat} (h : i < l.length) : ix l (i : Int) = l[i] := by
  simp [ix, List.getD_eq_getElem?_getD, h]

theorem ix_cons_zero {α : Type} [Inhabited α] {a : α} {l : List α} : ix (a :: l) 0 = a := rfl
theorem ix_cons_succ {α : Type} [Inhabited α] {a : α} {l : List α} {i : Int} (h : 0 ≤ i) : ix (a :: l) (i + 1) = ix l i := by
  have : (i + 1).toNat = i.toNat + 1 := by omega
  simp [ix, this]

theorem ix_append_left {α : Type} [Inhabited α] {l m : List α} {i : Int} (h0 : 0 ≤ i) (h : i < ln l) : ix (l ++ m) i = ix l i := by
  have : i.toNat < l.length := by simp only [ln] at h; omega
  simp [ix, List.getD_eq_getElem?_getD, List.getElem?_append_left this]

theorem fr_zero {α : Type} (l : List α) : fr l 0 = l := rfl
theorem upto_zero {α : Type} (l : List α) : upto l 0 = [] := rfl
theorem fr_all {α : Type} {l : List α} {i : Int} (h : ln l ≤ i) : fr l i = [] := by
  apply List.drop_of_length_le; simp only [ln] at h; omega
theorem upto_all {α : Type} {l : List α} {i : Int} (h : ln l ≤ i) : upto l i = l := by
  apply List.take_of_length_le; simp only [ln] at h; omega
theorem fr_cons {α : Type} [Inhabited α] {l : List α} {i : Int} (h0 : 0 ≤ i) (h : i < ln l) : fr l i = ix l i :: fr l (i + 1) := by
  have hi : i.toNat < l.length := by simp only [ln] at h; omega
  have e : (i + 1).toNat = i.toNat + 1 := by omega
  unfold fr ix
  rw [List.drop_eq_getElem_cons hi, e, List.getD_eq_getElem?_getD, List.getElem?_eq_getElem hi]
  rfl
theorem upto_succ {α : Type} [Inhabited α] {l : List α} {i : Int} (h0 : 0 ≤ i) (h : i < ln l) : upto l (i + 1) = upto l i ++ [ix l i] := by
  have hi : i.toNat < l.length := by simp only [ln] at h; omega
  have e : (i + 1).toNat = i.toNat + 1 := by omega
  unfold upto ix
  rw [e, List.take_add_one, List.getD_eq_getElem?_getD, List.getElem?_eq_getElem hi]
  rfl
theorem ln_fr {α : Type} {l : List α} {i : Int} (h0 : 0 ≤ i) (h : i ≤ ln l) : ln (fr l i) = ln l - i := by
  simp only [ln, fr, List.length_drop] at *; omega
theorem ln_upto {α : Type} {l : List α} {i : Int} (h0 : 0 ≤ i) (h : i ≤ ln l) : ln (upto l i) = i := by
  simp only [ln, upto, List.length_take] at *; omega
theorem ln_sub {α : Type} {l : List α} {i j : Int} (h0 : 0 ≤ i) (h1 : i ≤ j) (h : j ≤ ln l) : ln (sub l i j) = j - i := by
  simp only [ln, sub, List.length_drop, List.length_take] at *; omega
theorem ln_nonneg {α : Type} (l : List α) : 0 ≤ ln l := Int.natCast_nonneg _
theorem ln_append {α : Type} (l m : List α) : ln (l ++ m) = ln l + ln m := by simp [ln]
theorem ln_cons {α : Type} (a : α) (l : List α) : ln (a :: l) = ln l + 1 := by simp [ln]
theorem ln_nil {α : Type} : ln ([] : List α) = 0 := rfl
theorem ln_nil_le {α : Type} : ln ([] : List α) ≤ 0 := Int.le_refl _
theorem ln_zero {α : Type} {l : List α} (h : ln l ≤ 0) : l = [] := by
  cases l with
  | nil => rfl
  | cons a l => simp only [ln, List.length_cons] at h; omega
theorem short_app {α : Type} {l m : List α} (h : ln l + ln m ≤ 1000000000) : Short (l.length + m.length) := by simp only [ln, Short] at *; omega
theorem short_snoc {α : Type} {l : List α} {a : α} (h : ln l + 1 ≤ 1000000000) : Short (l.length + [a].length) := by simp only [ln, Short, List.length_cons, List.length_nil] at *; omega
theorem ln_snoc {α : Type} (l : List α) (a : α) : ln (l ++ [a]) = ln l + 1 := by simp [ln]
/-- One place more. -/
theorem sub_fr {α : Type} {l : List α} {i j : Int} (h0 : 0 ≤ i) (h1 : i ≤ j) : sub l i j = upto (fr l i) (j - i) := by
  simp only [sub, fr, upto]
  rw [List.take_drop]
  have : i.toNat + (j - i).toNat = j.toNat := by omega
  rw [this]
theorem fr_fr {α : Type} {l : List α} {i j : Int} (h0 : 0 ≤ i) (h1 : 0 ≤ j) : fr (fr l i) j = fr l (i + j) := by
  simp only [fr, List.drop_drop]
  have : i.toNat + j.toNat = (i + j).toNat := by omega
  rw [this]
theorem bx_fr {s : List UInt8} {i j : Int} (h0 : 0 ≤ i) (h1 : 0 ≤ j) : bx (fr s i) j = bx s (i + j) := by
  have : i.toNat + j.toNat = (i + j).toNat := by omega
  simp only [bx, fr, List.getD_eq_getElem?_getD, List.getElem?_drop, this]
theorem ix_fr {α : Type} [Inhabited α] {s : List α} {i j : Int} (h0 : 0 ≤ i) (h1 : 0 ≤ j) : ix (fr s i) j = ix s (i + j) := by
  have : i.toNat + j.toNat = (i + j).toNat := by omega
  simp only [ix, fr, List.getD_eq_getElem?_getD, List.getElem?_drop, this]
theorem bx_sub {s : List UInt8} {i j k : Int} (h0 : 0 ≤ i) (hk : 0 ≤ k) (h1 : i + k < j) : bx (sub s i j) k = bx s (i + k) := by
  have : i.toNat + k.toNat = (i + k).toNat := by omega
  simp only [bx, sub, List.getD_eq_getElem?_getD, List.getElem?_drop, this]
  rw [List.getElem?_take_of_lt (by omega)]
theorem bx_ix (s : List UInt8) (i : Int) : bx s i = ((ix s i).toNat : Int) := rfl
theorem byte_eq_of {a b : UInt8} (h : (a.toNat : Int) = b.toNat) : a = b := UInt8.toNat_inj.1 (by omega)

theorem mem_ix {α : Type} [Inhabited α] {l : List α} {a : α} (h : a ∈ l) : ∃ i : Int, 0 ≤ i ∧ i < ln l ∧ ix l i = a := by
  obtain ⟨i, hi, rfl⟩ := List.mem_iff_getElem.1 h
  exact ⟨i, by omega, by simp only [ln]; omega, ix_get hi⟩
theorem ix_mem {α : Type} [Inhabited α] {l : List α} {i : Int} (h0 : 0 ≤ i) (h : i < ln l) : ix l i ∈ l := by
  have hi : i.toNat < l.length := by simp only [ln] at h; omega
  have : ix l i = l[i.toNat] := by simp [ix, List.getD_eq_getElem?_getD, hi]
  rw [this]; exact List.getElem_mem hi

theorem list_ext_ix {α : Type} [Inhabited α] {l m : List α} (h : ln l = ln m) (he : ∀ i, 0 ≤ i → i < ln l → ix l i = ix m i) : l = m := by
  apply List.ext_getElem (by simp only [ln] at h; omega)
  intro i h1 h2
  have := he i (by omega) (by simp only [ln]; omega)
  rwa [ix_get h1, ix_get h2] at this

/-! ### The first place from i on at which p does not hold -/
def runTo (p : Int → Bool) (s : List UInt8) (i : Int) : Int := if h : 0 ≤ i ∧ i < ln s ∧ p (bx s i) = true then runTo p s (i + 1) else i
 termination_by (ln s - i).toNat
 decreasing_by omega

theorem runTo_ge {p : Int → Bool} {s : List UInt8} {i : Int} : i ≤ runTo p s i := by
  fun_induction runTo p s i with
  | case1 i h ih => omega
  | case2 i h => omega
theorem runTo_le {p : Int → Bool} {s : List UInt8} {i : Int} (hi : i ≤ ln s) : runTo p s i ≤ ln s := by
  fun_induction runTo p s i with
  | case1 i h ih => exact ih (by omega)
  | case2 i h => exact hi
theorem runTo_step {p : Int → Bool} {s : List UInt8} {i : Int} (h0 : 0 ≤ i) (h : i < ln s) (hp : p (bx s i) = true) : runTo p s i = runTo p s (i + 1) := by
  rw [runTo, dif_pos ⟨h0, h, hp⟩]
theorem runTo_stop {p : Int → Bool} {s : List UInt8} {i : Int} (h : ln s ≤ i ∨ p (bx s i) = false) : runTo p s i = i := by
  rw [runTo, dif_neg]
  rintro ⟨_, h1, h2⟩
  rcases h with h | h
  · omega
  · rw [h2] at h; cases h
theorem runTo_gt {p : Int → Bool} {s : List UInt8} {i : Int} (h0 : 0 ≤ i) (h : i < ln s) (hp : p (bx s i) = true) : i + 1 ≤ runTo p s i := by
  rw [runTo_step h0 h hp]; exact runTo_ge
theorem runTo_end {p : Int → Bool} {s : List UInt8} {i : Int} (h0 : 0 ≤ i) (h : runTo p s i < ln s) : p (bx s (runTo p s i)) = false := by
  fun_induction runTo p s i with
  | case1 i hi ih => exact ih (by omega) h
  | case2 i hi => 
    rw [← Bool.not_eq_true]
    exact fun hp => hi ⟨h0, h, hp⟩
theorem runTo_all {p : Int → Bool} {s : List UInt8} {i : Int} : ∀ j, i ≤ j → j < runTo p s i → p (bx s j) = true := by
  fun_induction runTo p s i with
  | case1 i hi ih =>
    intro j h1 h2
    by_cases h : j = i
    · rw [h]; exact hi.2.2
    · exact ih j (by omega) h2
  | case2 i hi => intro j h1 h2; omega
/-- How it is found. -/
theorem runTo_eq {p : Int → Bool} {s : List UInt8} {i k : Int} (h0 : 0 ≤ i) (hk : i ≤ k) (hl : k ≤ ln s) (ha : ∀ j, i ≤ j → j < k → p (bx s j) = true) (he : k = ln s ∨ p (bx s k) = false) : runTo p s i = k := by
  fun_induction runTo p s i with
  | case1 i hi ih =>
    by_cases h : i = k
    · subst h
      rcases he with he | he
      · omega
      · rw [hi.2.2] at he; cases he
    · exact ih (by omega) (by omega) fun j h1 h2 => ha j (by omega) h2
  | case2 i hi =>
    by_cases h : i = k
    · exact h
    · exact absurd ⟨h0, by omega, ha i (by omega) (by omega)⟩ hi

/-! ### The first place of a byte -/
theorem byte_is {b : UInt8} {c : Int} (h0 : 0 ≤ c) (h1 : c < 256) : (b == c.toNat.toUInt8) = decide ((b.toNat : Int) = c) := by
  rw [Bool.eq_iff_iff, beq_iff_eq, decide_eq_true_eq]
  have e : c.toNat.toUInt8.toNat = c.toNat := by
    simp [Nat.toUInt8, UInt8.toNat_ofNat']
    omega
  constructor
  · rintro rfl
    omega
  · intro h
    apply UInt8.toNat_inj.1
    omega

theorem idxB_none {s : List UInt8} {c : Int} (h0 : 0 ≤ c) (h1 : c < 256) (h : idxB s c < 0) : ∀ i, 0 ≤ i → i < ln s → bx s i ≠ c := by
  unfold idxB at h
  split at h
  · omega
  · rename_i hi
    rw [List.findIdx?_eq_none_iff] at hi
    intro i h2 h3 he
    have := hi (ix s i) (ix_mem h2 h3)
    rw [byte_is h0 h1, ← bx_ix, he] at this
    simp at this

theorem idxB_some {s : List UInt8} {c : Int} (h0 : 0 ≤ c) (h1 : c < 256) (h : 0 ≤ idxB s c) : idxB s c < ln s ∧ bx s (idxB s c) = c ∧ ∀ i, 0 ≤ i → i < idxB s c → bx s i ≠ c := by
  unfold idxB at h ⊢
  split at h
  · rename_i i hi
    rw [List.findIdx?_eq_some_iff_getElem] at hi
    obtain ⟨h2, h3, h4⟩ := hi
    rw [byte_is h0 h1] at h3
    refine ⟨by simp only [ln]; omega, ?_, fun j hj0 hj he => ?_⟩
    · rw [bx_ix, ix_get h2]; simpa using h3
    · have hj' : j.toNat < i := by omega
      have := h4 j.toNat hj'
      rw [byte_is h0 h1] at this
      have hx : bx s j = ((s[j.toNat]'(by omega)).toNat : Int) := by
        rw [bx_ix]
        have := ix_get (l := s) (i := j.toNat) (by omega)
        rw [show ((j.toNat : Nat) : Int) = j by omega] at this
        rw [this]
      rw [hx] at he
      simp [he] at this
  · omega
theorem idxB_ge (s : List UInt8) (c : Int) : -1 ≤ idxB s c := by
  unfold idxB
  split <;> omega
theorem idxB_lt (s : List UInt8) (c : Int) : idxB s c < ln s ∨ idxB s c = -1 := by
  unfold idxB
  split
  · rename_i i hi
    rw [List.findIdx?_eq_some_iff_getElem] at hi
    obtain ⟨h2, _⟩ := hi
    left; simp only [ln]; omega
  · right; rfl

/-! ### A text cut at each byte of a kind -/
def splitI (c : Int) : List UInt8 → List (List UInt8)
  | [] => [[]]
  | b :: l => if (b.toNat : Int) = c then [] :: splitI c l else match splitI c l with
    | [] => [[b]]
    | x :: xs => (b :: x) :: xs

theorem splitI_ne (c : Int) (s : List UInt8) : splitI c s ≠ [] := by
  cases s with
  | nil => simp [splitI]
  | cons b l =>
    unfold splitI
    split
    · simp
    · split <;> simp

theorem splitI_none {c : Int} : ∀ {s : List UInt8}, (∀ b ∈ s, (b.toNat : Int) ≠ c) → splitI c s = [s]
  | [], _ => rfl
  | b :: l, h => by
    rw [splitI, if_neg (h b List.mem_cons_self), splitI_none fun x hx => h x (List.mem_cons_of_mem _ hx)]

theorem splitI_cut {c : Int} {b : UInt8} (hb : (b.toNat : Int) = c) : ∀ {s t : List UInt8}, (∀ x ∈ s, (x.toNat : Int) ≠ c) → splitI c (s ++ b :: t) = s :: splitI c t
  | [], t, _ => by rw [List.nil_append, splitI, if_pos hb]
  | a :: l, t, h => by
    rw [List.cons_append, splitI, if_neg (h a List.mem_cons_self), splitI_cut hb fun x hx => h x (List.mem_cons_of_mem _ hx)]

/-- The first piece from a place on, and the others. -/
theorem splitI_fr {c : Int} {s : List UInt8} {i k : Int} (h0 : 0 ≤ i) (hk : i ≤ k) (hl : k ≤ ln s) (ha : ∀ j, i ≤ j → j < k → bx s j ≠ c) (he : k = ln s ∨ bx s k = c) :
    splitI c (fr s i) = if k = ln s then [sub s i k] else sub s i k :: splitI c (fr s (k + 1)) := by
  have hmem : ∀ x ∈ sub s i k, (x.toNat : Int) ≠ c := by
    intro x hx
    obtain ⟨j, h1, h2, rfl⟩ := mem_ix hx
    rw [ln_sub h0 hk hl] at h2
    have := bx_sub (s := s) (i := i) (j := k) (k := j) h0 h1 (by omega)
    rw [← bx_ix, this]
    exact ha _ (by omega) (by omega)
  have hs : sub s i k ++ fr s k = fr s i := by
    rw [sub_fr h0 hk]
    have : fr s k = fr (fr s i) (k - i) := by rw [fr_fr h0 (by omega)]; congr 1; omega
    rw [this]
    exact List.take_append_drop _ _
  by_cases hkl : k = ln s
  · rw [if_pos hkl, ← hs, fr_all (l := s) (i := k) (by omega), List.append_nil, splitI_none hmem]
  · rw [if_neg hkl, ← hs, fr_cons (by omega : 0 ≤ k) (by omega), splitI_cut ?_ hmem]
    rcases he with he | he
    · exact absurd he hkl
    · rw [← bx_ix]; exact he

theorem splitI_len (c : Int) : ∀ s : List UInt8, ln (splitI c s) = (s.countP (fun b => decide ((b.toNat : Int) = c)) : Nat) + 1
  | [] => rfl
  | b :: l => by
    have ih := splitI_len c l
    unfold splitI
    split
    · rename_i h
      rw [ln_cons, ih, List.countP_cons_of_pos (by simpa using h)]
      omega
    · rename_i h
      rw [List.countP_cons_of_neg (by simpa using h)]
      split
      · rename_i hn; exact absurd hn (splitI_ne c l)
      · rename_i x xs hx
        rw [hx] at ih
        rw [ln_cons] at ih ⊢
        exact ih

theorem cntB_eq {s : List UInt8} {c : Int} (h0 : 0 ≤ c) (h1 : c < 256) : cntB s c = (s.countP (fun b => decide ((b.toNat : Int) = c)) : Nat) := by
  unfold cntB
  simp only [byte_is h0 h1]

theorem cntB_bd (s : List UInt8) (c : Int) : 0 ≤ cntB s c ∧ cntB s c ≤ ln s := by
  unfold cntB ln
  have := List.countP_le_length (p := fun b => b == c.toNat.toUInt8) (l := s)
  omega

theorem ln_splitI {s : List UInt8} {c : Int} (h0 : 0 ≤ c) (h1 : c < 256) : ln (splitI c s) = cntB s c + 1 := by
  rw [splitI_len, cntB_eq h0 h1]

theorem splitI_step {s : List UInt8} {c : Int} (h0 : 0 ≤ c) (h1 : c < 256) (h : 0 ≤ idxB s c) : splitI c s = upto s (idxB s c) :: splitI c (fr s (idxB s c + 1)) := by
  obtain ⟨a, b, d⟩ := idxB_some h0 h1 h
  have := splitI_fr (c := c) (s := s) (i := 0) (k := idxB s c) (Int.le_refl 0) h (by omega) (fun j h2 h3 => d j h2 h3) (.inr b)
  rw [fr_zero, if_neg (by omega), sub_fr (Int.le_refl 0) h, fr_zero, Int.sub_zero] at this
  exact this
theorem splitI_last {s : List UInt8} {c : Int} (h0 : 0 ≤ c) (h1 : c < 256) (h : idxB s c < 0) : splitI c s = [s] := by
  refine splitI_none fun b hb => ?_
  obtain ⟨i, h2, h3, rfl⟩ := mem_ix hb
  exact idxB_none h0 h1 h i h2 h3
theorem splitI_pos (c : Int) (s : List UInt8) : 1 ≤ ln (splitI c s) := by
  rw [splitI_len]; omega
theorem splitI_one {s : List UInt8} {c : Int} (h0 : 0 ≤ c) (h1 : c < 256) (h : ln (splitI c s) ≤ 1) : splitI c s = [s] := by
  by_cases hi : idxB s c < 0
  · exact splitI_last h0 h1 hi
  · rw [splitI_step h0 h1 (by omega), ln_cons] at h
    have := splitI_pos c (fr s (idxB s c + 1))
    omega
theorem upto_set {α : Type} {l : List α} {i : Int} {a : α} (h0 : 0 ≤ i) (h : i < ln l) : upto (l.set i.toNat a) (i + 1) = upto l i ++ [a] := by
  have hi : i.toNat < l.length := by simp only [ln] at h; omega
  have e : (i + 1).toNat = i.toNat + 1 := by omega
  unfold upto
  rw [e, List.take_add_one, List.take_set_of_le (Nat.le_refl _), List.getElem?_set_self hi]
  rfl
theorem ln_set {α : Type} {l : List α} {i : Nat} {a : α} : ln (l.set i a) = ln l := by simp [ln]
theorem ln_replicate {α : Type} {n : Int} {a : α} (h : 0 ≤ n) : ln (List.replicate n.toNat a) = n := by simp only [ln, List.length_replicate]; omega
theorem splitI_mem_len {c : Int} : ∀ {s x : List UInt8}, x ∈ splitI c s → ln x ≤ ln s
  | [], x, h => by simp [splitI] at h; subst h; exact Int.le_refl _
  | b :: l, x, h => by
    rw [ln_cons]
    unfold splitI at h
    split at h
    · rcases List.mem_cons.1 h with rfl | h
      · have := ln_nonneg l; rw [ln_nil]; omega
      · have := splitI_mem_len h; omega
    · split at h
      · rename_i hn; exact absurd hn (splitI_ne c l)
      · rename_i y ys hy
        rcases List.mem_cons.1 h with rfl | h
        · have : y ∈ splitI c l := by rw [hy]; exact List.mem_cons_self
          have := splitI_mem_len this
          rw [ln_cons]; omega
        · have : x ∈ splitI c l := by rw [hy]; exact List.mem_cons_of_mem _ h
          have := splitI_mem_len this
          omega

end Go.E3
