/- WHAT THE FUNCTIONS ON TIMES AND VOICES COMPUTE, in plain Lean; no program in sight. -/
import Derived.Test.YtjbefleabibmmaaGreatDoorNat
import Derived.Test.YtjbefleabibmmaaGreatDoorM6
namespace Go.Proofs.YtjbefleabibmmaaGreatDoor
open Go Go.E2 Go.E3

/-! ### Times -/
def gcdI (a b : Int) : Int := (Nat.gcd a.toNat b.toNat : Nat)

theorem gcdI_nonneg (a b : Int) : 0 ≤ gcdI a b := Int.natCast_nonneg _
theorem gcdI_zero {a : Int} (h : 0 ≤ a) : gcdI a 0 = a := by
  unfold gcdI
  rw [Int.toNat_zero, Nat.gcd_zero_right]
  omega
theorem gcdI_step {a b : Int} (ha : 0 ≤ a) (hb : 0 ≤ b) : gcdI b (Int.tmod a b) = gcdI a b := by
  unfold gcdI
  obtain ⟨m, rfl⟩ := Int.eq_ofNat_of_zero_le ha
  obtain ⟨n, rfl⟩ := Int.eq_ofNat_of_zero_le hb
  have : Int.tmod (m : Int) (n : Int) = ((m % n : Nat) : Int) := by rw [← Int.ofNat_tmod]
  rw [this, Int.toNat_natCast, Int.toNat_natCast, Int.toNat_natCast, Nat.gcd_comm m n, Nat.gcd_comm n (m % n), ← Nat.gcd_rec]
theorem gcdI_pos {a b : Int} (hb : 1 ≤ b) : 1 ≤ gcdI a b := by
  unfold gcdI
  have : 0 < Nat.gcd a.toNat b.toNat := Nat.gcd_pos_of_pos_right _ (by omega)
  omega
theorem gcdI_left {a b : Int} (ha : 0 ≤ a) : gcdI a b * a.tdiv (gcdI a b) = a := by
  have h : gcdI a b ∣ a := by
    unfold gcdI
    have := Nat.gcd_dvd_left a.toNat b.toNat
    have h2 : ((Nat.gcd a.toNat b.toNat : Nat) : Int) ∣ ((a.toNat : Nat) : Int) := Int.natCast_dvd_natCast.2 this
    rwa [Int.toNat_of_nonneg ha] at h2
  exact Int.mul_tdiv_cancel' h
theorem gcdI_right {a b : Int} (hb : 0 ≤ b) : gcdI a b * b.tdiv (gcdI a b) = b := by
  have h : gcdI a b ∣ b := by
    unfold gcdI
    have := Nat.gcd_dvd_right a.toNat b.toNat
    have h2 : ((Nat.gcd a.toNat b.toNat : Nat) : Int) ∣ ((b.toNat : Nat) : Int) := Int.natCast_dvd_natCast.2 this
    rwa [Int.toNat_of_nonneg hb] at h2
  exact Int.mul_tdiv_cancel' h
theorem tmod_bd {a b : Int} (ha : 0 ≤ a) (hb : 0 < b) : 0 ≤ Int.tmod a b ∧ Int.tmod a b < b := ⟨Int.tmod_nonneg _ ha, Int.tmod_lt_of_pos _ hb⟩
theorem tdiv_bd {a b : Int} (ha : 0 ≤ a) (hb : 0 ≤ b) : 0 ≤ a.tdiv b ∧ a.tdiv b ≤ a := by
  refine ⟨Int.tdiv_nonneg ha hb, ?_⟩
  rw [Int.tdiv_eq_ediv_of_nonneg ha]
  exact Int.ediv_le_self _ ha
theorem mul_bd {a b A B : Int} (h0 : 0 ≤ a) (h1 : a ≤ A) (h2 : 0 ≤ b) (h3 : b ≤ B) : 0 ≤ a * b ∧ a * b ≤ A * B :=
  ⟨Int.mul_nonneg h0 h2, Int.mul_le_mul h1 h3 h2 (Int.le_trans h0 h1)⟩
theorem mul_ge {a b : Int} (h0 : 1 ≤ a) (h1 : 1 ≤ b) : 1 ≤ a * b := by
  have := Int.mul_le_mul h0 h1 (by omega) (by omega)
  omega

def checkT (n d : Int) : Int := if n < 0 ∨ 1099511627776 < n ∨ d < 1 ∨ 1048576 < d then 2 else if 1 < gcdI n d then 3 else 0
def ofT (n d : Int) : Int × Int × Int := if 1099511627776 < n.tdiv (gcdI n d) ∨ 1048576 < d.tdiv (gcdI n d) then (0, 0, 4) else (n.tdiv (gcdI n d), d.tdiv (gcdI n d), 0)
def firstT : List Time → Int
  | [] => 0
  | x :: l => if checkT x.N x.D ≠ 0 then checkT x.N x.D else firstT l
def addT (a b c d : Int) : Int × Int × Int := if checkT a b ≠ 0 then (0, 0, checkT a b) else if checkT c d ≠ 0 then (0, 0, checkT c d) else ofT (a * d + c * b) (b * d)
def cmpT (a b c d : Int) : Int × Int := if checkT a b ≠ 0 then (0, checkT a b) else if checkT c d ≠ 0 then (0, checkT c d) else if a * d < c * b then (-1, 0) else if c * b < a * d then (1, 0) else (0, 0)
def pitchC (a b c : Int) : Int := if a < 0 ∨ 6 < a ∨ b < 0 ∨ 8 < b ∨ c < -1 ∨ 1 < c then 2 else 0

theorem checkT_ok {n d : Int} (h : checkT n d = 0) : 0 ≤ n ∧ n ≤ 1099511627776 ∧ 1 ≤ d ∧ d ≤ 1048576 := by
  unfold checkT at h
  split at h
  · omega
  · omega
theorem checkT_bd (n d : Int) : 0 ≤ checkT n d ∧ checkT n d ≤ 3 := by
  unfold checkT
  split
  · omega
  · split <;> omega
theorem first_two (a b c d : Int) : firstT [Time.mk a b, Time.mk c d] = if checkT a b ≠ 0 then checkT a b else checkT c d := by
  simp only [firstT]
  split
  · rfl
  · split
    · rfl
    · omega

/-! ### Events -/
def oneE (x : Event) : Int :=
  if checkT x.AtN x.AtD ≠ 0 then checkT x.AtN x.AtD else if checkT x.DurN x.DurD ≠ 0 then checkT x.DurN x.DurD else if x.DurN = 0 then 2
  else if x.Rest = true ∧ (x.PitchStep ≠ 0 ∨ x.PitchOctave ≠ 0 ∨ x.PitchAlter ≠ 0) then 3
  else if x.Rest = false ∧ pitchC x.PitchStep x.PitchOctave x.PitchAlter ≠ 0 then pitchC x.PitchStep x.PitchOctave x.PitchAlter
  else if x.Sign < 0 ∨ x.Pass < 0 then 2 else 0
def oneR (x : Event) (n d : Int) : Int :=
  if oneE x ≠ 0 then oneE x else if x.AtN ≠ n ∨ x.AtD ≠ d then 6 else (addT x.AtN x.AtD x.DurN x.DurD).2.2
def checkGo : List Event → Int → Int → Int → Int × Int
  | [], _, _, _ => (0, 0)
  | x :: l, i, n, d => if oneR x n d ≠ 0 then (oneR x n d, i) else checkGo l (i + 1) (addT x.AtN x.AtD x.DurN x.DurD).1 (addT x.AtN x.AtD x.DurN x.DurD).2.1
def checkE (l : List Event) : Int × Int := if 2000 < ln l then (11, 0) else checkGo l 0 0 1
def endE (l : List Event) : Int × Int × Int :=
  if (checkE l).1 ≠ 0 then (0, 0, (checkE l).1) else if ln l = 0 then (0, 1, 0) else addT (ix l (ln l - 1)).AtN (ix l (ln l - 1)).AtD (ix l (ln l - 1)).DurN (ix l (ln l - 1)).DurD
def scanGo (tn td : Int) : List Event → Int → Int → Int
  | [], _, n => n
  | x :: l, i, n => scanGo tn td l (i + 1) (if (cmpT x.AtN x.AtD tn td).1 ≤ 0 then i else n)
def atE (l : List Event) (tn td : Int) : Int × Int :=
  if (endE l).2.2 ≠ 0 then (0, (endE l).2.2) else if (cmpT tn td (endE l).1 (endE l).2.1).2 ≠ 0 then (0, (cmpT tn td (endE l).1 (endE l).2.1).2)
  else if 0 ≤ (cmpT tn td (endE l).1 (endE l).2.1).1 then (0, 2) else (scanGo tn td l 0 0, 0)

/-- How an event of a voice stands to a time. -/
def cm (l : List Event) (tn td j : Int) : Int := (cmpT (ix l j).AtN (ix l j).AtD tn td).1

theorem event_eq {a b : Event} (h1 : a.AtN = b.AtN) (h2 : a.AtD = b.AtD) (h3 : a.DurN = b.DurN) (h4 : a.DurD = b.DurD) (h5 : a.PitchStep = b.PitchStep) (h6 : a.PitchOctave = b.PitchOctave) (h7 : a.PitchAlter = b.PitchAlter) (h8 : a.Rest = b.Rest) (h9 : a.Sign = b.Sign) (h10 : a.Pass = b.Pass) : a = b := by
  cases a; cases b
  simp only at h1 h2 h3 h4 h5 h6 h7 h8 h9 h10
  subst h1 h2 h3 h4 h5 h6 h7 h8 h9 h10
  rfl
def sameEv1 (a b : Event) : Bool := a.AtN == b.AtN && (a.AtD == b.AtD && (a.DurN == b.DurN && (a.DurD == b.DurD && (a.PitchStep == b.PitchStep && (a.PitchOctave == b.PitchOctave && (a.PitchAlter == b.PitchAlter && (a.Rest == b.Rest && (a.Sign == b.Sign && a.Pass == b.Pass))))))))
def sameEv : List Event → List Event → Bool
  | [], [] => true
  | x :: l, y :: m => sameEv1 x y && sameEv l m
  | _, _ => false
theorem sameEv1_iff {a b : Event} : sameEv1 a b = true ↔ a = b := by
  constructor
  · intro h
    simp only [sameEv1, Bool.and_eq_true, beq_iff_eq] at h
    obtain ⟨c1, c2, c3, c4, c5, c6, c7, c8, c9, c10⟩ := h
    exact event_eq c1 c2 c3 c4 c5 c6 c7 c8 c9 c10
  · intro h
    subst h
    simp [sameEv1]
theorem sameEv_iff : ∀ {a b : List Event}, sameEv a b = true ↔ a = b
  | [], [] => by simp [sameEv]
  | [], _ :: _ => by simp [sameEv]
  | _ :: _, [] => by simp [sameEv]
  | x :: l, y :: m => by simp only [sameEv, Bool.and_eq_true, sameEv1_iff, sameEv_iff (a := l) (b := m), List.cons.injEq]
theorem sameEv_yes {a b : List Event} (h : a = b) : sameEv a b = true := sameEv_iff.2 h
theorem sameEv_no {a b : List Event} (h : a ≠ b) : sameEv a b = false := by rw [← Bool.not_eq_true, sameEv_iff]; exact h

/-! ### Voices -/
def Chain : List Event → Int → Int → Prop
  | [], _, _ => True
  | x :: l, n, d => x.AtN = n ∧ x.AtD = d ∧ oneE x = 0 ∧ (addT n d x.DurN x.DurD).2.2 = 0 ∧ Chain l (addT n d x.DurN x.DurD).1 (addT n d x.DurN x.DurD).2.1

theorem chain_of : ∀ {l : List Event} {i n d : Int}, (checkGo l i n d).1 = 0 → Chain l n d
  | [], _, _, _, _ => trivial
  | x :: l, i, n, d, h => by
    simp only [checkGo] at h
    by_cases h1 : oneR x n d ≠ 0
    · rw [if_pos h1] at h; exact absurd h h1
    · rw [if_neg h1] at h
      have h1' : oneR x n d = 0 := by omega
      unfold oneR at h1'
      by_cases h2 : oneE x ≠ 0
      · rw [if_pos h2] at h1'; exact absurd h1' h2
      · rw [if_neg h2] at h1'
        by_cases h3 : x.AtN ≠ n ∨ x.AtD ≠ d
        · rw [if_pos h3] at h1'; omega
        · rw [if_neg h3] at h1'
          have e1 : x.AtN = n := by omega
          have e2 : x.AtD = d := by omega
          rw [e1, e2] at h1' h
          exact ⟨e1, e2, by omega, h1', chain_of h⟩

theorem one_ok {x : Event} (h : oneE x = 0) : checkT x.AtN x.AtD = 0 ∧ checkT x.DurN x.DurD = 0 ∧ x.DurN ≠ 0 := by
  unfold oneE at h
  by_cases h1 : checkT x.AtN x.AtD ≠ 0
  · rw [if_pos h1] at h; exact absurd h h1
  · rw [if_neg h1] at h
    by_cases h2 : checkT x.DurN x.DurD ≠ 0
    · rw [if_pos h2] at h; exact absurd h h2
    · rw [if_neg h2] at h
      by_cases h3 : x.DurN = 0
      · rw [if_pos h3] at h; omega
      · exact ⟨by omega, by omega, h3⟩

/-- Added to, a time is later. -/
theorem add_later {a b c d : Int} (h1 : checkT a b = 0) (h2 : checkT c d = 0) (h3 : c ≠ 0) (h : (addT a b c d).2.2 = 0) : 1 ≤ (addT a b c d).2.1 ∧ a * (addT a b c d).2.1 < (addT a b c d).1 * b := by
  have b1 := checkT_ok h1
  have b2 := checkT_ok h2
  unfold addT at h ⊢
  rw [if_neg (by omega), if_neg (by omega)] at h ⊢
  have p1 := mul_bd b1.1 b1.2.1 (show 0 ≤ d by omega) b2.2.2.2
  have p2 := mul_bd b2.1 b2.2.1 (show 0 ≤ b by omega) b1.2.2.2
  have p3 := mul_ge b1.2.2.1 b2.2.2.1
  have hg : 1 ≤ gcdI (a * d + c * b) (b * d) := gcdI_pos p3
  unfold ofT at h ⊢
  split at h
  · simp at h
  · rename_i hno
    rw [if_neg hno]
    have e1 := gcdI_left (b := b * d) (show 0 ≤ a * d + c * b by omega)
    have e2 := gcdI_right (a := a * d + c * b) (show 0 ≤ b * d by omega)
    generalize gcdI (a * d + c * b) (b * d) = g at *
    generalize (a * d + c * b).tdiv g = n' at *
    generalize (b * d).tdiv g = d' at *
    have hd : 1 ≤ d' := by
      by_cases hc : 1 ≤ d'
      · exact hc
      · have : g * d' ≤ 0 := Int.mul_nonpos_of_nonneg_of_nonpos (by omega) (by omega)
        omega
    refine ⟨hd, ?_⟩
    have k1 : g * (a * d') = a * (b * d) := by rw [← e2, Int.mul_left_comm]
    have k2 : g * (n' * b) = (a * d + c * b) * b := by rw [← e1, Int.mul_assoc]
    have k3 : (a * d + c * b) * b = a * (b * d) + c * b * b := by
      rw [Int.add_mul, Int.mul_assoc, Int.mul_comm d b]
    have k4 : 1 ≤ c * b * b := mul_ge (mul_ge (by omega) b1.2.2.1) b1.2.2.1
    have k5 : g * (a * d') < g * (n' * b) := by rw [k1, k2, k3]; omega
    exact Int.lt_of_mul_lt_mul_left k5 (by omega)

theorem cross_lt {a b c d e f : Int} (hb : 1 ≤ b) (hd : 1 ≤ d) (hf : 1 ≤ f) (h1 : a * d ≤ c * b) (h2 : c * f < e * d) : a * f < e * b := by
  have k1 : (a * d) * f ≤ (c * b) * f := Int.mul_le_mul_of_nonneg_right h1 (by omega)
  have k2 : (c * f) * b < (e * d) * b := Int.mul_lt_mul_of_pos_right h2 (by omega)
  have e1 : (a * d) * f = d * (a * f) := by rw [Int.mul_comm a d, Int.mul_assoc]
  have e2 : (c * b) * f = (c * f) * b := by rw [Int.mul_assoc, Int.mul_comm b f, ← Int.mul_assoc]
  have e3 : (e * d) * b = d * (e * b) := by rw [Int.mul_comm e d, Int.mul_assoc]
  have : d * (a * f) < d * (e * b) := by rw [← e1, ← e3]; omega
  exact Int.lt_of_mul_lt_mul_left this (by omega)

theorem chain_later {tn td : Int} (ht : 1 ≤ td) : ∀ {l : List Event} {n d : Int}, Chain l n d → 1 ≤ d → tn * d < n * td → ∀ x ∈ l, checkT x.AtN x.AtD = 0 ∧ tn * x.AtD < x.AtN * td
  | [], _, _, _, _, _, x, hx => by cases hx
  | y :: l, n, d, hc, hd, hlt, x, hx => by
    obtain ⟨e1, e2, e3, e4, e5⟩ := hc
    obtain ⟨o1, o2, o3⟩ := one_ok e3
    rcases List.mem_cons.1 hx with rfl | hx
    · exact ⟨o1, by rw [e1, e2]; exact hlt⟩
    · rw [e1, e2] at o1
      obtain ⟨q1, q2⟩ := add_later o1 o2 o3 e4
      exact chain_later ht e5 q1 (cross_lt ht hd q1 (Int.le_of_lt hlt) q2) x hx

theorem cm_sign {x : Event} {tn td : Int} (h1 : checkT x.AtN x.AtD = 0) (h2 : checkT tn td = 0) :
    (0 ≤ (cmpT x.AtN x.AtD tn td).1 ↔ tn * x.AtD ≤ x.AtN * td) ∧ (0 < (cmpT x.AtN x.AtD tn td).1 ↔ tn * x.AtD < x.AtN * td) := by
  unfold cmpT
  rw [if_neg (by omega), if_neg (by omega)]
  generalize x.AtN * td = u
  generalize tn * x.AtD = v
  split
  · simp only; omega
  · split <;> simp only <;> omega

theorem cm_mono {tn td : Int} (h2 : checkT tn td = 0) : ∀ {l : List Event} {n d : Int}, Chain l n d → 1 ≤ d → ∀ i j, 0 ≤ i → i < j → j < ln l → 0 ≤ cm l tn td i → 0 < cm l tn td j
  | [], _, _, _, _, i, j, h0, h1, h3, _ => by simp only [ln, List.length_nil] at h3; omega
  | y :: l, n, d, hc, hd, i, j, h0, h1, h3, h4 => by
    obtain ⟨e1, e2, e3, e4, e5⟩ := hc
    obtain ⟨o1, o2, o3⟩ := one_ok e3
    have ht : 1 ≤ td := (checkT_ok h2).2.2.1
    obtain ⟨q1, q2⟩ := add_later (a := n) (b := d) (by rw [← e1, ← e2]; exact o1) o2 o3 e4
    obtain ⟨k, rfl⟩ : ∃ k, j = k + 1 := ⟨j - 1, by omega⟩
    have hk : 0 ≤ k := by omega
    have hkl : k < ln l := by simp only [ln, List.length_cons] at h3 ⊢; omega
    have ej : cm (y :: l) tn td (k + 1) = cm l tn td k := by unfold cm; rw [ix_cons_succ hk]
    rw [ej]
    by_cases hi : i = 0
    · subst hi
      have h4' : 0 ≤ (cmpT y.AtN y.AtD tn td).1 := h4
      have := (cm_sign o1 h2).1.1 h4'
      rw [e1, e2] at this
      obtain ⟨c1, c2⟩ := chain_later ht e5 q1 (cross_lt ht hd q1 this q2) _ (ix_mem hk hkl)
      exact (cm_sign c1 h2).2.2 c2
    · obtain ⟨m, rfl⟩ : ∃ m, i = m + 1 := ⟨i - 1, by omega⟩
      have em : cm (y :: l) tn td (m + 1) = cm l tn td m := by unfold cm; rw [ix_cons_succ (by omega)]
      rw [em] at h4
      exact cm_mono h2 e5 q1 m k (by omega) (by omega) hkl h4

theorem scan_all {tn td : Int} : ∀ {l : List Event} {i n : Int}, (∀ x ∈ l, 0 < (cmpT x.AtN x.AtD tn td).1) → scanGo tn td l i n = n
  | [], _, _, _ => rfl
  | x :: l, i, n, h => by
    have := h x List.mem_cons_self
    simp only [scanGo]
    rw [if_neg (by omega)]
    exact scan_all fun y hy => h y (List.mem_cons_of_mem _ hy)

theorem scan_last {tn td : Int} : ∀ {l : List Event} {i n r : Int}, 0 ≤ r → r < ln l → cm l tn td r ≤ 0 → (∀ j, r < j → j < ln l → 0 < cm l tn td j) → scanGo tn td l i n = i + r
  | [], _, _, r, h0, h1, _, _ => by simp only [ln, List.length_nil] at h1; omega
  | x :: l, i, n, r, h0, h1, h2, h3 => by
    simp only [scanGo]
    by_cases hr : r = 0
    · subst hr
      have h2' : (cmpT x.AtN x.AtD tn td).1 ≤ 0 := h2
      rw [if_pos h2', scan_all, Int.add_zero]
      intro y hy
      obtain ⟨j, j0, j1, rfl⟩ := mem_ix hy
      have := h3 (j + 1) (by omega) (by rw [ln_cons]; omega)
      unfold cm at this
      rwa [ix_cons_succ j0] at this
    · obtain ⟨m, rfl⟩ : ∃ m, r = m + 1 := ⟨r - 1, by omega⟩
      have hl : ln (x :: l) = ln l + 1 := ln_cons x l
      have e : ∀ j, 0 ≤ j → cm (x :: l) tn td (j + 1) = cm l tn td j := fun j hj => by unfold cm; rw [ix_cons_succ hj]
      rw [scan_last (r := m) (by omega) (by omega) (by rw [← e m (by omega)]; exact h2) (fun j hj hjl => by rw [← e j (by omega)]; exact h3 (j + 1) (by omega) (by omega))]
      omega

/-- What is known of a voice that has an end behind a time. -/
theorem at_facts {l : List Event} {tn td : Int} (h1 : (endE l).2.2 = 0) (h2 : (cmpT tn td (endE l).1 (endE l).2.1).2 = 0) (h3 : (cmpT tn td (endE l).1 (endE l).2.1).1 < 0) :
    0 < ln l ∧ cm l tn td 0 ≤ 0 ∧ ∀ i j, 0 ≤ i → i < j → j < ln l → 0 ≤ cm l tn td i → 0 < cm l tn td j := by
  have ht : checkT tn td = 0 := by
    by_cases hc : checkT tn td = 0
    · exact hc
    · unfold cmpT at h2
      rw [if_pos hc] at h2
      exact h2
  have hb := checkT_ok ht
  have hcE : (checkE l).1 = 0 := by
    by_cases hc : (checkE l).1 = 0
    · exact hc
    · unfold endE at h1
      rw [if_pos hc] at h1
      exact h1
  have hch : Chain l 0 1 := by
    unfold checkE at hcE
    split at hcE
    · simp at hcE
    · exact chain_of hcE
  have hne : 0 < ln l := by
    by_cases hc : 0 < ln l
    · exact hc
    · exfalso
      have hz : ln l = 0 := by have := ln_nonneg l; omega
      have e : endE l = (0, 1, 0) := by
        unfold endE
        rw [if_neg (by omega), if_pos hz]
      rw [e] at h3
      unfold cmpT at h3
      rw [if_neg (by omega)] at h3
      simp only [Int.mul_one, Int.zero_mul] at h3
      split at h3
      · simp at h3
      · split at h3
        · omega
        · split at h3 <;> simp at h3
  refine ⟨hne, ?_, fun i j h0 hij hj hi => cm_mono ht hch (by omega) i j h0 hij hj hi⟩
  match l, hch, hne with
  | y :: l, hch, _ =>
    obtain ⟨e1, e2, e3, _, _⟩ := hch
    have hs := (cm_sign (one_ok e3).1 ht).2
    rw [e1, e2] at hs
    have hc0 : cm (y :: l) tn td 0 = (cmpT 0 1 tn td).1 := by
      show (cmpT y.AtN y.AtD tn td).1 = _
      rw [e1, e2]
    rw [hc0]
    simp only [Int.mul_one, Int.zero_mul] at hs
    omega

/-- The last event that does not begin behind a time. -/
theorem at_is {l : List Event} {tn td r : Int} (h1 : (endE l).2.2 = 0) (h2 : (cmpT tn td (endE l).1 (endE l).2.1).2 = 0) (h3 : (cmpT tn td (endE l).1 (endE l).2.1).1 < 0) (h4 : 0 ≤ r) (h5 : r < ln l) (h6 : cm l tn td r ≤ 0) (h7 : ∀ j, r < j → j < ln l → 0 < cm l tn td j) :
    atE l tn td = (r, 0) := by
  unfold atE
  rw [if_neg (by omega), if_neg (by omega), if_neg (by omega), scan_last h4 h5 h6 h7, Int.zero_add]

theorem at_scan {l : List Event} {tn td : Int} (h1 : (endE l).2.2 = 0) (h2 : (cmpT tn td (endE l).1 (endE l).2.1).2 = 0) (h3 : (cmpT tn td (endE l).1 (endE l).2.1).1 < 0) : atE l tn td = (scanGo tn td l 0 0, 0) := by
  unfold atE
  rw [if_neg (by omega), if_neg (by omega), if_neg (by omega)]
end Go.Proofs.YtjbefleabibmmaaGreatDoor
