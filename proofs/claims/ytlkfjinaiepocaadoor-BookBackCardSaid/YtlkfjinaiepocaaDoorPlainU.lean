/- THE GENERATOR'S PARTS ARE WELL MADE: units, ranges. Plain Lean; no program in sight. -/
import Derived.Test.YtlkfjinaiepocaaDoorB2Spec
namespace Go.Proofs.YtlkfjinaiepocaaDoor
open Go Go.E2 Go.E3

/-- A part: single signs and ligatures of two or three. -/
inductive Units : List Sign → Prop
  | nil : Units []
  | one {s : Sign} {l : List Sign} (h : s.Kind ≠ 4) (hl : Units l) : Units (s :: l)
  | two {a b : Sign} {l : List Sign} (ha : a.Kind = 4) (hb : b.Kind = 4) (ha' : a.Last = false) (hb' : b.Last = true) (hl : Units l) : Units (a :: b :: l)
  | three {a b c : Sign} {l : List Sign} (ha : a.Kind = 4) (hb : b.Kind = 4) (hc : c.Kind = 4) (ha' : a.Last = false) (hb' : b.Last = false) (hc' : c.Last = true) (hl : Units l) : Units (a :: b :: c :: l)
theorem Units.app {l m : List Sign} (h : Units l) (hm : Units m) : Units (l ++ m) := by
  induction h with
  | nil => exact hm
  | one h _ ih => exact .one h ih
  | two a b c d _ ih => exact .two a b c d ih
  | three a b c d e f _ ih => exact .three a b c d e f ih
theorem Units.snoc {l : List Sign} {s : Sign} (h : Units l) (hs : s.Kind ≠ 4) : Units (l ++ [s]) := h.app (.one hs .nil)
theorem Units.jq {l : List Sign} (h : Units l) : Units (jq l) := by
  induction h with
  | nil => exact .nil
  | @one s l h _ ih =>
    by_cases hk : s.Kind = 11
    · rw [show Go.Proofs.YtlkfjinaiepocaaDoor.jq (s :: l) = Go.Proofs.YtlkfjinaiepocaaDoor.jq l by simp [Go.Proofs.YtlkfjinaiepocaaDoor.jq, hk]]; exact ih
    · rw [show Go.Proofs.YtlkfjinaiepocaaDoor.jq (s :: l) = s :: Go.Proofs.YtlkfjinaiepocaaDoor.jq l by simp [Go.Proofs.YtlkfjinaiepocaaDoor.jq, hk]]; exact .one h ih
  | @two a b l ha hb ha' hb' _ ih =>
    rw [show Go.Proofs.YtlkfjinaiepocaaDoor.jq (a :: b :: l) = a :: b :: Go.Proofs.YtlkfjinaiepocaaDoor.jq l by simp [Go.Proofs.YtlkfjinaiepocaaDoor.jq, ha, hb]]
    exact .two ha hb ha' hb' ih
  | @three a b c l ha hb hc ha' hb' hc' _ ih =>
    rw [show Go.Proofs.YtlkfjinaiepocaaDoor.jq (a :: b :: c :: l) = a :: b :: c :: Go.Proofs.YtlkfjinaiepocaaDoor.jq l by simp [Go.Proofs.YtlkfjinaiepocaaDoor.jq, ha, hb, hc]]
    exact .three ha hb hc ha' hb' hc' ih

/-! ### One sign -/
def Good (s : Sign) : Prop := qp2 s = 0
theorem qhc {s : Sign} (h1 : 1 ≤ s.Kind) (h2 : s.Kind ≤ 12) (h3 : qh3 s) (h4 : s.Kind = 5 → qh5 s.MensMax s.MensMod s.MensTem s.MensPro = 0) (h5 : qev s) (h6 : s.Oblique = false) : Good s := by
  unfold Good qp2
  rw [if_neg (by omega), if_neg (by simp [h3]), if_neg (by rintro ⟨a, b⟩; exact b (h4 a)), if_neg (by simp [h5]), if_neg (by simp [h6])]
theorem q94 (n : Int) : (qrv n = 2 ∨ qrv n = 3) ∧ (qrw n = 2 ∨ qrw n = 3) ∧ (qlu n = 2 ∨ qlu n = 3) ∧ (qrx n = 2 ∨ qrx n = 3) := by
  have h := qec (a := n) (show (0 : Int) < 16 by decide)
  generalize he : qa n 16 = k at h
  have hk : k = 0 ∨ k = 1 ∨ k = 2 ∨ k = 3 ∨ k = 4 ∨ k = 5 ∨ k = 6 ∨ k = 7 ∨ k = 8 ∨ k = 9 ∨ k = 10 ∨ k = 11 ∨ k = 12 ∨ k = 13 ∨ k = 14 ∨ k = 15 := by omega
  unfold qrv qrw qlu qrx
  rw [he]
  rcases hk with hk | hk | hk | hk | hk | hk | hk | hk | hk | hk | hk | hk | hk | hk | hk | hk <;> subst hk <;> decide
theorem qry (n : Int) (st : Bool) : Good (qm2 n st) := by
  have h := q94 n
  refine qhc (by simp [qm2]) (by simp [qm2]) ?_ (fun _ => ?_) ?_ rfl
  · simp [qh3, qm2]
  · exact if_pos h
  · simp [qev, qm2]
theorem ix3 {a b c : Int} {k : Int} (h : 0 ≤ k ∧ k < 3) : ix [a, b, c] k = a ∨ ix [a, b, c] k = b ∨ ix [a, b, c] k = c := by
  have : k = 0 ∨ k = 1 ∨ k = 2 := by omega
  rcases this with h | h | h <;> subst h
  · exact .inl rfl
  · exact .inr (.inl rfl)
  · exact .inr (.inr rfl)
theorem ix2 {a b : Int} {k : Int} (h : 0 ≤ k ∧ k < 2) : ix [a, b] k = a ∨ ix [a, b] k = b := by
  have : k = 0 ∨ k = 1 := by omega
  rcases this with h | h <;> subst h
  · exact .inl rfl
  · exact .inr rfl
theorem qtv {t c : Int} (ht : t = 0 ∨ t = 3 ∨ t = 4) (hc : 1 ≤ c ∧ c ≤ 5) : Good (Sign.mk 7 0 0 0 false 0 false false 0 0 0 0 false 0 0 t c) :=
  qhc (by dsimp only; decide) (by dsimp only; decide) (by simp [qh3]) (fun h => by simp at h) (by simp [qev]; omega) rfl
theorem q33 {a b : Int} (ha : 1 ≤ a ∧ a ≤ 4) (hb : 1 ≤ b ∧ b ≤ 4) : Good (Sign.mk 6 0 0 0 false 0 false false 0 0 0 0 false a b 0 0) :=
  qhc (by dsimp only; decide) (by dsimp only; decide) (by simp [qh3]) (fun h => by simp at h) (by simp [qev]; omega) rfl
theorem q6f {a : Int} (ha : 0 ≤ a ∧ a ≤ 2) : Good (Sign.mk 8 0 0 0 false 0 false false 0 0 0 0 false a 0 0 0) :=
  qhc (by dsimp only; decide) (by dsimp only; decide) (by simp [qh3]) (fun h => by simp at h) (by simp [qev]; omega) rfl
theorem qqz {a : Int} (ha : 2 ≤ a ∧ a ≤ 4) : Good (Sign.mk 10 0 0 0 false 0 false false 0 0 0 0 false a 0 0 0) :=
  qhc (by dsimp only; decide) (by dsimp only; decide) (by simp [qh3]) (fun h => by simp at h) (by simp [qev]; omega) rfl
theorem qnq {k : Int} (h : k = 3 ∨ k = 9 ∨ k = 11 ∨ k = 12) : Good (Sign.mk k 0 0 0 false 0 false false 0 0 0 0 false 0 0 0 0) := by
  rcases h with h | h | h | h <;> subst h <;> unfold Good <;> decide
theorem q35 {v : Int} (h : 2 ≤ v ∧ v ≤ 7) : Good (qlx v) :=
  qhc (by simp [qlx]) (by simp [qlx]) (by simp [qh3, qlx]) (fun h => by simp [qlx] at h) (by simp [qev, qlx]; omega) rfl
theorem q3t {v n p : Int} (h : 2 ≤ v ∧ v ≤ 7) (hp : -4 ≤ p ∧ p ≤ 12) (hn : 0 ≤ n) : Good (qr1 v n p) := by
  have hk := ky (qar hn (show (0 : Int) < 5 by decide)).1 (show (0 : Int) < 7 by decide)
  have ha : -1 ≤ ix [0, 0, 0, 0, (-1 : Int), 1, 2] (Int.tmod (Int.tdiv n 5) 7) ∧ ix [0, 0, 0, 0, (-1 : Int), 1, 2] (Int.tmod (Int.tdiv n 5) 7) ≤ 2 := by
    generalize Int.tmod (Int.tdiv n 5) 7 = k at hk
    have : k = 0 ∨ k = 1 ∨ k = 2 ∨ k = 3 ∨ k = 4 ∨ k = 5 ∨ k = 6 := by omega
    rcases this with h | h | h | h | h | h | h <;> subst h <;> decide
  exact qhc (by simp [qr1]) (by simp [qr1]) (by simp [qh3, qr1]) (fun h => by simp [qr1] at h) (by simp [qev, qr1]; omega) rfl
theorem qjz {n many j p : Int} (hp : -4 ≤ p ∧ p ≤ 12) : Good (qvw n many j p) :=
  qhc (by simp [qvw]) (by simp [qvw]) (by simp [qh3, qvw]) (fun h => by simp [qvw] at h) (by simp [qev, qvw]; omega) rfl

/-! ### The maker -/
structure MkOk (x : Mk) : Prop where
  u : Units x.S
  g : ∀ s ∈ x.S, Good s
  p : -4 ≤ x.place ∧ x.place ≤ 12
theorem qd4 {l : List Sign} {s : Sign} (h : ∀ s ∈ l, Good s) (hs : Good s) : ∀ t ∈ l ++ [s], Good t := by
  intro t ht
  rcases List.mem_append.1 ht with ht | ht
  · exact h t ht
  · rw [List.mem_singleton.1 ht]; exact hs
theorem MkOk.snoc {x y : Mk} {s : Sign} (h : MkOk x) (hs : Good s) (hk : s.Kind ≠ 4) (he : y.S = x.S ++ [s]) (hp : -4 ≤ y.place ∧ y.place ≤ 12) : MkOk y :=
  ⟨by rw [he]; exact h.u.snoc hk, by rw [he]; exact qd4 h.g hs, hp⟩
theorem q67 {x : Mk} {n : Int} (h : MkOk x) (hn : 0 ≤ n) : MkOk (qdm x n) := by
  have d6 := (qar hn (show (0 : Int) < 6 by decide)).1
  have d24 := (qar hn (show (0 : Int) < 24 by decide)).1
  have d18 := (qar hn (show (0 : Int) < 18 by decide)).1
  unfold qdm
  split
  · split
    · exact h.snoc (qry _ _) (show (5 : Int) ≠ 4 by decide) rfl h.p
    · exact h
  · split
    · split
      · have a := ky d6 (show (0 : Int) < 4 by decide)
        have b := ky d24 (show (0 : Int) < 4 by decide)
        exact h.snoc (q33 ⟨by omega, by omega⟩ ⟨by omega, by omega⟩) (show (6 : Int) ≠ 4 by decide) rfl h.p
      · exact h
    · split
      · have a := ky d6 (show (0 : Int) < 3 by decide)
        have b := ky d18 (show (0 : Int) < 5 by decide)
        exact h.snoc (qtv (ix3 a) ⟨by omega, by omega⟩) (show (7 : Int) ≠ 4 by decide) rfl h.p
      · split
        · have a := ky d6 (show (0 : Int) < 3 by decide)
          exact h.snoc (q6f ⟨by omega, by omega⟩) (show (8 : Int) ≠ 4 by decide) rfl h.p
        · split
          · have a := ix2 (a := 11) (b := 12) (ky d6 (show (0 : Int) < 2 by decide))
            exact h.snoc (qnq (.inr (.inr a))) (show ix [11, 12] _ ≠ 4 by rcases a with a | a <;> rw [a] <;> decide) rfl h.p
          · split
            · have a := ky d6 (show (0 : Int) < 3 by decide)
              exact h.snoc (qqz (a := 2 + Int.tmod (Int.tdiv n 6) 3) ⟨by omega, by omega⟩) (show (10 : Int) ≠ 4 by decide) rfl h.p
            · exact h.snoc (qnq (.inr (.inl rfl))) (show (9 : Int) ≠ 4 by decide) rfl h.p
theorem zcl {x : Mk} {n : Int} (h : MkOk x) (hn : 0 ≤ n) : MkOk (q91 x n) := by
  have a := ky hn (show (0 : Int) < 2 by decide)
  have b := ky (qar hn (show (0 : Int) < 2 by decide)).1 (show (0 : Int) < 5 by decide)
  have hp0 : -4 ≤ 2 + Int.tmod (Int.tdiv n 2) 5 ∧ 2 + Int.tmod (Int.tdiv n 2) 5 ≤ 12 := ⟨by omega, by omega⟩
  unfold q91
  generalize 2 + Int.tmod (Int.tdiv n 2) 5 = p0 at hp0
  have hm : 2 + Int.tmod n 2 = 2 ∨ 2 + Int.tmod n 2 = 3 := by omega
  rcases hm with hm | hm
  · rw [hm, qfg (by decide), qfg (by decide), qkj (by decide)]
    refine ⟨?_, ?_, qff⟩
    · show Units ((x.S ++ [_]) ++ [_])
      rw [List.append_assoc]
      exact h.u.app (.two rfl rfl rfl rfl .nil)
    · exact qd4 (qd4 h.g (qjz hp0)) (qjz qff)
  · rw [hm, qfg (by decide), qfg (by decide), qfg (by decide), qkj (by decide)]
    refine ⟨?_, ?_, qff⟩
    · show Units (((x.S ++ [_]) ++ [_]) ++ [_])
      rw [List.append_assoc, List.append_assoc]
      exact h.u.app (.three rfl rfl rfl rfl rfl rfl .nil)
    · exact qd4 (qd4 (qd4 h.g (qjz hp0)) (qjz qff)) (qjz qff)
theorem zar {x : Mk} {n : Int} (h : MkOk x) (hn : 0 ≤ n) : MkOk (jo x n) := by
  have d := (qar hn (show (0 : Int) < 16 by decide)).1
  have d96 := (qar hn (show (0 : Int) < 96 by decide)).1
  have v := ky d (show (0 : Int) < 6 by decide)
  unfold jo
  split
  · exact q67 h d
  · split
    · exact zcl h d
    · split
      · exact h.snoc (q35 (v := 2 + Int.tmod (Int.tdiv n 16) 6) ⟨by omega, by omega⟩) (show (2 : Int) ≠ 4 by decide) rfl h.p
      · split
        · split
          · exact h.snoc (qnq (.inl rfl)) (show (3 : Int) ≠ 4 by decide) rfl h.p
          · exact h
        · exact h.snoc (q3t (v := 2 + Int.tmod (Int.tdiv n 16) 6) ⟨by omega, by omega⟩ qkr d96) (show (1 : Int) ≠ 4 by decide) rfl qkr
theorem zbe {l : List Int} {i : Int} {x : Mk} (h : MkOk x) : MkOk (qc0 l i x) ∧ (qc0 l i x).nm = x.nm ∧ ln x.S ≤ ln (qc0 l i x).S := by
  by_cases hc : i < ln l ∧ ln x.S < 55
  · have hn := (qec (a := ix l i) (show (0 : Int) < 1048576 by decide)).1
    have a := zbe (l := l) (i := i + 1) (zar h hn)
    have b := qjs (x := x) ⟨h.p.1, h.p.2⟩ hn
    rw [qn0 hc.1 hc.2]
    refine ⟨a.1, ?_, by omega⟩
    rw [a.2.1]
    unfold jo
    split
    · unfold qdm qtc; (repeat' split) <;> rfl
    · split
      · unfold q91
        have : ∀ (n many j : Int) (y : Mk), (qhh n many j y).nm = y.nm := by
          intro n many j y
          by_cases hm : 0 ≤ many - j
          · generalize hk : (many - j).toNat = k
            induction k generalizing j y with
            | zero => rw [qkj (by omega)]
            | succ k ih => rw [qfg (by omega), ih _ _ (by omega) (by omega)]
          · rw [qkj (by omega)]
        rw [this]
      · split
        · rfl
        · split
          · split <;> rfl
          · rfl
  · rw [qrf (by omega)]
    exact ⟨h, rfl, Int.le_refl _⟩
 termination_by (ln l - i).toNat
 decreasing_by omega
theorem q5o (n : Int) (hn : 0 ≤ n) : MkOk (qve n) := by
  have a := ix3 (a := 0) (b := 4) (c := 3) (ky (qar hn (show (0 : Int) < 320 by decide)).1 (show (0 : Int) < 3 by decide))
  refine ⟨?_, ?_, ⟨show (-4 : Int) ≤ 4 by decide, show (4 : Int) ≤ 12 by decide⟩⟩
  · exact .one (show (7 : Int) ≠ 4 by decide) (.one (show (5 : Int) ≠ 4 by decide) .nil)
  · exact qd4 (qd4 (fun s h => by cases h) (qtv (by omega) (by decide))) (qry _ _)

/-! ### The part -/
theorem qya {k : Int} (h : 97 ≤ k ∧ k ≤ 122) : jm [UInt8.ofNat k.toNat] = true := by
  have e : ((UInt8.ofNat k.toNat).toNat : Int) = k := by
    rw [UInt8.toNat_ofNat']
    omega
  have hb : bx [UInt8.ofNat k.toNat] 0 = k := e
  simp only [jm, qk3, hb, qmx, List.all_cons, List.all_nil, e, ln, List.length_singleton]
  simp
  omega
theorem qph {l : List Sign} {s : Sign} (h : s ∈ jq l) : s ∈ l ∧ s.Kind ≠ 11 := by
  have := List.mem_filter.1 h
  exact ⟨this.1, by simpa using this.2⟩
structure PartOk (nm : List UInt8) (l : List Sign) : Prop where
  name : jm nm = true
  u : Units l
  g : ∀ s ∈ l, Good s
  t : ∀ s ∈ l, s.Kind ≠ 11
  n : ln l ≤ 58
theorem q3s (l : List Sign) : ln (jq l) ≤ ln l := by
  have := List.length_filter_le (fun s : Sign => !decide (s.Kind = 11)) l
  simp only [ln, jq]; omega
theorem q14 (a0 : List Int) : PartOk (qm a0).1 (qm a0).2 := by
  have hn := qec (a := atI a0 0) (show (0 : Int) < 1048576 by decide)
  have h := zbe (l := a0) (i := 1) (q5o _ hn.1)
  have hb := qnz (l := a0) (i := 1) (x := qve (qa (atI a0 0) 1048576)) ⟨show (-4 : Int) ≤ 4 by decide, show (4 : Int) ≤ 12 by decide⟩ (by show ln [_, _] ≤ 57; simp [ln])
  have hf : Units (qu a0).2 ∧ (∀ s ∈ (qu a0).2, Good s) ∧ ln (qu a0).2 ≤ 58 ∧ (qu a0).1 = (qgr a0).nm := by
    unfold qu
    split
    · refine ⟨h.1.u.snoc (show (10 : Int) ≠ 4 by decide), qd4 h.1.g (qqz (by decide)), ?_, rfl⟩
      show ln (_ ++ [_]) ≤ 58
      rw [qbq]
      have : ln (qgr a0).S ≤ 57 := hb.2.1
      omega
    · exact ⟨h.1.u, h.1.g, by have : ln (qgr a0).S ≤ 57 := hb.2.1; show ln (qgr a0).S ≤ 58; omega, rfl⟩
  refine ⟨?_, hf.1.jq, fun s hs => hf.2.1 s (qph hs).1, fun s hs => (qph hs).2, by have := q3s (qu a0).2; have := hf.2.2.1; show ln (jq _) ≤ 58; omega⟩
  show jm (qu a0).1 = true
  rw [hf.2.2.2]
  show jm (qc0 a0 1 _).nm = true
  rw [h.2.1]
  have := ky (qar hn.1 (show (0 : Int) < 16 by decide)).1 (show (0 : Int) < 20 by decide)
  exact qya ⟨by omega, by omega⟩
end Go.Proofs.YtlkfjinaiepocaaDoor
