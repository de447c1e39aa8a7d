/- THE GENERATOR'S PARTS ARE WELL MADE: units, ranges. Plain Lean; no program in sight. -/
import Derived.Test.YtlkfjinaiepocaaDoorB2Spec
namespace Go.Proofs.YtlkfjinaiepocaaDoor
open Go Go.E2 Go.E3

/-- A part: single signs and ligatures of two or three. -/
inductive Units : List Sign → Prop
  | nil : Units []
  | one {s : Sign} {l : List Sign} (h : s.Kind ≠ 4) (hl : Units l) : Units (s :: l)
  | two {a b : Sign} {l : List Sign} (ha : a.Kind = 4) (hb : b.Kind = 4) (ha' : a.Last = false) (hb' : b.Last = true) (hl : Units l) : Units (a :: b :: l)
  | three {a b c : Sign} {l : List Sign} (ha : a.Kind = 4) (hb : b.Kind = 4) (hc : c.Kind = 4) (ha' : a.Last = false) (hb' : b.Last = false) (hc' : c.Last = true) (hl : Units l) : Units (a :: b :: c :: l)
theorem Units.app {l m : List Sign} (h : Units l) (hm : Units m) : Units (l ++ m) := by
  induction h with
  | nil => exact hm
  | one h _ ih => exact .one h ih
  | two a b c d _ ih => exact .two a b c d ih
  | three a b c d e f _ ih => exact .three a b c d e f ih
theorem Units.snoc {l : List Sign} {s : Sign} (h : Units l) (hs : s.Kind ≠ 4) : Units (l ++ [s]) := h.app (.one hs .nil)
theorem Units.jx {l : List Sign} (h : Units l) : Units (jx l) := by
  induction h with
  | nil => exact .nil
  | @one s l h _ ih =>
    by_cases hk : s.Kind = 11
    · rw [show Go.Proofs.YtlkfjinaiepocaaDoor.jx (s :: l) = Go.Proofs.YtlkfjinaiepocaaDoor.jx l by simp [Go.Proofs.YtlkfjinaiepocaaDoor.jx, hk]]; exact ih
    · rw [show Go.Proofs.YtlkfjinaiepocaaDoor.jx (s :: l) = s :: Go.Proofs.YtlkfjinaiepocaaDoor.jx l by simp [Go.Proofs.YtlkfjinaiepocaaDoor.jx, hk]]; exact .one h ih
  | @two a b l ha hb ha' hb' _ ih =>
    rw [show Go.Proofs.YtlkfjinaiepocaaDoor.jx (a :: b :: l) = a :: b :: Go.Proofs.YtlkfjinaiepocaaDoor.jx l by simp [Go.Proofs.YtlkfjinaiepocaaDoor.jx, ha, hb]]
    exact .two ha hb ha' hb' ih
  | @three a b c l ha hb hc ha' hb' hc' _ ih =>
    rw [show Go.Proofs.YtlkfjinaiepocaaDoor.jx (a :: b :: c :: l) = a :: b :: c :: Go.Proofs.YtlkfjinaiepocaaDoor.jx l by simp [Go.Proofs.YtlkfjinaiepocaaDoor.jx, ha, hb, hc]]
    exact .three ha hb hc ha' hb' hc' ih

/-! ### One sign -/
def Good (s : Sign) : Prop := qqe s = 0
theorem qho {s : Sign} (h1 : 1 ≤ s.Kind) (h2 : s.Kind ≤ 12) (h3 : qii s) (h4 : s.Kind = 5 → qil s.MensMax s.MensMod s.MensTem s.MensPro = 0) (h5 : qe6 s) (h6 : s.Oblique = false) : Good s := by
  unfold Good qqe
  rw [if_neg (by omega), if_neg (by simp [h3]), if_neg (by rintro ⟨a, b⟩; exact b (h4 a)), if_neg (by simp [h5]), if_neg (by simp [h6])]
theorem q98 (n : Int) : (qr6 n = 2 ∨ qr6 n = 3) ∧ (qr7 n = 2 ∨ qr7 n = 3) ∧ (ql6 n = 2 ∨ ql6 n = 3) ∧ (qr8 n = 2 ∨ qr8 n = 3) := by
  have h := qen (a := n) (show (0 : Int) < 16 by decide)
  generalize he : qa n 16 = k at h
  have hk : k = 0 ∨ k = 1 ∨ k = 2 ∨ k = 3 ∨ k = 4 ∨ k = 5 ∨ k = 6 ∨ k = 7 ∨ k = 8 ∨ k = 9 ∨ k = 10 ∨ k = 11 ∨ k = 12 ∨ k = 13 ∨ k = 14 ∨ k = 15 := by omega
  unfold qr6 qr7 ql6 qr8
  rw [he]
  rcases hk with hk | hk | hk | hk | hk | hk | hk | hk | hk | hk | hk | hk | hk | hk | hk | hk <;> subst hk <;> decide
theorem qr9 (n : Int) (st : Bool) : Good (qne n st) := by
  have h := q98 n
  refine qho (by simp [qne]) (by simp [qne]) ?_ (fun _ => ?_) ?_ rfl
  · simp [qii, qne]
  · exact if_pos h
  · simp [qe6, qne]
theorem ix3 {a b c : Int} {k : Int} (h : 0 ≤ k ∧ k < 3) : ix [a, b, c] k = a ∨ ix [a, b, c] k = b ∨ ix [a, b, c] k = c := by
  have : k = 0 ∨ k = 1 ∨ k = 2 := by omega
  rcases this with h | h | h <;> subst h
  · exact .inl rfl
  · exact .inr (.inl rfl)
  · exact .inr (.inr rfl)
theorem ix2 {a b : Int} {k : Int} (h : 0 ≤ k ∧ k < 2) : ix [a, b] k = a ∨ ix [a, b] k = b := by
  have : k = 0 ∨ k = 1 := by omega
  rcases this with h | h <;> subst h
  · exact .inl rfl
  · exact .inr rfl
theorem qt5 {t c : Int} (ht : t = 0 ∨ t = 3 ∨ t = 4) (hc : 1 ≤ c ∧ c ≤ 5) : Good (Sign.mk 7 0 0 0 false 0 false false 0 0 0 0 false 0 0 t c) :=
  qho (by dsimp only; decide) (by dsimp only; decide) (by simp [qii]) (fun h => by simp at h) (by simp [qe6]; omega) rfl
theorem q4c {a b : Int} (ha : 1 ≤ a ∧ a ≤ 4) (hb : 1 ≤ b ∧ b ≤ 4) : Good (Sign.mk 6 0 0 0 false 0 false false 0 0 0 0 false a b 0 0) :=
  qho (by dsimp only; decide) (by dsimp only; decide) (by simp [qii]) (fun h => by simp at h) (by simp [qe6]; omega) rfl
theorem q6l {a : Int} (ha : 0 ≤ a ∧ a ≤ 2) : Good (Sign.mk 8 0 0 0 false 0 false false 0 0 0 0 false a 0 0 0) :=
  qho (by dsimp only; decide) (by dsimp only; decide) (by simp [qii]) (fun h => by simp at h) (by simp [qe6]; omega) rfl
theorem qrc {a : Int} (ha : 2 ≤ a ∧ a ≤ 4) : Good (Sign.mk 10 0 0 0 false 0 false false 0 0 0 0 false a 0 0 0) :=
  qho (by dsimp only; decide) (by dsimp only; decide) (by simp [qii]) (fun h => by simp at h) (by simp [qe6]; omega) rfl
theorem qn5 {k : Int} (h : k = 3 ∨ k = 9 ∨ k = 11 ∨ k = 12) : Good (Sign.mk k 0 0 0 false 0 false false 0 0 0 0 false 0 0 0 0) := by
  rcases h with h | h | h | h <;> subst h <;> unfold Good <;> decide
theorem q4e {v : Int} (h : 2 ≤ v ∧ v ≤ 7) : Good (ql9 v) :=
  qho (by simp [ql9]) (by simp [ql9]) (by simp [qii, ql9]) (fun h => by simp [ql9] at h) (by simp [qe6, ql9]; omega) rfl
theorem q31 {v n p : Int} (h : 2 ≤ v ∧ v ≤ 7) (hp : -4 ≤ p ∧ p ≤ 12) (hn : 0 ≤ n) : Good (qsc v n p) := by
  have hk := k9 (qa1 hn (show (0 : Int) < 5 by decide)).1 (show (0 : Int) < 7 by decide)
  have ha : -1 ≤ ix [0, 0, 0, 0, (-1 : Int), 1, 2] (Int.tmod (Int.tdiv n 5) 7) ∧ ix [0, 0, 0, 0, (-1 : Int), 1, 2] (Int.tmod (Int.tdiv n 5) 7) ≤ 2 := by
    generalize Int.tmod (Int.tdiv n 5) 7 = k at hk
    have : k = 0 ∨ k = 1 ∨ k = 2 ∨ k = 3 ∨ k = 4 ∨ k = 5 ∨ k = 6 := by omega
    rcases this with h | h | h | h | h | h | h <;> subst h <;> decide
  exact qho (by simp [qsc]) (by simp [qsc]) (by simp [qii, qsc]) (fun h => by simp [qsc] at h) (by simp [qe6, qsc]; omega) rfl
theorem qkd {n many j p : Int} (hp : -4 ≤ p ∧ p ≤ 12) : Good (qv3 n many j p) :=
  qho (by simp [qv3]) (by simp [qv3]) (by simp [qii, qv3]) (fun h => by simp [qv3] at h) (by simp [qe6, qv3]; omega) rfl

/-! ### The maker -/
structure MkOk (x : Mk) : Prop where
  u : Units x.S
  g : ∀ s ∈ x.S, Good s
  p : -4 ≤ x.place ∧ x.place ≤ 12
theorem qed {l : List Sign} {s : Sign} (h : ∀ s ∈ l, Good s) (hs : Good s) : ∀ t ∈ l ++ [s], Good t := by
  intro t ht
  rcases List.mem_append.1 ht with ht | ht
  · exact h t ht
  · rw [List.mem_singleton.1 ht]; exact hs
theorem MkOk.snoc {x y : Mk} {s : Sign} (h : MkOk x) (hs : Good s) (hk : s.Kind ≠ 4) (he : y.S = x.S ++ [s]) (hp : -4 ≤ y.place ∧ y.place ≤ 12) : MkOk y :=
  ⟨by rw [he]; exact h.u.snoc hk, by rw [he]; exact qed h.g hs, hp⟩
theorem q7e {x : Mk} {n : Int} (h : MkOk x) (hn : 0 ≤ n) : MkOk (qdw x n) := by
  have d6 := (qa1 hn (show (0 : Int) < 6 by decide)).1
  have d24 := (qa1 hn (show (0 : Int) < 24 by decide)).1
  have d18 := (qa1 hn (show (0 : Int) < 18 by decide)).1
  unfold qdw
  split
  · split
    · exact h.snoc (qr9 _ _) (show (5 : Int) ≠ 4 by decide) rfl h.p
    · exact h
  · split
    · split
      · have a := k9 d6 (show (0 : Int) < 4 by decide)
        have b := k9 d24 (show (0 : Int) < 4 by decide)
        exact h.snoc (q4c ⟨by omega, by omega⟩ ⟨by omega, by omega⟩) (show (6 : Int) ≠ 4 by decide) rfl h.p
      · exact h
    · split
      · have a := k9 d6 (show (0 : Int) < 3 by decide)
        have b := k9 d18 (show (0 : Int) < 5 by decide)
        exact h.snoc (qt5 (ix3 a) ⟨by omega, by omega⟩) (show (7 : Int) ≠ 4 by decide) rfl h.p
      · split
        · have a := k9 d6 (show (0 : Int) < 3 by decide)
          exact h.snoc (q6l ⟨by omega, by omega⟩) (show (8 : Int) ≠ 4 by decide) rfl h.p
        · split
          · have a := ix2 (a := 11) (b := 12) (k9 d6 (show (0 : Int) < 2 by decide))
            exact h.snoc (qn5 (.inr (.inr a))) (show ix [11, 12] _ ≠ 4 by rcases a with a | a <;> rw [a] <;> decide) rfl h.p
          · split
            · have a := k9 d6 (show (0 : Int) < 3 by decide)
              exact h.snoc (qrc (a := 2 + Int.tmod (Int.tdiv n 6) 3) ⟨by omega, by omega⟩) (show (10 : Int) ≠ 4 by decide) rfl h.p
            · exact h.snoc (qn5 (.inr (.inl rfl))) (show (9 : Int) ≠ 4 by decide) rfl h.p
theorem zcp {x : Mk} {n : Int} (h : MkOk x) (hn : 0 ≤ n) : MkOk (q95 x n) := by
  have a := k9 hn (show (0 : Int) < 2 by decide)
  have b := k9 (qa1 hn (show (0 : Int) < 2 by decide)).1 (show (0 : Int) < 5 by decide)
  have hp0 : -4 ≤ 2 + Int.tmod (Int.tdiv n 2) 5 ∧ 2 + Int.tmod (Int.tdiv n 2) 5 ≤ 12 := ⟨by omega, by omega⟩
  unfold q95
  generalize 2 + Int.tmod (Int.tdiv n 2) 5 = p0 at hp0
  have hm : 2 + Int.tmod n 2 = 2 ∨ 2 + Int.tmod n 2 = 3 := by omega
  rcases hm with hm | hm
  · rw [hm, qfq (by decide), qfq (by decide), qkx (by decide)]
    refine ⟨?_, ?_, qfp⟩
    · show Units ((x.S ++ [_]) ++ [_])
      rw [List.append_assoc]
      exact h.u.app (.two rfl rfl rfl rfl .nil)
    · exact qed (qed h.g (qkd hp0)) (qkd qfp)
  · rw [hm, qfq (by decide), qfq (by decide), qfq (by decide), qkx (by decide)]
    refine ⟨?_, ?_, qfp⟩
    · show Units (((x.S ++ [_]) ++ [_]) ++ [_])
      rw [List.append_assoc, List.append_assoc]
      exact h.u.app (.three rfl rfl rfl rfl rfl rfl .nil)
    · exact qed (qed (qed h.g (qkd hp0)) (qkd qfp)) (qkd qfp)
theorem zau {x : Mk} {n : Int} (h : MkOk x) (hn : 0 ≤ n) : MkOk (jw x n) := by
  have d := (qa1 hn (show (0 : Int) < 16 by decide)).1
  have d96 := (qa1 hn (show (0 : Int) < 96 by decide)).1
  have v := k9 d (show (0 : Int) < 6 by decide)
  unfold jw
  split
  · exact q7e h d
  · split
    · exact zcp h d
    · split
      · exact h.snoc (q4e (v := 2 + Int.tmod (Int.tdiv n 16) 6) ⟨by omega, by omega⟩) (show (2 : Int) ≠ 4 by decide) rfl h.p
      · split
        · split
          · exact h.snoc (qn5 (.inl rfl)) (show (3 : Int) ≠ 4 by decide) rfl h.p
          · exact h
        · exact h.snoc (q31 (v := 2 + Int.tmod (Int.tdiv n 16) 6) ⟨by omega, by omega⟩ qk4 d96) (show (1 : Int) ≠ 4 by decide) rfl qk4
theorem zbi {l : List Int} {i : Int} {x : Mk} (h : MkOk x) : MkOk (qdd l i x) ∧ (qdd l i x).nm = x.nm ∧ ln x.S ≤ ln (qdd l i x).S := by
  by_cases hc : i < ln l ∧ ln x.S < 55
  · have hn := (qen (a := ix l i) (show (0 : Int) < 1048576 by decide)).1
    have a := zbi (l := l) (i := i + 1) (zau h hn)
    have b := qj5 (x := x) ⟨h.p.1, h.p.2⟩ hn
    rw [qoe hc.1 hc.2]
    refine ⟨a.1, ?_, by omega⟩
    rw [a.2.1]
    unfold jw
    split
    · unfold qdw qtn; (repeat' split) <;> rfl
    · split
      · unfold q95
        have : ∀ (n many j : Int) (y : Mk), (qht n many j y).nm = y.nm := by
          intro n many j y
          by_cases hm : 0 ≤ many - j
          · generalize hk : (many - j).toNat = k
            induction k generalizing j y with
            | zero => rw [qkx (by omega)]
            | succ k ih => rw [qfq (by omega), ih _ _ (by omega) (by omega)]
          · rw [qkx (by omega)]
        rw [this]
      · split
        · rfl
        · split
          · split <;> rfl
          · rfl
  · rw [qrs (by omega)]
    exact ⟨h, rfl, Int.le_refl _⟩
 termination_by (ln l - i).toNat
 decreasing_by omega
theorem q5u (n : Int) (hn : 0 ≤ n) : MkOk (qvl n) := by
  have a := ix3 (a := 0) (b := 4) (c := 3) (k9 (qa1 hn (show (0 : Int) < 320 by decide)).1 (show (0 : Int) < 3 by decide))
  refine ⟨?_, ?_, ⟨show (-4 : Int) ≤ 4 by decide, show (4 : Int) ≤ 12 by decide⟩⟩
  · exact .one (show (7 : Int) ≠ 4 by decide) (.one (show (5 : Int) ≠ 4 by decide) .nil)
  · exact qed (qed (fun s h => by cases h) (qt5 (by omega) (by decide))) (qr9 _ _)

/-! ### The part -/
theorem qyg {k : Int} (h : 97 ≤ k ∧ k ≤ 122) : ju [UInt8.ofNat k.toNat] = true := by
  have e : ((UInt8.ofNat k.toNat).toNat : Int) = k := by
    rw [UInt8.toNat_ofNat']
    omega
  have hb : bx [UInt8.ofNat k.toNat] 0 = k := e
  simp only [ju, qlg, hb, qm9, List.all_cons, List.all_nil, e, ln, List.length_singleton]
  simp
  omega
theorem qpt {l : List Sign} {s : Sign} (h : s ∈ jx l) : s ∈ l ∧ s.Kind ≠ 11 := by
  have := List.mem_filter.1 h
  exact ⟨this.1, by simpa using this.2⟩
structure PartOk (nm : List UInt8) (l : List Sign) : Prop where
  name : ju nm = true
  u : Units l
  g : ∀ s ∈ l, Good s
  t : ∀ s ∈ l, s.Kind ≠ 11
  n : ln l ≤ 58
theorem q30 (l : List Sign) : ln (jx l) ≤ ln l := by
  have := List.length_filter_le (fun s : Sign => !decide (s.Kind = 11)) l
  simp only [ln, jx]; omega
theorem q18 (a0 : List Int) : PartOk (qb a0).1 (qb a0).2 := by
  have hn := qen (a := atI a0 0) (show (0 : Int) < 1048576 by decide)
  have h := zbi (l := a0) (i := 1) (q5u _ hn.1)
  have hb := qod (l := a0) (i := 1) (x := qvl (qa (atI a0 0) 1048576)) ⟨show (-4 : Int) ≤ 4 by decide, show (4 : Int) ≤ 12 by decide⟩ (by show ln [_, _] ≤ 57; simp [ln])
  have hf : Units (qw a0).2 ∧ (∀ s ∈ (qw a0).2, Good s) ∧ ln (qw a0).2 ≤ 58 ∧ (qw a0).1 = (qg4 a0).nm := by
    unfold qw
    split
    · refine ⟨h.1.u.snoc (show (10 : Int) ≠ 4 by decide), qed h.1.g (qrc (by decide)), ?_, rfl⟩
      show ln (_ ++ [_]) ≤ 58
      rw [qas]
      have : ln (qg4 a0).S ≤ 57 := hb.2.1
      omega
    · exact ⟨h.1.u, h.1.g, by have : ln (qg4 a0).S ≤ 57 := hb.2.1; show ln (qg4 a0).S ≤ 58; omega, rfl⟩
  refine ⟨?_, hf.1.jx, fun s hs => hf.2.1 s (qpt hs).1, fun s hs => (qpt hs).2, by have := q30 (qw a0).2; have := hf.2.2.1; show ln (jx _) ≤ 58; omega⟩
  show ju (qw a0).1 = true
  rw [hf.2.2.2]
  show ju (qdd a0 1 _).nm = true
  rw [h.2.1]
  have := k9 (qa1 hn.1 (show (0 : Int) < 16 by decide)).1 (show (0 : Int) < 20 by decide)
  exact qyg ⟨by omega, by omega⟩
end Go.Proofs.YtlkfjinaiepocaaDoor
