/- THE CONDITIONS of class, quoted, plain, Text, own, same hold. -/
import Derived.Test.YtofmpipjklcjhaaDoorVcs
namespace Go.Proofs.YtofmpipjklcjhaaDoor
open Go Go.E2 Go.E3
set_option maxRecDepth 100000
section
set_option maxRecDepth 100000

theorem q1d : ∀ n : Nat, n < 127 → bx [120, 120, 120, 120, 120, 120, 120, 120, 120, 120, 120, 120, 120, 120, 120, 120, 120, 120, 120, 120, 120, 120, 120, 120, 120, 120, 120, 120, 120, 120, 120, 120, 32, 112, 113, 112, 112, 112, 112, 112, 112, 112, 112, 112, 112, 112, 112, 112, 112, 112, 112, 112, 112, 112, 112, 112, 112, 112, 112, 99, 112, 112, 112, 112, 112, 112, 112, 112, 112, 112, 112, 112, 112, 112, 112, 112, 112, 112, 112, 112, 112, 112, 112, 112, 112, 112, 112, 112, 112, 112, 112, 112, 112, 112, 112, 112, 112, 112, 112, 112, 112, 112, 112, 112, 112, 112, 112, 112, 112, 112, 112, 112, 112, 112, 112, 112, 112, 112, 112, 112, 112, 112, 112, 112, 112, 112, 112] (n : Int) = jt n := by decide +kernel

theorem q34 (a0 : Int) (hp : U8 a0) : qv0 a0 := by
  obtain ⟨h0, h1⟩ := hp
  refine ⟨by omega, fun h => ⟨?_, trivial⟩, fun h => ⟨⟨h0, by simp only [ln, List.length_cons, List.length_nil]; omega⟩, ?_, trivial⟩⟩
  · unfold jt; rw [if_pos (by omega)]
  · have := q1d a0.toNat (by omega)
    rwa [show ((a0.toNat : Nat) : Int) = a0 by omega] at this

theorem q2v (a0 : List UInt8) (hp : ln a0 ≤ 1000000000) : qtf a0 := by
  refine ⟨⟨by omega, zp _, fun j h1 h2 => by omega⟩, fun x ⟨h0, h1, h2⟩ => ⟨fun h3 => ⟨⟨h0, h3⟩, q30 a0 x, fun hc => ⟨?_, trivial⟩, fun hc => ⟨fun hd => ⟨?_, trivial⟩, fun hd => ⟨by omega, ⟨by omega, by omega, fun j h4 h5 => ?_⟩, ?_⟩⟩⟩, fun h3 => ⟨?_, trivial⟩⟩⟩
  · exact (qjb h0 h3 (qny.2 (by have := qov.1 hc; omega))).symm
  · exact (qjb h0 h3 (qny.2 (by have := qt9.1 hd; omega))).symm
  · by_cases h : j = x
    · subst h
      rw [qnx]
      have a := mt qov.2 hc
      have b := mt qt9.2 hd
      omega
    · exact h2 j h4 (by omega)
  · simp only [qeh]; omega
  · exact (qet.2 fun i h4 h5 => h2 i h4 (by omega)).symm

theorem q7k {a0 a1 x : List UInt8} {i : Int} {l : List (List UInt8)} (hinv : qga a0 a1 0 (-1) x i l) (h : zh (bx a1 0) x = [x]) :
    i < ln l ∧ upto (l.set i.toNat x) (i + 1) = zh (bx a1 0) a0 := by
  obtain ⟨h0, h1, h2, h3, h4⟩ := hinv
  rw [h] at h2 h3
  have hi : i < ln l := by rw [h1, ← h2]; simp only [ln, List.length_cons, List.length_nil]; omega
  exact ⟨hi, by rw [qxx h0 hi, h3]⟩

theorem q6q {a0 a1 x : List UInt8} {i m : Int} {l : List (List UInt8)} (hinv : qga a0 a1 0 (-1) x i l) (hm : 0 ≤ m) (hml : m < ln x) (h : zh (bx a1 0) x = upto x m :: zh (bx a1 0) (fr x (m + 1))) (hi : i < qlf a0 (bx a1 0)) :
    qga a0 a1 0 (-1) (fr x (m + 1)) (i + 1) (l.set i.toNat (upto x m)) := by
  obtain ⟨h0, h1, h2, h3, h4⟩ := hinv
  rw [h] at h2 h3
  rw [qan] at h2
  refine ⟨by omega, by rw [zah, h1], by omega, ?_, ?_⟩
  · rw [qxx h0 (by rw [h1]; omega), List.append_assoc]
    exact h3
  · rw [q9c (by omega) (by omega)]; omega

theorem qry {l : List UInt8} {a x : Int} (h : qu za l (a + 1) = x) :
    (((0 < a ∧ bx l (a - 1) ≠ 32) ∨ ln l ≤ x ∨ bx l x ≠ 34 ∨ ¬ (ln l ≤ x + 1 ∨ bx l (x + 1) = 32 ∨ bx l (x + 1) = 59)) ∧ kz l a = -1) ∨
    (¬ ((0 < a ∧ bx l (a - 1) ≠ 32) ∨ ln l ≤ x ∨ bx l x ≠ 34 ∨ ¬ (ln l ≤ x + 1 ∨ bx l (x + 1) = 32 ∨ bx l (x + 1) = 59)) ∧ kz l a = x + 1) := by
  unfold kz
  rw [h]
  split
  · rename_i hc
    exact .inl ⟨hc, rfl⟩
  · rename_i hc
    exact .inr ⟨hc, rfl⟩

/-! ### The words of a line -/
theorem qre {out : List Word} {w : Word} {r : List Word × Int} : qg1 out (if r.2 < 0 then (w :: r.1, -1) else ([], r.2)) = qg1 (out ++ [w]) r := by
  unfold qg1
  by_cases h : r.2 < 0
  · rw [if_pos h, if_pos h, if_pos (show (-1 : Int) < 0 by decide), List.append_assoc]; rfl
  · rw [if_neg h, if_neg h, if_neg h]
theorem q3a {out : List Word} : qg1 out ([], -1) = (out, -1) := by simp [qg1]
theorem qtz {out : List Word} {x : Int} (h : 0 ≤ x) : qg1 out ([], x) = ([], x) := by
  unfold qg1; rw [if_neg (by show ¬ x < 0; omega)]

section
variable {l : List UInt8} {f x : Int} {out : List Word} (hi : zw l f 0 = qg1 out (zw l f x))
 include hi
theorem q92 (h0 : 0 ≤ x) (h1 : x < ln l) (h : bx l x = 32) : zw l f 0 = qg1 out (zw l f (x + 1)) := by rw [hi, q1g h0 h1 h]
theorem zcd (h : ln l ≤ x ∨ bx l x = 59) : zw l f 0 = (out, -1) := by rw [hi, q7d h, q3a]
theorem zcc (h0 : 0 ≤ x) (h1 : x < ln l) (h2 : bx l x ≠ 59) (h : (bx l x = 34 ∧ kz l x < 0) ∨ (bx l x ≠ 34 ∧ bx l x ≠ 32 ∧ zg (bx l x) = false)) : zw l f 0 = ([], x) := by rw [hi, q7c h1 h2 h h0, qtz h0]
theorem q94 {a e : Int} (ha : a = f + x) (h0 : 0 ≤ x) (h1 : x < ln l) (h : bx l x = 34) (he : kz l x = e) (h3 : 0 ≤ e) : zw l f 0 = qg1 (out ++ [⟨a, sub l (x + 1) (e - 1), true⟩]) (zw l f e) := by
  rw [hi, q1i h0 h1 h he h3, qre, ha]
theorem q93 {a e : Int} (ha : a = f + x) (h0 : 0 ≤ x) (h1 : x < ln l) (h : zg (bx l x) = true) (he : qu zg l x = e) : zw l f 0 = qg1 (out ++ [⟨a, sub l x e, false⟩]) (zw l f e) := by
  rw [hi, q1h h0 h1 h he, qre, ha]
end

theorem zbh (l : List UInt8) (f i : Int) (h : 0 ≤ i) : (zw l f i).2 = -1 ∨ (0 ≤ (zw l f i).2 ∧ (zw l f i).1 = []) := by
  have hg := qbd (p := zk) (s := l) (i := i)
  fun_induction zw l f i with
  | case1 i h1 => exact .inl rfl
  | case2 i h1 h2 h3 h4 ih => exact .inl rfl
  | case3 i h1 h2 h3 h4 ih => 
    refine .inr ⟨?_, rfl⟩
    show 0 ≤ (zw l f _).2
    omega
  | case4 i h1 h2 h3 => exact .inr ⟨by show 0 ≤ qu zk l i; omega, rfl⟩
  | case5 i h1 h2 h3 h4 h5 ih => exact .inl rfl
  | case6 i h1 h2 h3 h4 h5 ih => 
    refine .inr ⟨?_, rfl⟩
    show 0 ≤ (zw l f _).2
    omega
  | case7 i h1 h2 h3 h4 => exact .inr ⟨by show 0 ≤ qu zk l i; omega, rfl⟩
  | case8 i h1 h2 h3 => exact .inr ⟨by show 0 ≤ qu zk l i; omega, rfl⟩

theorem zb2 {r : List Word × Int} (h : r.2 = -1 ∨ (0 ≤ r.2 ∧ r.1 = [])) : r = qg1 [] r := by
  obtain ⟨a, b⟩ := r
  rcases h with h | ⟨h, h'⟩
  · cases h; rfl
  · cases h'; rw [qtz h]

/-! ### The rows of a text -/
theorem q29 {out : List Row} : qgl out ([], 0, 0) = (out, 0, 0) := by simp [qgl]
theorem qnh {out : List Row} {e x : Int} (h : e ≠ 0) : qgl out ([], e, x) = ([], e, x) := by
  unfold qgl; rw [if_neg h]
theorem zay : ∀ (l : List (List UInt8)) (x : Int), (qal l x).2 = (0, 0) ∨ ((qal l x).2.1 ≠ 0 ∧ (qal l x).1 = [])
  | [], _ => .inl rfl
  | l :: ls, x => by
    unfold qal
    split
    · exact .inr ⟨show (4 : Int) ≠ 0 by decide, rfl⟩
    · split
      · exact .inr ⟨show (3 : Int) ≠ 0 by decide, rfl⟩
      · split
        · exact .inl rfl
        · exact .inr ⟨by assumption, rfl⟩
theorem zb1 {r : List Row × Int × Int} (h : r.2 = (0, 0) ∨ (r.2.1 ≠ 0 ∧ r.1 = [])) : r = qgl [] r := by
  obtain ⟨a, b⟩ := r
  rcases h with h | ⟨h, h'⟩
  · cases h; rfl
  · cases h'; obtain ⟨b, c⟩ := b; rw [qnh h]

/-- One line more. -/
theorem qm9 {L : List (List UInt8)} {line : List UInt8} {out : List Row} {R : List Row × Int × Int} {x : Int} (hi : R = qgl out (qal (line :: L) x)) :
    (1000 < ln line → R = ([], 4, x)) ∧ (ln line ≤ 1000 → 0 ≤ (zw line x 0).2 → R = ([], 3, x + (zw line x 0).2)) ∧
    (ln line ≤ 1000 → (zw line x 0).2 < 0 → R = qgl (if (zw line x 0).1 = [] then out else out ++ [⟨x, (zw line x 0).1⟩]) (qal L (x + ln line + 1))) := by
  subst hi
  refine ⟨fun h => ?_, fun h h1 => ?_, fun h h1 => ?_⟩
  · rw [qal, if_pos h, qnh (by decide)]
  · rw [qal, if_neg (by omega), if_pos h1, qnh (by decide)]
  · rw [qal, if_neg (by omega), if_neg (by omega)]
    by_cases h2 : (qal L (x + ln line + 1)).2.1 = 0
    · rw [if_pos h2]
      unfold qgl
      rw [if_pos rfl, if_pos h2]
      split
      · rfl
      · simp
    · rw [if_neg h2]
      unfold qgl
      rw [if_neg h2, if_neg h2]

theorem q9h {a0 : List UInt8} (h : ln a0 ≤ 20000) : qqs a0 = qal (zh 10 a0) 0 := by unfold qqs; rw [if_neg (by omega)]
theorem zax {a0 : List UInt8} (h : 20000 < ln a0) : qqs a0 = ([], 4, 20000) := by unfold qqs; rw [if_pos h]

/-- One line more, by places of the text. -/
theorem zbw {a0 : List UInt8} {out : List Row} {x y : Int} {R : List Row × Int × Int} (h0 : 0 ≤ x) (h1 : x ≤ y) (h2 : y ≤ ln a0) (hy : qu qi7 a0 x = y) (hi : R = if x ≤ ln a0 then qgl out (qal (zh 10 (fr a0 x)) x) else (out, 0, 0)) :
    (1000 < y - x → R = ([], 4, x)) ∧ (y - x ≤ 1000 → 0 ≤ (zw (sub a0 x y) x 0).2 → R = ([], 3, x + (zw (sub a0 x y) x 0).2)) ∧
    (y - x ≤ 1000 → (zw (sub a0 x y) x 0).2 < 0 → R = if y + 1 ≤ ln a0 then qgl (if (zw (sub a0 x y) x 0).1 = [] then out else out ++ [⟨x, (zw (sub a0 x y) x 0).1⟩]) (qal (zh 10 (fr a0 (y + 1))) (y + 1))
      else (if (zw (sub a0 x y) x 0).1 = [] then out else out ++ [⟨x, (zw (sub a0 x y) x 0).1⟩], 0, 0)) := by
  rw [if_pos (by omega)] at hi
  have hend : y = ln a0 ∨ bx a0 y = 10 := by
    by_cases h : y < ln a0
    · right
      have := qtn (p := qi7) (s := a0) (i := x) h0 (by rw [hy]; exact h)
      rw [hy] at this
      exact qs1.1 this
    · left; omega
  have hall : ∀ j, x ≤ j → j < y → bx a0 j ≠ 10 := fun j h3 h4 => q2g.1 (qtm j h3 (by rw [hy]; exact h4))
  have hs := qtq (c := 10) h0 h1 h2 hall hend
  have hl := qun h0 h1 h2
  by_cases h : y = ln a0
  · rw [if_pos h] at hs
    rw [hs] at hi
    obtain ⟨g1, g2, g3⟩ := qm9 hi
    rw [hl] at g1 g2 g3
    refine ⟨g1, g2, fun h4 h5 => ?_⟩
    rw [if_neg (by omega), g3 h4 h5]
    exact q29
  · rw [if_neg h] at hs
    rw [hs] at hi
    obtain ⟨g1, g2, g3⟩ := qm9 hi
    rw [hl] at g1 g2 g3
    refine ⟨g1, g2, fun h4 h5 => ?_⟩
    rw [if_pos (by omega), g3 h4 h5]
    congr 2
    omega

theorem zdu (l : List UInt8) (f i : Int) (h0 : 0 ≤ i) (h : i ≤ ln l) : (zw l f i).2 ≤ ln l := by
  have hl := zp l
  have hg := qbd (p := zk) (s := l) (i := i)
  have hr := qew (p := zk) (s := l) (i := i) h
  fun_induction zw l f i with
  | case1 i h1 => show (-1 : Int) ≤ _; omega
  | case2 i h1 h2 h3 h4 ih => show (-1 : Int) ≤ _; omega
  | case3 i h1 h2 h3 h4 ih => exact ih (by omega) (by omega) qbd (qew (by omega))
  | case4 i h1 h2 h3 => exact hr
  | case5 i h1 h2 h3 h4 h5 ih => show (-1 : Int) ≤ _; omega
  | case6 i h1 h2 h3 h4 h5 ih => exact ih (by omega) (by omega) qbd (qew (by omega))
  | case7 i h1 h2 h3 h4 => exact hr
  | case8 i h1 h2 h3 => exact hr

theorem zct {α : Type} {l : List α} (h : 0 < ln l) : ¬ l = [] := by rintro rfl; simp [ln] at h
theorem zd6 {a0 : List UInt8} {x y : Int} (h : qu qi7 a0 x = qu qi7 a0 y) (h2 : ln a0 ≤ y ∨ bx a0 y = 10) : qu qi7 a0 x = y :=
  h.trans (qqu (h2.imp id fun h => qs1.2 h))

/-! ### The program's own -/
theorem zb9 {b : Int} (h : jt b = 120) (h0 : 0 ≤ b) : b ≠ 34 ∧ b ≠ 32 ∧ b ≠ 59 ∧ zg b = false := by
  have := qov.1 h
  exact ⟨by omega, by omega, by omega, qza.2 (by omega)⟩
theorem q8x {b : Int} (hx : jt b ≠ 120) (hq : jt b ≠ 113) (h1 : b ≠ 32) (h2 : b ≠ 59) : zg b = true := by
  have h3 := mt qov.2 hx
  have h4 := mt qt9.2 hq
  exact qh0.2 (by omega)

/-- How the program qit a quoted word's end. -/
theorem q9g {l : List UInt8} {x : Int} (h0 : 0 ≤ x) (h1 : x < ln l) :
    (0 < x → bx l (x - 1) ≠ 32 → kz l x = -1) ∧ (qbn (fr l (x + 1)) 34 < 0 → kz l x = -1) ∧
    (0 ≤ qbn (fr l (x + 1)) 34 → x + 1 + qbn (fr l (x + 1)) 34 < ln l ∧ bx l (x + 1 + qbn (fr l (x + 1)) 34) = 34 ∧
      (qx (sub l (x + 1) (x + 1 + qbn (fr l (x + 1)) 34)) = false → kz l x = -1) ∧
      (qx (sub l (x + 1) (x + 1 + qbn (fr l (x + 1)) 34)) = true → (0 < x → bx l (x - 1) = 32) →
        (x + qbn (fr l (x + 1)) 34 + 2 < ln l → bx l (x + qbn (fr l (x + 1)) 34 + 2) ≠ 32 → bx l (x + qbn (fr l (x + 1)) 34 + 2) ≠ 59 → kz l x = -1) ∧
        (ln l ≤ x + qbn (fr l (x + 1)) 34 + 2 ∨ bx l (x + qbn (fr l (x + 1)) 34 + 2) = 32 ∨ bx l (x + qbn (fr l (x + 1)) 34 + 2) = 59 → kz l x = x + qbn (fr l (x + 1)) 34 + 2))) := by
  have hc := qry (l := l) (a := x) rfl
  have hg := qbd (p := za) (s := l) (i := x + 1)
  have hle := qew (p := za) (s := l) (i := x + 1) (by omega)
  have hr := qtn (p := za) (s := l) (i := x + 1) (by omega)
  have hf := q9c (l := l) (i := x + 1) (by omega) (by omega)
  refine ⟨fun h2 h3 => by omega, fun h2 => ?_, fun h2 => ?_⟩
  · have hn := qst (by decide) (by decide) h2
    by_cases hl : ln l ≤ qu za l (x + 1)
    · omega
    · have h3 := hn (qu za l (x + 1) - (x + 1)) (by omega) (by omega)
      rw [q31 (by omega) (by omega), show x + 1 + (qu za l (x + 1) - (x + 1)) = qu za l (x + 1) by omega] at h3
      omega
  · obtain ⟨a1, a2, a3⟩ := qsu (by decide) (by decide) h2
    generalize qbn (fr l (x + 1)) 34 = n at *
    rw [q31 (by omega) h2] at a2
    refine ⟨by omega, a2, fun hq => ?_, fun hq hb => ?_⟩
    · have hlt : qu za l (x + 1) < x + 1 + n := by
        apply Decidable.byContradiction
        intro hge
        have hle2 : x + 1 + n ≤ ln l := by omega
        have : qx (sub l (x + 1) (x + 1 + n)) = true := qet.2 fun i h4 h5 => by
          rw [qun (l := l) (i := x + 1) (j := x + 1 + n) (by omega) (by omega) hle2] at h5
          rw [qye (s := l) (i := x + 1) (j := x + 1 + n) (k := i) (by omega) h4 (by omega)]
          exact qtm (i := x + 1) _ (by omega) (by omega)
        rw [this] at hq
        cases hq
      have h3 := a3 (qu za l (x + 1) - (x + 1)) (by omega) (by omega)
      rw [q31 (by omega) (by omega), show x + 1 + (qu za l (x + 1) - (x + 1)) = qu za l (x + 1) by omega] at h3
      omega
    · have he : qu za l (x + 1) = x + 1 + n := by
        refine q52 (by omega) (by omega) (by omega) (fun j h4 h5 => ?_) (.inr (by rw [a2]; rfl))
        have := qet.1 hq (j - (x + 1)) (by omega) (by rw [qun (by omega) (by omega) (by omega)]; omega)
        rwa [qye (by omega) (by omega) (by omega), show x + 1 + (j - (x + 1)) = j by omega] at this
      rw [he] at hc
      rw [show x + 1 + n + 1 = x + n + 2 by omega] at hc
      rw [show x + 1 + n = x + n + 1 by omega] at *
      constructor <;> intros <;> omega

theorem q6u {c : Int} {s : List UInt8} {k : Int} (h0 : 0 ≤ k) (h : k < ln (zh c s)) : ln (ix (zh c s) k) ≤ ln s := qdm (qcc h0 h)

theorem zaz {L : List (List UInt8)} {k : Int} {out : List Row} {R : List Row × Int × Int} {x : Int} (h0 : 0 ≤ k) (h1 : k < ln L) (hi : R = qgl out (qal (fr L k) x)) :
    (1000 < ln (ix L k) → R = ([], 4, x)) ∧ (ln (ix L k) ≤ 1000 → 0 ≤ (zw (ix L k) x 0).2 → R = ([], 3, x + (zw (ix L k) x 0).2)) ∧
    (ln (ix L k) ≤ 1000 → (zw (ix L k) x 0).2 < 0 → R = qgl (if (zw (ix L k) x 0).1 = [] then out else out ++ [⟨x, (zw (ix L k) x 0).1⟩]) (qal (fr L (k + 1)) (x + (ln (ix L k) + 1)))) := by
  rw [qb1 h0 h1] at hi
  have := qm9 hi
  rwa [Int.add_assoc] at this

theorem zce {l : List UInt8} {f x y : Int} (h0 : 0 ≤ x) (hxy : qu zk l x = qu zk l y) (hy : ln l ≤ y ∨ bx l y ≠ 32) : zw l f x = zw l f y := by
  rw [qdx hy] at hxy
  rw [zw, hxy]
  have e : qu zk l y = y := qdx hy
  exact (by rw [zw, e] : zw l f y = _).symm
theorem zbt {b : Int} (h : jt b ≠ 112) : zg b = false := by rw [← Bool.not_eq_true]; exact mt qt8.2 h

/-! ### Rows that are alike -/
theorem qoe {α : Type} {p : α → α → Bool} : ∀ {a b : List α}, ln a ≠ ln b → jx p a b = false
  | [], [], h => absurd rfl h
  | [], _ :: _, _ => rfl
  | _ :: _, [], _ => rfl
  | _ :: l, _ :: m, h => by
    rw [qan, qan] at h
    rw [jx, qoe (a := l) (b := m) (by omega), Bool.and_false]
theorem qfn {α : Type} [Inhabited α] {p : α → α → Bool} {a b : List α} {x : Int} (h0 : 0 ≤ x) (h1 : x < ln a) (h2 : x < ln b) : jx p (fr a x) (fr b x) = (p (ix a x) (ix b x) && jx p (fr a (x + 1)) (fr b (x + 1))) := by
  rw [qb1 h0 h1, qb1 h0 h2, jx]
theorem qod {α : Type} {p : α → α → Bool} {a b : List α} {x : Int} (h1 : ln a ≤ x) (h2 : ln b ≤ x) : jx p (fr a x) (fr b x) = true := by
  rw [qiu h1, qiu h2, jx]
theorem qh3 {α : Type} {p : α → α → Bool} (hp : ∀ a, p a a = true) : ∀ l : List α, jx p l l = true
  | [] => rfl
  | a :: l => by rw [jx, hp, qh3 hp l]; rfl
theorem qr0 (off : Bool) (w : Word) : ji off w w = true := by simp [ji]
theorem qu6 (off : Bool) (r : Row) : qa7 off r r = true := by simp [qa7, qh3 (qr0 off)]
theorem za0 (l : List Row) (off : Bool) : j9 l l off = true := qh3 (qu6 off) l

section
variable {a0 a1 : List Row} {a2 : Bool} {x y : Int}
theorem qgi (hi : j9 a0 a1 a2 = j9 (fr a0 x) (fr a1 x) a2) (h0 : 0 ≤ x) (h1 : x < ln a0) (h2 : x < ln a1) (h : qa7 a2 (ix a0 x) (ix a1 x) = false) : j9 a0 a1 a2 = false := by
  rw [hi, j9, qfn h0 h1 h2, h]; rfl
theorem qr1 (hi : j9 a0 a1 a2 = j9 (fr a0 x) (fr a1 x) a2) (h0 : 0 ≤ x) (h1 : x < ln a0) (h2 : x < ln a1) (h : qa7 a2 (ix a0 x) (ix a1 x) = true) : j9 a0 a1 a2 = j9 (fr a0 (x + 1)) (fr a1 (x + 1)) a2 := by
  rw [hi, j9, qfn h0 h1 h2, h]; rfl
end
section
variable {a b : Row} {off : Bool} {y : Int}
theorem q8k (h : ln a.Words ≠ ln b.Words) : qa7 off a b = false := by simp only [qa7, decide_eq_false h, Bool.false_and]
theorem zaw (ho : off = true) (h : a.At ≠ b.At) : qa7 off a b = false := by simp [qa7, ho, h]
theorem q2z (h : jx (ji off) a.Words b.Words = false) : qa7 off a b = false := by simp only [qa7, h, Bool.and_false]
theorem q51 (h1 : ln a.Words = ln b.Words) (h2 : off = false ∨ a.At = b.At) (h : jx (ji off) a.Words b.Words = true) : qa7 off a b = true := by
  rcases h2 with h2 | h2
  · subst h2
    simp [qa7, h, h1]
  · simp [qa7, h, h1, h2]
end
theorem q3b {a b : Word} {off : Bool} (h : a.Text ≠ b.Text) : ji off a b = false := by simp [ji, h]
theorem qx0 {a b : Word} {off : Bool} (h : a.Quoted ≠ b.Quoted) : ji off a b = false := by simp [ji, h]
theorem q8v {a b : Word} {off : Bool} (ho : off = true) (h : a.At ≠ b.At) : ji off a b = false := by simp [ji, h, ho]
theorem q3c {a b : Word} {off : Bool} (h1 : a.Text = b.Text) (h2 : a.Quoted = b.Quoted) (h3 : off = false ∨ a.At = b.At) : ji off a b = true := by
  rcases h3 with h3 | h3 <;> simp [ji, h1, h2, h3]

set_option maxHeartbeats 4000000 in
theorem q22 (a0 a1 : List Row) (a2 : Bool) (hp : ln a0 ≤ 1000000000 ∧ (∀ r ∈ a0, ln r.Words ≤ 1000000000)) : qnb a0 a1 a2 := by
  obtain ⟨p1, p2⟩ := hp
  have hl := zp a0
  unfold qnb
  simp only [qb4, qbi, qae, qbj, and_imp]
  unhygienic (repeat' (first | exact trivial | apply And.intro | (intro; intros)))
  all_goals first
    | omega
    | exact (qoe (by omega)).symm
    | exact zp _
    | (have h1 := p2 (ix a0 x1) (qcc (by omega) (by omega)); omega)
    | (have h1 := zp (ix a0 x1).Words; omega)
    | (rw [qe9, qe9]; done)
    | exact (qgi (by assumption) (by omega) (by omega) (by omega) (q8k (by omega))).symm
    | exact (qgi (by assumption) (by omega) (by omega) (by omega) (zaw (by assumption) (by assumption))).symm
    | (refine (qgi (by assumption) (by omega) (by omega) (by omega) (q2z (Eq.trans (by assumption) ((qfn (by omega) (by omega) (by omega)).trans ?_)))).symm
       first
        | (rw [q3b (by assumption)]; rfl)
        | (rw [qx0 (by assumption)]; rfl)
        | (rw [q8v (by assumption) (by assumption)]; rfl))
    | (refine Eq.trans (by assumption) ((qfn (by omega) (by omega) (by omega)).trans ?_)
       rw [q3c (by assumption) (by assumption) (by first | exact .inl (by assumption) | exact .inr (by assumption))]; rfl)
    | exact qr1 (by assumption) (by omega) (by omega) (by omega) (q51 (by omega) (by first | exact .inl (by assumption) | exact .inr (by assumption)) (Eq.trans (by assumption) (qod (by omega) (by omega))))
    | exact (Eq.trans (by assumption) (qod (by omega) (by omega))).symm

/-! ### How many -/
theorem qyh (l : List UInt8) (f i : Int) (h0 : 0 ≤ i) (h : i ≤ ln l) : ln (zw l f i).1 ≤ ln l - i := by
  have hg := qbd (p := zk) (s := l) (i := i)
  have hr := qew (p := zk) (s := l) (i := i) h
  fun_induction zw l f i with
  | case1 i h1 => show ln ([] : List Word) ≤ _; rw [qg3]; omega
  | case2 i h1 h2 h3 h4 ih => 
    have := ih (by omega) (by omega) qbd (qew (by omega))
    show ln (_ :: _) ≤ _
    rw [qan]; omega
  | case3 i h1 h2 h3 h4 ih => show ln ([] : List Word) ≤ _; rw [qg3]; omega
  | case4 i h1 h2 h3 => show ln ([] : List Word) ≤ _; rw [qg3]; omega
  | case5 i h1 h2 h3 h4 h5 ih => 
    have := ih (by omega) (by omega) qbd (qew (by omega))
    show ln (_ :: _) ≤ _
    rw [qan]; omega
  | case6 i h1 h2 h3 h4 h5 ih => show ln ([] : List Word) ≤ _; rw [qg3]; omega
  | case7 i h1 h2 h3 h4 => show ln ([] : List Word) ≤ _; rw [qg3]; omega
  | case8 i h1 h2 h3 => show ln ([] : List Word) ≤ _; rw [qg3]; omega

theorem qxg : ∀ (L : List (List UInt8)) (x : Int), ln (qal L x).1 ≤ ln L ∧ ∀ r ∈ (qal L x).1, ln r.Words ≤ 1000
  | [], x => ⟨Int.le_refl _, fun r h => by cases h⟩
  | l :: L, x => by
    have hn : ln ([] : List Row) ≤ ln (l :: L) ∧ ∀ r ∈ ([] : List Row), ln r.Words ≤ 1000 := ⟨by rw [qg3]; exact zp _, fun r h => by cases h⟩
    have ih := qxg L (x + ln l + 1)
    unfold qal
    split
    · exact hn
    · split
      · exact hn
      · rename_i h1 h2
        have hw := qyh l x 0 (Int.le_refl 0) (zp l)
        split
        · split
          · exact ⟨by rw [qan]; show ln (qal L _).1 ≤ _; omega, ih.2⟩
          · refine ⟨by show ln (_ :: _) ≤ _; rw [qan, qan]; omega, fun r hr => ?_⟩
            rcases List.mem_cons.1 hr with rfl | hr
            · show ln (zw l x 0).1 ≤ 1000; omega
            · exact ih.2 r hr
        · exact hn

theorem zc6 (a0 : List UInt8) : ln (qqs a0).1 ≤ 20001 ∧ ∀ r ∈ (qqs a0).1, ln r.Words ≤ 1000 := by
  unfold qqs
  split
  · exact ⟨by show ln ([] : List Row) ≤ _; rw [qg3]; omega, fun r h => by cases h⟩
  · have h1 := qxg (zh 10 a0) 0
    have h2 := q2a (s := a0) (c := 10) (by decide) (by decide)
    have h3 := q6z a0 10
    exact ⟨by omega, h1.2⟩
end
section
set_option maxRecDepth 100000

theorem q9r {b : Int} (h : jt b = 112) : zg b = true := qt8.1 h
theorem q6y {b : Int} (h : jt b ≠ 112) : zg b = false := by rw [← Bool.not_eq_true]; exact fun hp => h (qt8.2 hp)

theorem q2s (a0 : List UInt8) (hp : ln a0 ≤ 1000000000) : qtc a0 := by
  refine ⟨⟨by omega, zp _, fun j h1 h2 => by omega⟩, fun x ⟨h0, h1, h2⟩ => ⟨fun h3 => ⟨⟨h0, h3⟩, q30 a0 x, fun hc => ⟨?_, trivial⟩, fun hc => ⟨⟨by omega, by omega⟩, ⟨by omega, by omega, fun j h4 h5 => ?_⟩, ?_⟩⟩, fun h3 => ⟨?_, trivial⟩⟩⟩
  · exact (qqj h0 h3 (q6y hc)).symm
  · by_cases h : j = x
    · subst h
      exact q9r hc
    · exact h2 j h4 (by omega)
  · simp only [qeg]; omega
  · have ha : (a0.all fun b => zg b.toNat) = true := by
      rw [List.all_eq_true]
      intro b hb
      obtain ⟨i, h4, h5, rfl⟩ := qqd hb
      exact h2 i h4 (by omega)
    simp only [zd, ha, Bool.true_and]
    by_cases h : a0 = [] <;> simp [h]

theorem q8o {a b : Int} (hb : 0 < b) : -b < Int.tmod a b ∧ Int.tmod a b < b := by
  by_cases h : 0 ≤ a
  · exact ⟨by have := Int.tmod_nonneg b h; omega, Int.tmod_lt_of_pos a hb⟩
  · have h1 : Int.tmod a b = -Int.tmod (-a) b := by rw [Int.neg_tmod, Int.neg_neg]
    have h2 := Int.tmod_nonneg b (show 0 ≤ -a by omega)
    have h3 := Int.tmod_lt_of_pos (-a) hb
    omega
theorem q70 {a b : Int} (hb : 0 < b) : 0 ≤ qfh a b ∧ qfh a b < b := by
  have := q8o (a := a) hb
  unfold qfh
  split
  · omega
  · split <;> omega

section
variable {a0 : List Row} {i k b : Int} {x : List UInt8}

theorem q6a (h : qm a0 i x) (hi : i < ln a0) : qf a0 = qd8 x (ix a0 i :: fr a0 (i + 1)) := by
  obtain ⟨h0, h1, h2, h3⟩ := h
  rw [← h3, qb1 h0 hi]

theorem tA (h : qm a0 i x) (hi : i < ln a0) (hz : ln (ix a0 i).Words = 0) : qf a0 = ([], 3) := by
  rw [q6a h hi]
  have hn : (ix a0 i).Words = [] := qup (by omega)
  simp only [qd8, hn, if_true]

theorem all_false {ws : List Word} {k : Int} (h0 : 0 ≤ k) (hk : k < ln ws) (h : okW (ix ws k) = false) : ws.all okW = false := by
  rw [← Bool.not_eq_true, List.all_eq_true]
  intro ha
  rw [ha _ (qcc h0 hk)] at h
  cases h

theorem ne_nil {α : Type} {l : List α} {k : Int} (h0 : 0 ≤ k) (h : k < ln l) : l ≠ [] := by
  rintro rfl
  simp only [ln, List.length_nil] at h
  omega

theorem q0w {out : List UInt8} (h1 : qd8 out (fr a0 i) = qf a0) (h0 : 0 ≤ i) (hi : i < ln a0) (hk0 : 0 ≤ k) (hk : k < ln (ix a0 i).Words) (hw : okW (ix (ix a0 i).Words k) = false) : qf a0 = ([], 3) := by
  rw [← h1, qb1 h0 hi]
  simp only [qd8, if_neg (ne_nil hk0 hk), all_false hk0 hk hw, if_true]

theorem okq {w : Word} (h : w.Quoted = true) (hq : qx w.Text = false) : okW w = false := by simp [okW, h, hq]
theorem okp {w : Word} (h : w.Quoted = false) (hq : zd w.Text = false) : okW w = false := by simp [okW, h, hq]
theorem zc1 {w : Word} (h : w.Quoted = true) (hq : qx w.Text = true) : okW w = true := by simp [okW, h, hq]
theorem zc0 {w : Word} (h : w.Quoted = false) (hq : zd w.Text = true) : okW w = true := by simp [okW, h, hq]

theorem tBq (h : qm a0 i x) (hi : i < ln a0) (hk : 0 < ln (ix a0 i).Words) (h1 : (ix (ix a0 i).Words 0).Quoted = true) (h2 : qx (ix (ix a0 i).Words 0).Text = false) : qf a0 = ([], 3) :=
  q0w h.2.2.2 h.1 hi (Int.le_refl 0) hk (okq h1 h2)
theorem tBp (h : qm a0 i x) (hi : i < ln a0) (hk : 0 < ln (ix a0 i).Words) (h1 : (ix (ix a0 i).Words 0).Quoted = false) (h2 : zd (ix (ix a0 i).Words 0).Text = false) : qf a0 = ([], 3) :=
  q0w h.2.2.2 h.1 hi (Int.le_refl 0) hk (okp h1 h2)
theorem tCq (h : qa a0 k x i b) (hk : k < ln (ix a0 i).Words) (h1 : (ix (ix a0 i).Words k).Quoted = true) (h2 : qx (ix (ix a0 i).Words k).Text = false) : qf a0 = ([], 3) := by
  obtain ⟨a1, a2, a3, a4, a5, a6, out, a7, a8, a9, a10⟩ := h
  exact q0w a8 a1 a2 (by omega) hk (okq h1 h2)
theorem tCp (h : qa a0 k x i b) (hk : k < ln (ix a0 i).Words) (h1 : (ix (ix a0 i).Words k).Quoted = false) (h2 : zd (ix (ix a0 i).Words k).Text = false) : qf a0 = ([], 3) := by
  obtain ⟨a1, a2, a3, a4, a5, a6, out, a7, a8, a9, a10⟩ := h
  exact q0w a8 a1 a2 (by omega) hk (okp h1 h2)

theorem qxw {ws : List Word} (h : 0 < ln ws) : upto ws 1 = [ix ws 0] := by
  have := qft (l := ws) (i := 0) (Int.le_refl 0) h
  rw [qhd] at this
  exact this

/-- The first word of a row. -/
theorem tD (h : qm a0 i x) (hi : i < ln a0) (hk : 0 < ln (ix a0 i).Words) (hw : okW (ix (ix a0 i).Words 0) = true) (hb : ln x = b) {y : List UInt8} (hy : y = x ++ qdq (ix (ix a0 i).Words 0)) : qa a0 1 y i b := by
  obtain ⟨h0, h1, h2, h3⟩ := h
  have := zp x
  refine ⟨h0, hi, Int.le_refl 1, by omega, by omega, by omega, x, hb, h3, ?_, ?_⟩
  · rw [qxw hk, hy]
    simp [qdh, qq8]
  · rw [qxw hk]
    simp [hw]
theorem tDq (h : qm a0 i x) (hi : i < ln a0) (hk : 0 < ln (ix a0 i).Words) (h1 : (ix (ix a0 i).Words 0).Quoted = true) (h2 : qx (ix (ix a0 i).Words 0).Text = true) (hb : ln x = b) :
    qa a0 1 (x ++ ((([34] : List UInt8) ++ (ix (ix a0 i).Words 0).Text) ++ ([34] : List UInt8))) i b :=
  tD h hi hk (zc1 h1 h2) hb (by simp [qdq, h1])
theorem tDp (h : qm a0 i x) (hi : i < ln a0) (hk : 0 < ln (ix a0 i).Words) (h1 : (ix (ix a0 i).Words 0).Quoted = false) (h2 : zd (ix (ix a0 i).Words 0).Text = true) (hb : ln x = b) :
    qa a0 1 (x ++ (ix (ix a0 i).Words 0).Text) i b :=
  tD h hi hk (zc0 h1 h2) hb (by simp [qdq, h1])

/-- One word more. -/
theorem tE (h : qa a0 k x i b) (hk : k < ln (ix a0 i).Words) (hw : okW (ix (ix a0 i).Words k) = true) {y : List UInt8} (hy : y = (x ++ [(UInt8.ofNat (Int.toNat (32)))]) ++ qdq (ix (ix a0 i).Words k)) : qa a0 (k + 1) y i b := by
  obtain ⟨a1, a2, a3, a4, a5, a6, out, a7, a8, a9, a10⟩ := h
  have hne : upto (ix a0 i).Words k ≠ [] := ne_nil (k := 0) (Int.le_refl 0) (by rw [qo0 (by omega) a4]; omega)
  refine ⟨a1, a2, by omega, by omega, a5, a6, out, a7, a8, ?_, ?_⟩
  · rw [qft (by omega) hk, qqa hne, hy, a9]
    simp only [List.append_assoc]
    rfl
  · rw [qft (by omega) hk, List.all_append, a10]
    simp [hw]
theorem tEq (h : qa a0 k x i b) (hk : k < ln (ix a0 i).Words) (h1 : (ix (ix a0 i).Words k).Quoted = true) (h2 : qx (ix (ix a0 i).Words k).Text = true) :
    qa a0 (k + 1) ((x ++ [(UInt8.ofNat (Int.toNat (32)))]) ++ ((([34] : List UInt8) ++ (ix (ix a0 i).Words k).Text) ++ ([34] : List UInt8))) i b :=
  tE h hk (zc1 h1 h2) (by simp [qdq, h1])
theorem tEp (h : qa a0 k x i b) (hk : k < ln (ix a0 i).Words) (h1 : (ix (ix a0 i).Words k).Quoted = false) (h2 : zd (ix (ix a0 i).Words k).Text = true) :
    qa a0 (k + 1) ((x ++ [(UInt8.ofNat (Int.toNat (32)))]) ++ (ix (ix a0 i).Words k).Text) i b :=
  tE h hk (zc0 h1 h2) (by simp [qdq, h1])
theorem tEm {y : List UInt8} (hk : k < ln (ix a0 i).Words) : qb a0 (k + 1) y i b < qb a0 k x i b := by simp only [qb]; omega
theorem zez (h : qa a0 k x i b) (hk : k ≤ 0) {p : Prop} : p := by
  have := h.2.2.1
  omega

/-- A row's end. -/
theorem tF (h : qa a0 k x i b) (hk : ln (ix a0 i).Words ≤ k) : ∃ out, ln out = b ∧ ln (qdh (ix a0 i).Words) = ln x - b ∧ x = out ++ qdh (ix a0 i).Words ∧
    qf a0 = if 1000 < ln x - b then ([], 4) else if 20000 < ln (x ++ ([10] : List UInt8)) then ([], 4) else qd8 (x ++ ([10] : List UInt8)) (fr a0 (i + 1)) := by
  obtain ⟨a1, a2, a3, a4, a5, a6, out, a7, a8, a9, a10⟩ := h
  have he : upto (ix a0 i).Words k = (ix a0 i).Words := qrd hk
  rw [he] at a9 a10
  have hl : ln (qdh (ix a0 i).Words) = ln x - b := by rw [a9, k8]; omega
  refine ⟨out, a7, hl, a9, ?_⟩
  rw [← a8, qb1 a1 a2]
  simp only [qd8, if_neg (ne_nil (k := 0) (Int.le_refl 0) (show (0 : Int) < ln (ix a0 i).Words by omega)), a10, Bool.true_eq_false, if_false, hl, ← a9]
theorem tF1 (h : qa a0 k x i b) (hk : ln (ix a0 i).Words ≤ k) (h1 : 1000 < ln x - b) : qf a0 = ([], 4) := by
  obtain ⟨out, e1, e2, e3, e4⟩ := tF h hk
  rw [e4, if_pos h1]
theorem tF2 (h : qa a0 k x i b) (hk : ln (ix a0 i).Words ≤ k) (h1 : ln x - b ≤ 1000) (h2 : 20000 < ln (x ++ [(UInt8.ofNat (Int.toNat (10)))])) : qf a0 = ([], 4) := by
  obtain ⟨out, e1, e2, e3, e4⟩ := tF h hk
  rw [e4, if_neg (by omega)]
  exact if_pos h2
theorem tF3 (h : qa a0 k x i b) (hk : ln (ix a0 i).Words ≤ k) (h1 : ln x - b ≤ 1000) (h2 : ln (x ++ [(UInt8.ofNat (Int.toNat (10)))]) ≤ 20000) : qm a0 (i + 1) (x ++ [(UInt8.ofNat (Int.toNat (10)))]) := by
  obtain ⟨out, e1, e2, e3, e4⟩ := tF h hk
  have h2' : ¬ 20000 < ln (x ++ ([10] : List UInt8)) := by
    have : ln (x ++ ([10] : List UInt8)) = ln (x ++ [(UInt8.ofNat (Int.toNat (10)))]) := rfl
    omega
  obtain ⟨a1, a2, _⟩ := h
  refine ⟨by omega, by omega, h2, ?_⟩
  rw [e4, if_neg (by omega), if_neg h2']
  rfl
theorem tFm {y : List UInt8} (h : qm a0 i x) (hi : i < ln a0) : qz a0 (i + 1) y < qz a0 i x := by simp only [qz]; omega
/-- The end. -/
theorem tG (h : qm a0 i x) (hi : ln a0 ≤ i) : qf a0 = (x, 0) := by
  obtain ⟨h0, h1, h2, h3⟩ := h
  rw [← h3, qiu hi]
  rfl
theorem ln0 : ln ([] : List UInt8) = 0 := rfl
theorem zex (h : qm a0 0 []) (hi : 0 < ln a0) (hk : 0 < ln (ix a0 0).Words) (h1 : (ix (ix a0 0).Words 0).Quoted = true) (h2 : qx (ix (ix a0 0).Words 0).Text = true) :
    qa a0 1 (([] : List UInt8) ++ ((([34] : List UInt8) ++ (ix (ix a0 0).Words 0).Text) ++ ([34] : List UInt8))) 0 0 := tDq h hi hk h1 h2 rfl
theorem zew (h : qm a0 0 []) (hi : 0 < ln a0) (hk : 0 < ln (ix a0 0).Words) (h1 : (ix (ix a0 0).Words 0).Quoted = false) (h2 : zd (ix (ix a0 0).Words 0).Text = true) :
    qa a0 1 (([] : List UInt8) ++ (ix (ix a0 0).Words 0).Text) 0 0 := tDp h hi hk h1 h2 rfl
theorem zba : qm a0 0 [] := ⟨Int.le_refl 0, zp _, by decide, by rw [qe9]; rfl⟩
/-- What fits. -/
theorem qwm (hp : qez a0) (h0 : 0 ≤ i) (hi : i < ln a0) (hk0 : 0 ≤ k) (hk : k < ln (ix a0 i).Words) : ln (ix (ix a0 i).Words k).Text ≤ 100000 := (hp.2 _ (qcc h0 hi)).2 _ (qcc hk0 hk)
theorem q0b (hp : qez a0) (h0 : 0 ≤ i) (hi : i < ln a0) : ln (ix a0 i).Words ≤ 1000 := (hp.2 _ (qcc h0 hi)).1
theorem q4e (hp : qez a0) (h : qa a0 k x i b) : ln x ≤ 200000000 ∧ 0 ≤ b ∧ b ≤ 20000 := by
  obtain ⟨a1, a2, a3, a4, a5, a6, out, a7, a8, a9, a10⟩ := h
  have hr := q0b hp a1 a2
  have hj := q4w (ws := upto (ix a0 i).Words k) fun w hw => (hp.2 _ (qcc a1 a2)).2 w (List.mem_of_mem_take hw)
  rw [qo0 (by omega) a4] at hj
  rw [a9, k8]
  omega
theorem qyn (hp : qez a0) (h : qm a0 i x) (hi : i < ln a0) (hk : 0 < ln (ix a0 i).Words) : ln (ix (ix a0 i).Words 0).Text ≤ 100000 := qwm hp h.1 hi (Int.le_refl 0) hk
theorem qyo (hp : qez a0) (h : qa a0 k x i b) (hk : k < ln (ix a0 i).Words) : ln (ix (ix a0 i).Words k).Text ≤ 100000 := qwm hp h.1 h.2.1 (by have := h.2.2.1; omega) hk
theorem q43 (h : qa a0 k x i b) : 0 ≤ i ∧ i < ln a0 ∧ 1 ≤ k ∧ k ≤ ln (ix a0 i).Words := ⟨h.1, h.2.1, h.2.2.1, h.2.2.2.1⟩
theorem qww (h : qm a0 i x) : 0 ≤ i ∧ i ≤ ln a0 ∧ ln x ≤ 20000 ∧ 0 ≤ ln x := ⟨h.1, h.2.1, h.2.2.1, zp _⟩
end

theorem qiv {α β : Type} {p : α × β} {a : α} {b : β} (h : p = (a, b)) : a = p.1 := by rw [h]
theorem qjg {α β : Type} {p : α × β} {a : α} {b : β} (h : p = (a, b)) : b = p.2 := by rw [h]
theorem wn {i n : Int} (h : 0 ≤ i) (h' : i < n) : Wn i n := ⟨h, h'⟩
theorem zat {α : Type} {l : List α} (h : ln l ≠ 0) : 0 < ln l := by
  have := zp l
  omega
theorem q73 {α : Type} {l : List α} {p : Prop} (h : ln l ≤ 0) (h' : ln l ≠ 0) : p := by
  have := zat h'
  omega
theorem i64 {n : Int} (h : -9000000000000000000 ≤ n) (h' : n ≤ 9000000000000000000) : I64 n := ⟨by omega, by omega⟩
theorem zet {α : Type} {x y : List α} (hx : ln x ≤ 300000000) (hy : ln y ≤ 300000000) : qj (x.length + y.length) := by
  simp only [ln, qj] at *
  omega
section
variable {a0 : List Row} {i k b : Int} {x : List UInt8}
theorem bx0 (h : qm a0 i x) : ln x ≤ 300000000 := by
  have := h.2.2.1
  omega
theorem bx1 (hp : qez a0) (h : qa a0 k x i b) : ln x ≤ 300000000 := by
  have := q4e hp h
  omega
theorem bx2 {u : UInt8} (hp : qez a0) (h : qa a0 k x i b) : ln (x ++ [u]) ≤ 300000000 := by
  have := q4e hp h
  rw [qum]
  omega
theorem bt0 (hp : qez a0) (h : qm a0 i x) (hi : i < ln a0) (hk : 0 < ln (ix a0 i).Words) : ln (ix (ix a0 i).Words 0).Text ≤ 300000000 := by
  have := qyn hp h hi hk
  omega
theorem bt1 (hp : qez a0) (h : qa a0 k x i b) (hk : k < ln (ix a0 i).Words) : ln (ix (ix a0 i).Words k).Text ≤ 300000000 := by
  have := qyo hp h hk
  omega
theorem zen (h : qa a0 k x i b) : 0 ≤ k := by
  have := h.2.2.1
  omega
theorem zey (h : qa a0 k x 0 b) (hk : ln (ix a0 0).Words ≤ k) (h1 : ln x - b ≤ 1000) (h2 : ln (x ++ [(UInt8.ofNat (Int.toNat (10)))]) ≤ 20000) : qm a0 1 (x ++ [(UInt8.ofNat (Int.toNat (10)))]) := tF3 h hk h1 h2
theorem zb7 (h : qm a0 i x) : ln x ≤ 140737488355328 := by
  have := h.2.2.1
  omega
theorem big {n : Int} (h : n ≤ 300000000) : n ≤ 1000000000 := by omega
theorem bq1 {t : List UInt8} (h : ln t ≤ 100000) : ln (([34] : List UInt8) ++ t) ≤ 300000000 := by
  rw [k8]
  have : ln ([34] : List UInt8) = 1 := rfl
  omega
theorem bq2 {t : List UInt8} (h : ln t ≤ 100000) : ln ((([34] : List UInt8) ++ t) ++ ([34] : List UInt8)) ≤ 300000000 := by
  rw [k8, k8]
  have : ln ([34] : List UInt8) = 1 := rfl
  omega
theorem b34 : ln ([34] : List UInt8) ≤ 300000000 := by decide
theorem q9o {u : UInt8} : ln [u] ≤ 300000000 := by
  have : ln [u] = 1 := rfl
  omega
theorem q9n : ln ([] : List UInt8) ≤ 300000000 := by decide
theorem qul (hp : qez a0) (h : qa a0 k x i b) : I64 (ln x - b) := by
  have := q4e hp h
  have := zp x
  exact i64 (by omega) (by omega)
theorem q4x (hp : qez a0) (h : qa a0 k x i b) : I64 (k + 1) := by
  have := q0b hp h.1 h.2.1
  have := h.2.2.1
  have := h.2.2.2.1
  exact i64 (by omega) (by omega)
theorem q4p (hp : qez a0) (h : qm a0 i x) : I64 (i + 1) := by
  have := hp.1
  have := h.1
  have := h.2.1
  exact i64 (by omega) (by omega)
end

set_option maxHeartbeats 8000000 in
theorem q3q (a0 : List Row) (hp : qez a0) : qo8 a0 := by
  have hs : qm a0 0 [] := zba
  unfold qo8
  unhygienic (repeat' (first | with_reducible exact trivial | with_reducible rfl | with_reducible apply And.intro | (intro; intros)))
  all_goals first
    | assumption
    | with_reducible exact zez (by assumption) (by assumption)
    | with_reducible exact q73 (by assumption) (by assumption)
    | with_reducible exact qiv (tA (by assumption) (by assumption) (by assumption)) | with_reducible exact qjg (tA (by assumption) (by assumption) (by assumption))
    | with_reducible exact qiv (tBq (by assumption) (by assumption) (by assumption) (by assumption) (by assumption)) | with_reducible exact qjg (tBq (by assumption) (by assumption) (by assumption) (by assumption) (by assumption))
    | with_reducible exact qiv (tBp (by assumption) (by assumption) (by assumption) (by assumption) (by assumption)) | with_reducible exact qjg (tBp (by assumption) (by assumption) (by assumption) (by assumption) (by assumption))
    | with_reducible exact qiv (tCq (by assumption) (by assumption) (by assumption) (by assumption)) | with_reducible exact qjg (tCq (by assumption) (by assumption) (by assumption) (by assumption))
    | with_reducible exact qiv (tCp (by assumption) (by assumption) (by assumption) (by assumption)) | with_reducible exact qjg (tCp (by assumption) (by assumption) (by assumption) (by assumption))
    | with_reducible exact qiv (tF1 (by assumption) (by assumption) (by assumption)) | with_reducible exact qjg (tF1 (by assumption) (by assumption) (by assumption))
    | with_reducible exact qiv (tF2 (by assumption) (by assumption) (by assumption) (by assumption)) | with_reducible exact qjg (tF2 (by assumption) (by assumption) (by assumption) (by assumption))
    | with_reducible exact qiv (tG (by assumption) (by assumption)) | with_reducible exact qjg (tG (by assumption) (by assumption))
    | with_reducible exact tDq (by assumption) (by assumption) (by assumption) (by assumption) (by assumption) (by with_reducible rfl)
    | with_reducible exact tDp (by assumption) (by assumption) (by assumption) (by assumption) (by assumption) (by with_reducible rfl)
    | with_reducible exact zex (by assumption) (by assumption) (by assumption) (by assumption) (by assumption)
    | with_reducible exact zew (by assumption) (by assumption) (by assumption) (by assumption) (by assumption)
    | with_reducible exact tEq (by assumption) (by assumption) (by assumption) (by assumption)
    | with_reducible exact tEp (by assumption) (by assumption) (by assumption) (by assumption)
    | with_reducible exact tEm (by assumption)
    | with_reducible exact tF3 (by assumption) (by assumption) (by assumption) (by assumption)
    | with_reducible exact tFm (by assumption) (by assumption)
    | with_reducible exact wn (by decide) (by assumption)
    | with_reducible exact wn (qww (by assumption)).1 (by assumption)
    | with_reducible exact wn (Int.le_trans (by decide) (q43 (by assumption)).2.2.1) (by assumption)
    | with_reducible exact zet (by first | with_reducible exact q9n | with_reducible exact b34 | with_reducible exact q9o | with_reducible exact bx0 (by assumption) | with_reducible exact bx1 (by assumption) (by assumption) | with_reducible exact bx2 (by assumption) (by assumption) | with_reducible exact bt0 (by assumption) (by assumption) (by assumption) (by assumption) | with_reducible exact bt1 (by assumption) (by assumption) (by assumption) | with_reducible exact bq1 (qyn (by assumption) (by assumption) (by assumption) (by assumption)) | with_reducible exact bq1 (qyo (by assumption) (by assumption) (by assumption)) | with_reducible exact bq2 (qyn (by assumption) (by assumption) (by assumption) (by assumption)) | with_reducible exact bq2 (qyo (by assumption) (by assumption) (by assumption))) (by first | with_reducible exact q9n | with_reducible exact b34 | with_reducible exact q9o | with_reducible exact bx0 (by assumption) | with_reducible exact bx1 (by assumption) (by assumption) | with_reducible exact bx2 (by assumption) (by assumption) | with_reducible exact bt0 (by assumption) (by assumption) (by assumption) (by assumption) | with_reducible exact bt1 (by assumption) (by assumption) (by assumption) | with_reducible exact bq1 (qyn (by assumption) (by assumption) (by assumption) (by assumption)) | with_reducible exact bq1 (qyo (by assumption) (by assumption) (by assumption)) | with_reducible exact bq2 (qyn (by assumption) (by assumption) (by assumption) (by assumption)) | with_reducible exact bq2 (qyo (by assumption) (by assumption) (by assumption)))
    | with_reducible exact big (by first | with_reducible exact q9n | with_reducible exact b34 | with_reducible exact q9o | with_reducible exact bx0 (by assumption) | with_reducible exact bx1 (by assumption) (by assumption) | with_reducible exact bx2 (by assumption) (by assumption) | with_reducible exact bt0 (by assumption) (by assumption) (by assumption) (by assumption) | with_reducible exact bt1 (by assumption) (by assumption) (by assumption) | with_reducible exact bq1 (qyn (by assumption) (by assumption) (by assumption) (by assumption)) | with_reducible exact bq1 (qyo (by assumption) (by assumption) (by assumption)) | with_reducible exact bq2 (qyn (by assumption) (by assumption) (by assumption) (by assumption)) | with_reducible exact bq2 (qyo (by assumption) (by assumption) (by assumption)))
    | with_reducible exact qul (by assumption) (by assumption)
    | with_reducible exact q4x (by assumption) (by assumption)
    | with_reducible exact q4p (by assumption) (by assumption)
    | decide
    | with_reducible exact (q4x (by assumption) (by assumption)).1
    | with_reducible exact (q4x (by assumption) (by assumption)).2
    | with_reducible exact (q4p (by assumption) (by assumption)).1
    | with_reducible exact (q4p (by assumption) (by assumption)).2
    | with_reducible exact (qul (by assumption) (by assumption)).1
    | with_reducible exact (qul (by assumption) (by assumption)).2
    | with_reducible exact zen (by assumption)
    | with_reducible exact (qww (by assumption)).1
    | with_reducible exact zey (by assumption) (by assumption) (by assumption) (by assumption)
    | with_reducible exact zb7 (by assumption)
    | skip

/-! ### Rows made of numbers -/
section
variable {a0 : List Int} {i : Int} {out : List Row} {ws : List Word}

theorem zbc : ln z8 = 13 := by decide
theorem ze8 {n : Int} : 0 ≤ qfh n (ln z8) ∧ qfh n (ln z8) < ln z8 := q70 (by rw [zbc]; decide)
theorem mw1 {n : Int} (h : ix z8 (qfh n (ln z8)) = []) : Word.mk 0 (ix z8 (qfh n (ln z8))) true = qgy n := by
  have h' : txt n = [] := h
  show Word.mk 0 (txt n) true = _
  simp [qgy, h']
theorem mw2 {n : Int} (h : ix z8 (qfh n (ln z8)) = [97, 32, 98]) : Word.mk 0 (ix z8 (qfh n (ln z8))) true = qgy n := by
  have h' : txt n = [97, 32, 98] := h
  show Word.mk 0 (txt n) true = _
  simp [qgy, h']
theorem mw3 {n : Int} (h : ix z8 (qfh n (ln z8)) = [120, 59]) : Word.mk 0 (ix z8 (qfh n (ln z8))) true = qgy n := by
  have h' : txt n = [120, 59] := h
  show Word.mk 0 (txt n) true = _
  simp [qgy, h']
theorem mw4 {n : Int} (h1 : ix z8 (qfh n (ln z8)) ≠ []) (h2 : ix z8 (qfh n (ln z8)) ≠ [97, 32, 98]) (h3 : ix z8 (qfh n (ln z8)) ≠ [120, 59]) : Word.mk 0 (ix z8 (qfh n (ln z8))) (decide ((qfh (Int.tdiv n 16) 4) = 0)) = qgy n := by
  have h1' : txt n ≠ [] := h1
  have h2' : txt n ≠ [97, 32, 98] := h2
  have h3' : txt n ≠ [120, 59] := h3
  show Word.mk 0 (txt n) _ = _
  simp [qgy, h1', h2', h3']

theorem mS (h : k7 a0 i out ws) (hi : i < ln a0) (ho : ln out < 12) {w : Word} (hw : w = qgy (ix a0 i)) (hc : ln (ws ++ [w]) = 8 ∨ qfh (Int.tdiv (ix a0 i) 64) 3 = 0) : k7 a0 (i + 1) (out ++ [⟨0, ws ++ [w]⟩]) [] := by
  obtain ⟨h0, h1, h2, h3, h4⟩ := h
  subst hw
  refine ⟨by omega, by omega, by rw [qum]; omega, by decide, ?_⟩
  rw [← h4, qb1 h0 hi]
  simp only [qko, if_neg (show ¬ 12 ≤ ln out by omega), if_pos hc]
theorem mT (h : k7 a0 i out ws) (hi : i < ln a0) (ho : ln out < 12) {w : Word} (hw : w = qgy (ix a0 i)) (hc : ln (ws ++ [w]) ≠ 8) (hc' : qfh (Int.tdiv (ix a0 i) 64) 3 ≠ 0) : k7 a0 (i + 1) out (ws ++ [w]) := by
  obtain ⟨h0, h1, h2, h3, h4⟩ := h
  subst hw
  refine ⟨by omega, by omega, h2, ?_, ?_⟩
  · rw [qum] at hc ⊢
    omega
  · rw [← h4, qb1 h0 hi]
    simp only [qko, if_neg (show ¬ 12 ≤ ln out by omega), if_neg (show ¬ (ln (ws ++ [qgy (ix a0 i)]) = 8 ∨ qfh (Int.tdiv (ix a0 i) 64) 3 = 0) from fun h => h.elim hc hc')]
theorem mM {o' : List Row} {w' : List Word} (hi : i < ln a0) : qi5 a0 (i + 1) o' w' < qi5 a0 i out ws := by simp only [qi5]; omega
theorem zcs (h : k7 a0 i out ws) (hc : 12 ≤ ln out ∨ ln a0 ≤ i) : q0m a0 = if ws = [] then out else out ++ [⟨0, ws⟩] := by
  obtain ⟨h0, h1, h2, h3, h4⟩ := h
  rw [← h4]
  by_cases hi : i < ln a0
  · rw [qb1 h0 hi]
    simp only [qko, if_pos (show 12 ≤ ln out by omega)]
  · rw [qiu (by omega)]
    rfl
theorem mE1 (h : k7 a0 i out ws) (hc : 12 ≤ ln out ∨ ln a0 ≤ i) (hw : 0 < ln ws) : out ++ [⟨0, ws⟩] = q0m a0 := by
  rw [zcs h hc, if_neg (ne_nil (k := 0) (Int.le_refl 0) hw)]
theorem mE2 (h : k7 a0 i out ws) (hc : 12 ≤ ln out ∨ ln a0 ≤ i) (hw : ln ws ≤ 0) : out = q0m a0 := by
  rw [zcs h hc, if_pos (qup hw)]
theorem mStart : k7 a0 0 [] [] := ⟨Int.le_refl 0, zp _, by decide, by decide, by rw [qe9]; rfl⟩
theorem mI (hp : q81 a0) (h : k7 a0 i out ws) (hi : i < ln a0) : -9223372036854775808 ≤ i + 1 ∧ i + 1 ≤ 9223372036854775807 := by
  have := hp.1
  have := h.1
  omega
theorem mb1 (h : k7 a0 i out ws) : ln ws ≤ 300000000 := by
  have := h.2.2.2.1
  omega
theorem mb2 (h : k7 a0 i out ws) : ln out ≤ 300000000 := by
  have := h.2.2.1
  omega
theorem zde {n k : Int} (hn : I64 n) (hk : 0 < k) : -9223372036854775808 ≤ Int.tdiv n k ∧ Int.tdiv n k ≤ 9223372036854775807 := by
  obtain ⟨h1, h2⟩ := hn
  by_cases h : 0 ≤ n
  · have := Int.tdiv_nonneg h (show 0 ≤ k by omega)
    have := Int.tdiv_le_self k h
    omega
  · have e : Int.tdiv n k = -Int.tdiv (-n) k := by rw [Int.neg_tdiv, Int.neg_neg]
    have := Int.tdiv_nonneg (show 0 ≤ -n by omega) (show 0 ≤ k by omega)
    have := Int.tdiv_le_self k (show 0 ≤ -n by omega)
    omega
theorem mD (hp : q81 a0) (h : k7 a0 i out ws) (hi : i < ln a0) {k : Int} (hk : 0 < k) : -9223372036854775808 ≤ Int.tdiv (ix a0 i) k ∧ Int.tdiv (ix a0 i) k ≤ 9223372036854775807 :=
  zde (hp.2 _ (qcc h.1 hi)) hk
theorem b1 {α : Type} {u : α} : ln [u] ≤ 300000000 := by
  have : ln [u] = 1 := rfl
  omega
theorem i0 (h : k7 a0 i out ws) : 0 ≤ i := h.1
end
end
section
theorem q5l {l : List Row} : ln (qie l) = ln l := by simp [ln, qie]
theorem zap (a0 : List Row) (hp : qez a0) : qy9 a0 := by
  unfold qy9
  refine ⟨⟨Int.le_refl 0, zp _, by rw [qhd]; rfl⟩, fun x0 x1 ⟨h1, h2, h3⟩ => ⟨fun h => ?_, fun h => ⟨?_, trivial⟩⟩⟩
  · have hr := (hp.2 _ (qcc h1 h)).1
    have hx : ln x1 = x0 := by rw [h3, q5l, qo0 h1 h2]
    have h0 := hp.1
    refine ⟨⟨h1, h⟩, ⟨h1, h⟩, ?_, trivial, ?_, ⟨by omega, by omega⟩, ⟨by omega, by omega, ?_⟩, ?_⟩
    · simp only [ln, qj, List.length_nil] at *; omega
    · exact qzl (by omega)
    · rw [qft h1 h, h3]; simp [qie]
    · show (ln a0 - (x0 + 1)).toNat < (ln a0 - x0).toNat; omega
  · rw [h3, qrd h]
end
end Go.Proofs.YtofmpipjklcjhaaDoor
