/- THE CONDITIONS of the law WordsLoose, of At and of own hold. -/
import Derived.Test.YtofmpipjklcjhaaDoorPlainL
namespace Go.Proofs.YtofmpipjklcjhaaDoor
open Go Go.E2 Go.E3
set_option maxRecDepth 100000

theorem At_ok (a0 : List Int) (a1 : Int) (hp : ln a0 ≤ 9223372036854775807) : At_VC a0 a1 := by
  unfold At_VC
  refine ⟨fun h => ⟨?_, trivial⟩, fun h => ⟨fun h' => ⟨?_, trivial⟩, fun h' => ⟨⟨h, h'⟩, ?_, trivial⟩⟩⟩
  · unfold atI; rw [if_pos (.inl h)]
  · unfold atI; rw [if_pos (.inr h')]
  · unfold atI; rw [if_neg (by omega)]

theorem ownR_len {l : List Row} : ln (ownR l) = ln l := by simp [ln, ownR]
theorem own_ok (a0 : List Row) (hp : fitR a0) : own_VC a0 := by
  unfold own_VC
  refine ⟨⟨Int.le_refl 0, ln_nonneg _, by rw [upto_zero]; rfl⟩, fun x0 x1 ⟨h1, h2, h3⟩ => ⟨fun h => ?_, fun h => ⟨?_, trivial⟩⟩⟩
  · have hr := (hp.2 _ (ix_mem h1 h)).1
    have hx : ln x1 = x0 := by rw [h3, ownR_len, ln_upto h1 h2]
    have h0 := hp.1
    refine ⟨⟨h1, h⟩, ⟨h1, h⟩, ?_, trivial, ?_, ⟨by omega, by omega⟩, ⟨by omega, by omega, ?_⟩, ?_⟩
    · simp only [ln, Short, List.length_nil] at *; omega
    · exact short_snoc (by omega)
    · rw [upto_succ h1 h, h3]; simp [ownR]
    · show (ln a0 - (x0 + 1)).toNat < (ln a0 - x0).toNat; omega
  · rw [h3, upto_all h]

def okRows (l : List Row) : Prop := (∀ r ∈ l, gm r) ∧ ln l ≤ 6
theorem strip_own (l : List Row) : (ownR l).map stripR = l.map stripR := by simp [ownR, stripR, Function.comp_def]
theorem loose_len (g : List Int) : ∀ (l : List Row) (i : Int), (∀ r ∈ l, gm r) → ln (looseT g i l) ≤ 100 * ln l
  | [], _, _ => by simp [looseT, ln]
  | r :: rs, i, h => by
    have h1 := loose_len g rs (i + 1) fun r' hr' => h r' (List.mem_cons_of_mem _ hr')
    have h2 := (gm_good (h r List.mem_cons_self)).2
    have ha : ix gapA (modI (atI g i) 5) ∈ gapA := ix_mem (at5 g i).1 (at5 g i).2
    have hb : ix gapB (modI (atI g (i + 7)) 5) ∈ gapB := ix_mem (at5 g (i + 7)).1 (at5 g (i + 7)).2
    have ha' : ∀ x ∈ gapA, ln x ≤ 8 := by decide
    have hb' : ∀ x ∈ gapB, ln x ≤ 7 := by decide
    have h3 := ha' _ ha
    have h4 := hb' _ hb
    have h10 : ln ([10] : List UInt8) = 1 := rfl
    rw [looseT, ln_append, ln_cons]
    unfold chunkT
    rw [ln_append, ln_append, ln_append]
    omega
theorem one_row {l : List Row} {i : Int} (h0 : 0 ≤ i) (h : i < ln l) : sub l i (i + 1) = [ix l i] := by
  rw [sub_fr h0 (by omega), fr_cons h0 h, show i + 1 - i = 1 by omega]
  rfl

theorem text_one {r : Row} (h : gm r) : textW [r] = (joinT r.Words ++ ([10] : List UInt8), 0) := by
  obtain ⟨g, g4⟩ := gm_good h
  have e : linesT [r] = joinT r.Words ++ ([10] : List UInt8) := by simp [linesT]
  have := (written_read (rows := [r]) (fun r' hr => by rw [List.mem_singleton.1 hr]; exact g) (by rw [e, ln_append]; have h10 : ln ([10] : List UInt8) = 1 := rfl; omega)).1
  rw [this, e]

theorem body_ok (a0 a1 a2 : List Int) (l m : List Row) (h2 : goodL a2) (hl : okRows l) (hm : okRows m) : looseBody a0 a1 a2 l m := by
  have hfit : ∀ {l : List Row}, okRows l → fitR l := fun {l} h => ⟨by have := h.2; omega, fun r hr => ⟨by have := (h.1 r hr).2.1; omega, fun w hw => by have := ((h.1 r hr).2.2 w hw).2; show ln w.Text ≤ 100000; omega⟩⟩
  have ga : ln gapA = 5 := rfl
  have gb : ln gapB = 5 := rfl
  have h10 : ln ([10] : List UInt8) = 1 := rfl
  have sh : ∀ {x y : List UInt8}, ln x ≤ 100000 → ln y ≤ 100000 → Short (x.length + y.length) := fun h h' => short_app (by omega)
  unfold looseBody
  refine ⟨⟨Int.le_refl 0, ln_nonneg _, by decide, by rw [fr_zero]; rfl⟩, fun x2 x3 ⟨i0, i1, i2, i3⟩ => ⟨fun h => ?_, fun h => ?_⟩⟩
  · have hr := hl.1 _ (ix_mem i0 h)
    have ht := text_one hr
    have h80 := (gm_good hr).2
    have hl6 := hl.2
    rw [one_row i0 h, ht]
    have hA : ix gapA (modI (atI a2 x2) 5) ∈ gapA := ix_mem (at5 a2 x2).1 (at5 a2 x2).2
    have hB : ix gapB (modI (atI a2 (x2 + 7)) 5) ∈ gapB := ix_mem (at5 a2 (x2 + 7)).1 (at5 a2 (x2 + 7)).2
    have hA' : ∀ x ∈ gapA, ln x ≤ 8 := by decide
    have hB' : ∀ x ∈ gapB, ln x ≤ 7 := by decide
    have hA2 := hA' _ hA
    have hB2 := hB' _ hB
    have hj := ln_nonneg (joinT (ix l x2).Words)
    have he : ln (joinT (ix l x2).Words ++ ([10] : List UInt8)) - 1 = ln (joinT (ix l x2).Words) := by rw [ln_append]; omega
    have hu : upto (joinT (ix l x2).Words ++ ([10] : List UInt8)) (ln (joinT (ix l x2).Words)) = joinT (ix l x2).Words := upto_left
    have hch : (((x3 ++ ix gapA (modI (atI a2 x2) 5)) ++ joinT (ix l x2).Words) ++ ix gapB (modI (atI a2 (x2 + 7)) 5)) ++ ([10] : List UInt8) = x3 ++ chunkT a2 x2 (ix l x2) := by simp [chunkT]
    have hclen : ln (chunkT a2 x2 (ix l x2)) ≤ 100 := by
      unfold chunkT
      rw [ln_append, ln_append, ln_append]
      omega
    simp only [he, hu]
    rw [hch]
    refine ⟨⟨by omega, by omega⟩, ⟨by omega, by omega, by omega⟩, ?_, fun h => absurd rfl h, fun _ => ⟨fun h => ?_, fun _ => ⟨h2.1, ⟨by decide, by decide⟩, trivial, trivial, trivial, trivial, trivial, at5 _ _, sh (by omega) (by omega), ⟨by omega, by omega⟩, ⟨by omega, by rw [ln_append]; omega⟩, sh (by rw [ln_append]; omega) (by omega),
      trivial, trivial, trivial, trivial, trivial, ⟨by omega, by omega⟩, h2.1, ⟨by decide, by decide⟩, at5 _ _, sh (by rw [ln_append, ln_append]; omega) (by omega), sh (by rw [ln_append, ln_append, ln_append]; omega) (by omega), ⟨by omega, by omega⟩, ⟨by omega, by omega, ?_, ?_⟩, ?_⟩⟩⟩
    · refine hfit ⟨fun r hr' => ?_, by show (1 : Int) ≤ 6; decide⟩
      rw [List.mem_singleton.1 hr']
      exact hr
    · exfalso
      have := congrArg ln h
      rw [ln_append] at this
      have hz : ln ([] : List UInt8) = 0 := rfl
      omega
    · rw [ln_append]; omega
    · rw [List.append_assoc, ← i3, fr_cons i0 h]
      rfl
    · show (ln l - (x2 + 1)).toNat < (ln l - x2).toNat
      omega
  · have hx : x3 = looseT a2 0 l := by
      rw [← i3, fr_all h]
      simp [looseT]
    have hll := loose_len a2 l 0 hl.1
    have hl6 := hl.2
    have hm6 := hm.2
    have hlm := lines10 hm.1
    obtain ⟨w1, _⟩ := written_read (rows := m) (fun r hr => (gm_good (hm.1 r hr)).1) (by omega)
    obtain ⟨r1, e1, e2⟩ := loose_read a2 hl.1 (by omega)
    obtain ⟨r2, f1, f2⟩ := loose_two a2 hl.1 hm.1 (by rw [ln_append, ln_append]; omega)
    have hb1 := rowsR_bd (looseT a2 0 l)
    have hb2 := rowsR_bd ((looseT a2 0 l ++ ([10] : List UInt8)) ++ linesT m)
    rw [e1] at hb1
    rw [f1] at hb2
    have hle : ∀ {l : List Row}, ln l ≤ 20001 → (∀ r ∈ l, ln r.Words ≤ 1000) → ln l ≤ 1000000000 ∧ ∀ r ∈ l, ln r.Words ≤ 1000000000 := fun h1 h2 => ⟨by omega, fun r hr => by have := h2 r hr; omega⟩
    have s1 : sameR r1 l false = true := same_strip e2
    have s2 : sameR r2 (ownR l ++ m) false = true := same_strip (by rw [f2, List.map_append, strip_own])
    subst hx
    rw [w1]
    simp only [e1, f1, s1, s2]
    refine ⟨trivial, hfit hm, sh (by omega) (by omega), sh (by rw [ln_append]; omega) (by omega), trivial, fun _ => ⟨fun _ => ⟨fun _ => ⟨fun _ => ⟨hle hb1.1 hb1.2, fun _ => ⟨hfit hl, ?_, hle hb2.1 hb2.2, trivial, trivial⟩, fun h => by cases h⟩, fun h => absurd rfl h⟩, fun h => absurd rfl h⟩, fun h => absurd rfl h⟩, fun h => by cases h⟩
    exact short_app (by rw [ownR_len]; omega)

theorem made6 (ns : List Int) : (∀ r ∈ madeR ns, gm r) := (madeGo_good ns [] [] (fun r h => by cases h) (by decide) (fun r h => by cases h) (by decide)).1
theorem up6 {ns : List Int} (h : 6 < ln (madeR ns)) : okRows (upto (madeR ns) 6) := ⟨fun r hr => made6 ns r (List.mem_of_mem_take hr), by rw [ln_upto (by decide) (by omega)]; decide⟩
theorem lo6 {ns : List Int} (h : ln (madeR ns) ≤ 6) : okRows (madeR ns) := ⟨made6 ns, h⟩

theorem lawLoose_ok (a0 a1 a2 : List Int) (hp : goodL a0 ∧ goodL a1 ∧ goodL a2) : lawLoose_VC a0 a1 a2 := by
  obtain ⟨p0, p1, p2⟩ := hp
  unfold lawLoose_VC
  exact ⟨trivial, p0, p1, fun h => ⟨⟨by decide, by omega⟩, fun h' => ⟨⟨by decide, by omega⟩, body_ok a0 a1 a2 _ _ p2 (up6 h) (up6 h')⟩, fun h' => body_ok a0 a1 a2 _ _ p2 (up6 h) (lo6 h')⟩,
    fun h => ⟨fun h' => ⟨⟨by decide, by omega⟩, body_ok a0 a1 a2 _ _ p2 (lo6 h) (up6 h')⟩, fun h' => body_ok a0 a1 a2 _ _ p2 (lo6 h) (lo6 h')⟩⟩
end Go.Proofs.YtofmpipjklcjhaaDoor
