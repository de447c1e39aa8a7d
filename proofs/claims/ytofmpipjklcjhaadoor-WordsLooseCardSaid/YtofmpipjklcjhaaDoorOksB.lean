/- THE CONDITIONS of the functions that write rows hold. -/
import Derived.Test.YtofmpipjklcjhaaDoorVcs
namespace Go.Proofs.YtofmpipjklcjhaaDoor
open Go Go.E2 Go.E3
set_option maxRecDepth 100000

theorem classP {b : Int} (h : classI b = 112) : plainI b = true := class_p.1 h
theorem classNP {b : Int} (h : classI b ≠ 112) : plainI b = false := by rw [← Bool.not_eq_true]; exact fun hp => h (class_p.2 hp)

theorem plainW_ok (a0 : List UInt8) (hp : ln a0 ≤ 1000000000) : plainW_VC a0 := by
  refine ⟨⟨by omega, ln_nonneg _, fun j h1 h2 => by omega⟩, fun x ⟨h0, h1, h2⟩ => ⟨fun h3 => ⟨⟨h0, h3⟩, bx_bd a0 x, fun hc => ⟨?_, trivial⟩, fun hc => ⟨⟨by omega, by omega⟩, ⟨by omega, by omega, fun j h4 h5 => ?_⟩, ?_⟩⟩, fun h3 => ⟨?_, trivial⟩⟩⟩
  · exact (plainB_not h0 h3 (classNP hc)).symm
  · by_cases h : j = x
    · subst h
      exact classP hc
    · exact h2 j h4 (by omega)
  · simp only [minv_plainW_0]; omega
  · have ha : (a0.all fun b => plainI b.toNat) = true := by
      rw [List.all_eq_true]
      intro b hb
      obtain ⟨i, h4, h5, rfl⟩ := mem_ix hb
      exact h2 i h4 (by omega)
    simp only [plainB, ha, Bool.true_and]
    by_cases h : a0 = [] <;> simp [h]

theorem tmod_bd {a b : Int} (hb : 0 < b) : -b < Int.tmod a b ∧ Int.tmod a b < b := by
  by_cases h : 0 ≤ a
  · exact ⟨by have := Int.tmod_nonneg b h; omega, Int.tmod_lt_of_pos a hb⟩
  · have h1 : Int.tmod a b = -Int.tmod (-a) b := by rw [Int.neg_tmod, Int.neg_neg]
    have h2 := Int.tmod_nonneg b (show 0 ≤ -a by omega)
    have h3 := Int.tmod_lt_of_pos (-a) hb
    omega
theorem modI_bd {a b : Int} (hb : 0 < b) : 0 ≤ modI a b ∧ modI a b < b := by
  have := tmod_bd (a := a) hb
  unfold modI
  split
  · omega
  · split <;> omega

theorem Mod_ok (a0 a1 : Int) (hp : (0 : Int) < a1 ∧ a1 ≤ 1000) : Mod_VC a0 a1 := by
  have := tmod_bd (a := a0) hp.1
  refine ⟨fun h => by omega, fun _ => ⟨by omega, fun h => ⟨⟨by omega, by omega⟩, ?_, trivial⟩, fun h => ⟨?_, trivial⟩⟩⟩
  · unfold modI; rw [if_neg (by omega), if_pos h]
  · unfold modI; rw [if_neg (by omega), if_neg (by omega)]

section
variable {a0 : List Row} {i k b : Int} {x : List UInt8}

theorem text_row (h : inv_TextW_0 a0 i x) (hi : i < ln a0) : textW a0 = textGo x (ix a0 i :: fr a0 (i + 1)) := by
  obtain ⟨h0, h1, h2, h3⟩ := h
  rw [← h3, fr_cons h0 hi]

theorem tA (h : inv_TextW_0 a0 i x) (hi : i < ln a0) (hz : ln (ix a0 i).Words = 0) : textW a0 = ([], 3) := by
  rw [text_row h hi]
  have hn : (ix a0 i).Words = [] := ln_zero (by omega)
  simp only [textGo, hn, if_true]

theorem all_false {ws : List Word} {k : Int} (h0 : 0 ≤ k) (hk : k < ln ws) (h : okW (ix ws k) = false) : ws.all okW = false := by
  rw [← Bool.not_eq_true, List.all_eq_true]
  intro ha
  rw [ha _ (ix_mem h0 hk)] at h
  cases h

theorem ne_nil {α : Type} {l : List α} {k : Int} (h0 : 0 ≤ k) (h : k < ln l) : l ≠ [] := by
  rintro rfl
  simp only [ln, List.length_nil] at h
  omega

theorem t_bad {out : List UInt8} (h1 : textGo out (fr a0 i) = textW a0) (h0 : 0 ≤ i) (hi : i < ln a0) (hk0 : 0 ≤ k) (hk : k < ln (ix a0 i).Words) (hw : okW (ix (ix a0 i).Words k) = false) : textW a0 = ([], 3) := by
  rw [← h1, fr_cons h0 hi]
  simp only [textGo, if_neg (ne_nil hk0 hk), all_false hk0 hk hw, if_true]

theorem okq {w : Word} (h : w.Quoted = true) (hq : quotedB w.Text = false) : okW w = false := by simp [okW, h, hq]
theorem okp {w : Word} (h : w.Quoted = false) (hq : plainB w.Text = false) : okW w = false := by simp [okW, h, hq]
theorem okqt {w : Word} (h : w.Quoted = true) (hq : quotedB w.Text = true) : okW w = true := by simp [okW, h, hq]
theorem okpt {w : Word} (h : w.Quoted = false) (hq : plainB w.Text = true) : okW w = true := by simp [okW, h, hq]

theorem tBq (h : inv_TextW_0 a0 i x) (hi : i < ln a0) (hk : 0 < ln (ix a0 i).Words) (h1 : (ix (ix a0 i).Words 0).Quoted = true) (h2 : quotedB (ix (ix a0 i).Words 0).Text = false) : textW a0 = ([], 3) :=
  t_bad h.2.2.2 h.1 hi (Int.le_refl 0) hk (okq h1 h2)
theorem tBp (h : inv_TextW_0 a0 i x) (hi : i < ln a0) (hk : 0 < ln (ix a0 i).Words) (h1 : (ix (ix a0 i).Words 0).Quoted = false) (h2 : plainB (ix (ix a0 i).Words 0).Text = false) : textW a0 = ([], 3) :=
  t_bad h.2.2.2 h.1 hi (Int.le_refl 0) hk (okp h1 h2)
theorem tCq (h : inv_TextW_1 a0 k x i b) (hk : k < ln (ix a0 i).Words) (h1 : (ix (ix a0 i).Words k).Quoted = true) (h2 : quotedB (ix (ix a0 i).Words k).Text = false) : textW a0 = ([], 3) := by
  obtain ⟨a1, a2, a3, a4, a5, a6, out, a7, a8, a9, a10⟩ := h
  exact t_bad a8 a1 a2 (by omega) hk (okq h1 h2)
theorem tCp (h : inv_TextW_1 a0 k x i b) (hk : k < ln (ix a0 i).Words) (h1 : (ix (ix a0 i).Words k).Quoted = false) (h2 : plainB (ix (ix a0 i).Words k).Text = false) : textW a0 = ([], 3) := by
  obtain ⟨a1, a2, a3, a4, a5, a6, out, a7, a8, a9, a10⟩ := h
  exact t_bad a8 a1 a2 (by omega) hk (okp h1 h2)

theorem upto_one {ws : List Word} (h : 0 < ln ws) : upto ws 1 = [ix ws 0] := by
  have := upto_succ (l := ws) (i := 0) (Int.le_refl 0) h
  rw [upto_zero] at this
  exact this

/-- The first word of a row. -/
theorem tD (h : inv_TextW_0 a0 i x) (hi : i < ln a0) (hk : 0 < ln (ix a0 i).Words) (hw : okW (ix (ix a0 i).Words 0) = true) (hb : ln x = b) {y : List UInt8} (hy : y = x ++ wordT (ix (ix a0 i).Words 0)) : inv_TextW_1 a0 1 y i b := by
  obtain ⟨h0, h1, h2, h3⟩ := h
  have := ln_nonneg x
  refine ⟨h0, hi, Int.le_refl 1, by omega, by omega, by omega, x, hb, h3, ?_, ?_⟩
  · rw [upto_one hk, hy]
    simp [joinT, tailT]
  · rw [upto_one hk]
    simp [hw]
theorem tDq (h : inv_TextW_0 a0 i x) (hi : i < ln a0) (hk : 0 < ln (ix a0 i).Words) (h1 : (ix (ix a0 i).Words 0).Quoted = true) (h2 : quotedB (ix (ix a0 i).Words 0).Text = true) (hb : ln x = b) :
    inv_TextW_1 a0 1 (x ++ ((([34] : List UInt8) ++ (ix (ix a0 i).Words 0).Text) ++ ([34] : List UInt8))) i b :=
  tD h hi hk (okqt h1 h2) hb (by simp [wordT, h1])
theorem tDp (h : inv_TextW_0 a0 i x) (hi : i < ln a0) (hk : 0 < ln (ix a0 i).Words) (h1 : (ix (ix a0 i).Words 0).Quoted = false) (h2 : plainB (ix (ix a0 i).Words 0).Text = true) (hb : ln x = b) :
    inv_TextW_1 a0 1 (x ++ (ix (ix a0 i).Words 0).Text) i b :=
  tD h hi hk (okpt h1 h2) hb (by simp [wordT, h1])

/-- One word more. -/
theorem tE (h : inv_TextW_1 a0 k x i b) (hk : k < ln (ix a0 i).Words) (hw : okW (ix (ix a0 i).Words k) = true) {y : List UInt8} (hy : y = (x ++ [(UInt8.ofNat (Int.toNat (32)))]) ++ wordT (ix (ix a0 i).Words k)) : inv_TextW_1 a0 (k + 1) y i b := by
  obtain ⟨a1, a2, a3, a4, a5, a6, out, a7, a8, a9, a10⟩ := h
  have hne : upto (ix a0 i).Words k ≠ [] := ne_nil (k := 0) (Int.le_refl 0) (by rw [ln_upto (by omega) a4]; omega)
  refine ⟨a1, a2, by omega, by omega, a5, a6, out, a7, a8, ?_, ?_⟩
  · rw [upto_succ (by omega) hk, joinT_snoc hne, hy, a9]
    simp only [List.append_assoc]
    rfl
  · rw [upto_succ (by omega) hk, List.all_append, a10]
    simp [hw]
theorem tEq (h : inv_TextW_1 a0 k x i b) (hk : k < ln (ix a0 i).Words) (h1 : (ix (ix a0 i).Words k).Quoted = true) (h2 : quotedB (ix (ix a0 i).Words k).Text = true) :
    inv_TextW_1 a0 (k + 1) ((x ++ [(UInt8.ofNat (Int.toNat (32)))]) ++ ((([34] : List UInt8) ++ (ix (ix a0 i).Words k).Text) ++ ([34] : List UInt8))) i b :=
  tE h hk (okqt h1 h2) (by simp [wordT, h1])
theorem tEp (h : inv_TextW_1 a0 k x i b) (hk : k < ln (ix a0 i).Words) (h1 : (ix (ix a0 i).Words k).Quoted = false) (h2 : plainB (ix (ix a0 i).Words k).Text = true) :
    inv_TextW_1 a0 (k + 1) ((x ++ [(UInt8.ofNat (Int.toNat (32)))]) ++ (ix (ix a0 i).Words k).Text) i b :=
  tE h hk (okpt h1 h2) (by simp [wordT, h1])
theorem tEm {y : List UInt8} (hk : k < ln (ix a0 i).Words) : minv_TextW_1 a0 (k + 1) y i b < minv_TextW_1 a0 k x i b := by simp only [minv_TextW_1]; omega
theorem tPos (h : inv_TextW_1 a0 k x i b) (hk : k ≤ 0) {p : Prop} : p := by
  have := h.2.2.1
  omega

/-- A row's end. -/
theorem tF (h : inv_TextW_1 a0 k x i b) (hk : ln (ix a0 i).Words ≤ k) : ∃ out, ln out = b ∧ ln (joinT (ix a0 i).Words) = ln x - b ∧ x = out ++ joinT (ix a0 i).Words ∧
    textW a0 = if 1000 < ln x - b then ([], 4) else if 20000 < ln (x ++ ([10] : List UInt8)) then ([], 4) else textGo (x ++ ([10] : List UInt8)) (fr a0 (i + 1)) := by
  obtain ⟨a1, a2, a3, a4, a5, a6, out, a7, a8, a9, a10⟩ := h
  have he : upto (ix a0 i).Words k = (ix a0 i).Words := upto_all hk
  rw [he] at a9 a10
  have hl : ln (joinT (ix a0 i).Words) = ln x - b := by rw [a9, ln_append]; omega
  refine ⟨out, a7, hl, a9, ?_⟩
  rw [← a8, fr_cons a1 a2]
  simp only [textGo, if_neg (ne_nil (k := 0) (Int.le_refl 0) (show (0 : Int) < ln (ix a0 i).Words by omega)), a10, Bool.true_eq_false, if_false, hl, ← a9]
theorem tF1 (h : inv_TextW_1 a0 k x i b) (hk : ln (ix a0 i).Words ≤ k) (h1 : 1000 < ln x - b) : textW a0 = ([], 4) := by
  obtain ⟨out, e1, e2, e3, e4⟩ := tF h hk
  rw [e4, if_pos h1]
theorem tF2 (h : inv_TextW_1 a0 k x i b) (hk : ln (ix a0 i).Words ≤ k) (h1 : ln x - b ≤ 1000) (h2 : 20000 < ln (x ++ [(UInt8.ofNat (Int.toNat (10)))])) : textW a0 = ([], 4) := by
  obtain ⟨out, e1, e2, e3, e4⟩ := tF h hk
  rw [e4, if_neg (by omega)]
  exact if_pos h2
theorem tF3 (h : inv_TextW_1 a0 k x i b) (hk : ln (ix a0 i).Words ≤ k) (h1 : ln x - b ≤ 1000) (h2 : ln (x ++ [(UInt8.ofNat (Int.toNat (10)))]) ≤ 20000) : inv_TextW_0 a0 (i + 1) (x ++ [(UInt8.ofNat (Int.toNat (10)))]) := by
  obtain ⟨out, e1, e2, e3, e4⟩ := tF h hk
  have h2' : ¬ 20000 < ln (x ++ ([10] : List UInt8)) := by
    have : ln (x ++ ([10] : List UInt8)) = ln (x ++ [(UInt8.ofNat (Int.toNat (10)))]) := rfl
    omega
  obtain ⟨a1, a2, _⟩ := h
  refine ⟨by omega, by omega, h2, ?_⟩
  rw [e4, if_neg (by omega), if_neg h2']
  rfl
theorem tFm {y : List UInt8} (h : inv_TextW_0 a0 i x) (hi : i < ln a0) : minv_TextW_0 a0 (i + 1) y < minv_TextW_0 a0 i x := by simp only [minv_TextW_0]; omega
/-- The end. -/
theorem tG (h : inv_TextW_0 a0 i x) (hi : ln a0 ≤ i) : textW a0 = (x, 0) := by
  obtain ⟨h0, h1, h2, h3⟩ := h
  rw [← h3, fr_all hi]
  rfl
theorem tDq0 (h : inv_TextW_0 a0 0 []) (hi : 0 < ln a0) (hk : 0 < ln (ix a0 0).Words) (h1 : (ix (ix a0 0).Words 0).Quoted = true) (h2 : quotedB (ix (ix a0 0).Words 0).Text = true) :
    inv_TextW_1 a0 1 (([] : List UInt8) ++ ((([34] : List UInt8) ++ (ix (ix a0 0).Words 0).Text) ++ ([34] : List UInt8))) 0 0 := tDq h hi hk h1 h2 rfl
theorem tDp0 (h : inv_TextW_0 a0 0 []) (hi : 0 < ln a0) (hk : 0 < ln (ix a0 0).Words) (h1 : (ix (ix a0 0).Words 0).Quoted = false) (h2 : plainB (ix (ix a0 0).Words 0).Text = true) :
    inv_TextW_1 a0 1 (([] : List UInt8) ++ (ix (ix a0 0).Words 0).Text) 0 0 := tDp h hi hk h1 h2 rfl
theorem tStart : inv_TextW_0 a0 0 [] := ⟨Int.le_refl 0, ln_nonneg _, by decide, by rw [fr_zero]; rfl⟩
/-- What fits. -/
theorem fit_word (hp : fitR a0) (h0 : 0 ≤ i) (hi : i < ln a0) (hk0 : 0 ≤ k) (hk : k < ln (ix a0 i).Words) : ln (ix (ix a0 i).Words k).Text ≤ 100000 := (hp.2 _ (ix_mem h0 hi)).2 _ (ix_mem hk0 hk)
theorem fit_row (hp : fitR a0) (h0 : 0 ≤ i) (hi : i < ln a0) : ln (ix a0 i).Words ≤ 1000 := (hp.2 _ (ix_mem h0 hi)).1
theorem fit_x (hp : fitR a0) (h : inv_TextW_1 a0 k x i b) : ln x ≤ 200000000 ∧ 0 ≤ b ∧ b ≤ 20000 := by
  obtain ⟨a1, a2, a3, a4, a5, a6, out, a7, a8, a9, a10⟩ := h
  have hr := fit_row hp a1 a2
  have hj := joinT_bd (ws := upto (ix a0 i).Words k) fun w hw => (hp.2 _ (ix_mem a1 a2)).2 w (List.mem_of_mem_take hw)
  rw [ln_upto (by omega) a4] at hj
  rw [a9, ln_append]
  omega
theorem fit0 (hp : fitR a0) (h : inv_TextW_0 a0 i x) (hi : i < ln a0) (hk : 0 < ln (ix a0 i).Words) : ln (ix (ix a0 i).Words 0).Text ≤ 100000 := fit_word hp h.1 hi (Int.le_refl 0) hk
theorem fit1 (hp : fitR a0) (h : inv_TextW_1 a0 k x i b) (hk : k < ln (ix a0 i).Words) : ln (ix (ix a0 i).Words k).Text ≤ 100000 := fit_word hp h.1 h.2.1 (by have := h.2.2.1; omega) hk
theorem lt_of_i1 (h : inv_TextW_1 a0 k x i b) : 0 ≤ i ∧ i < ln a0 ∧ 1 ≤ k ∧ k ≤ ln (ix a0 i).Words := ⟨h.1, h.2.1, h.2.2.1, h.2.2.2.1⟩
theorem lt_of_i0 (h : inv_TextW_0 a0 i x) : 0 ≤ i ∧ i ≤ ln a0 ∧ ln x ≤ 20000 ∧ 0 ≤ ln x := ⟨h.1, h.2.1, h.2.2.1, ln_nonneg _⟩
end

theorem fst_of {α β : Type} {p : α × β} {a : α} {b : β} (h : p = (a, b)) : a = p.1 := by rw [h]
theorem snd_of {α β : Type} {p : α × β} {a : α} {b : β} (h : p = (a, b)) : b = p.2 := by rw [h]
theorem wn {i n : Int} (h : 0 ≤ i) (h' : i < n) : Wn i n := ⟨h, h'⟩
theorem pos_of {α : Type} {l : List α} (h : ln l ≠ 0) : 0 < ln l := by
  have := ln_nonneg l
  omega
theorem noWords {α : Type} {l : List α} {p : Prop} (h : ln l ≤ 0) (h' : ln l ≠ 0) : p := by
  have := pos_of h'
  omega
theorem i64 {n : Int} (h : -9000000000000000000 ≤ n) (h' : n ≤ 9000000000000000000) : I64 n := ⟨by omega, by omega⟩
theorem sh_x {α : Type} {x y : List α} (hx : ln x ≤ 300000000) (hy : ln y ≤ 300000000) : Short (x.length + y.length) := by
  simp only [ln, Short] at *
  omega
section
variable {a0 : List Row} {i k b : Int} {x : List UInt8}
theorem bx0 (h : inv_TextW_0 a0 i x) : ln x ≤ 300000000 := by
  have := h.2.2.1
  omega
theorem bx1 (hp : fitR a0) (h : inv_TextW_1 a0 k x i b) : ln x ≤ 300000000 := by
  have := fit_x hp h
  omega
theorem bx2 {u : UInt8} (hp : fitR a0) (h : inv_TextW_1 a0 k x i b) : ln (x ++ [u]) ≤ 300000000 := by
  have := fit_x hp h
  rw [ln_snoc]
  omega
theorem bt0 (hp : fitR a0) (h : inv_TextW_0 a0 i x) (hi : i < ln a0) (hk : 0 < ln (ix a0 i).Words) : ln (ix (ix a0 i).Words 0).Text ≤ 300000000 := by
  have := fit0 hp h hi hk
  omega
theorem bt1 (hp : fitR a0) (h : inv_TextW_1 a0 k x i b) (hk : k < ln (ix a0 i).Words) : ln (ix (ix a0 i).Words k).Text ≤ 300000000 := by
  have := fit1 hp h hk
  omega
theorem k_ge (h : inv_TextW_1 a0 k x i b) : 0 ≤ k := by
  have := h.2.2.1
  omega
theorem tF30 (h : inv_TextW_1 a0 k x 0 b) (hk : ln (ix a0 0).Words ≤ k) (h1 : ln x - b ≤ 1000) (h2 : ln (x ++ [(UInt8.ofNat (Int.toNat (10)))]) ≤ 20000) : inv_TextW_0 a0 1 (x ++ [(UInt8.ofNat (Int.toNat (10)))]) := tF3 h hk h1 h2
theorem bstrL (h : inv_TextW_0 a0 i x) : ln x ≤ 140737488355328 := by
  have := h.2.2.1
  omega
theorem big {n : Int} (h : n ≤ 300000000) : n ≤ 1000000000 := by omega
theorem bq1 {t : List UInt8} (h : ln t ≤ 100000) : ln (([34] : List UInt8) ++ t) ≤ 300000000 := by
  rw [ln_append]
  have : ln ([34] : List UInt8) = 1 := rfl
  omega
theorem bq2 {t : List UInt8} (h : ln t ≤ 100000) : ln ((([34] : List UInt8) ++ t) ++ ([34] : List UInt8)) ≤ 300000000 := by
  rw [ln_append, ln_append]
  have : ln ([34] : List UInt8) = 1 := rfl
  omega
theorem b34 : ln ([34] : List UInt8) ≤ 300000000 := by decide
theorem bone {u : UInt8} : ln [u] ≤ 300000000 := by
  have : ln [u] = 1 := rfl
  omega
theorem bnil : ln ([] : List UInt8) ≤ 300000000 := by decide
theorem len_i64 (hp : fitR a0) (h : inv_TextW_1 a0 k x i b) : I64 (ln x - b) := by
  have := fit_x hp h
  have := ln_nonneg x
  exact i64 (by omega) (by omega)
theorem k_i64 (hp : fitR a0) (h : inv_TextW_1 a0 k x i b) : I64 (k + 1) := by
  have := fit_row hp h.1 h.2.1
  have := h.2.2.1
  have := h.2.2.2.1
  exact i64 (by omega) (by omega)
theorem i_i64 (hp : fitR a0) (h : inv_TextW_0 a0 i x) : I64 (i + 1) := by
  have := hp.1
  have := h.1
  have := h.2.1
  exact i64 (by omega) (by omega)
end

set_option maxHeartbeats 8000000 in
theorem TextW_ok (a0 : List Row) (hp : fitR a0) : TextW_VC a0 := by
  have hs : inv_TextW_0 a0 0 [] := tStart
  unfold TextW_VC
  unhygienic (repeat' (first | with_reducible exact trivial | with_reducible rfl | with_reducible apply And.intro | (intro; intros)))
  all_goals first
    | assumption
    | with_reducible exact tPos (by assumption) (by assumption)
    | with_reducible exact noWords (by assumption) (by assumption)
    | with_reducible exact fst_of (tA (by assumption) (by assumption) (by assumption)) | with_reducible exact snd_of (tA (by assumption) (by assumption) (by assumption))
    | with_reducible exact fst_of (tBq (by assumption) (by assumption) (by assumption) (by assumption) (by assumption)) | with_reducible exact snd_of (tBq (by assumption) (by assumption) (by assumption) (by assumption) (by assumption))
    | with_reducible exact fst_of (tBp (by assumption) (by assumption) (by assumption) (by assumption) (by assumption)) | with_reducible exact snd_of (tBp (by assumption) (by assumption) (by assumption) (by assumption) (by assumption))
    | with_reducible exact fst_of (tCq (by assumption) (by assumption) (by assumption) (by assumption)) | with_reducible exact snd_of (tCq (by assumption) (by assumption) (by assumption) (by assumption))
    | with_reducible exact fst_of (tCp (by assumption) (by assumption) (by assumption) (by assumption)) | with_reducible exact snd_of (tCp (by assumption) (by assumption) (by assumption) (by assumption))
    | with_reducible exact fst_of (tF1 (by assumption) (by assumption) (by assumption)) | with_reducible exact snd_of (tF1 (by assumption) (by assumption) (by assumption))
    | with_reducible exact fst_of (tF2 (by assumption) (by assumption) (by assumption) (by assumption)) | with_reducible exact snd_of (tF2 (by assumption) (by assumption) (by assumption) (by assumption))
    | with_reducible exact fst_of (tG (by assumption) (by assumption)) | with_reducible exact snd_of (tG (by assumption) (by assumption))
    | with_reducible exact tDq (by assumption) (by assumption) (by assumption) (by assumption) (by assumption) (by with_reducible rfl)
    | with_reducible exact tDp (by assumption) (by assumption) (by assumption) (by assumption) (by assumption) (by with_reducible rfl)
    | with_reducible exact tDq0 (by assumption) (by assumption) (by assumption) (by assumption) (by assumption)
    | with_reducible exact tDp0 (by assumption) (by assumption) (by assumption) (by assumption) (by assumption)
    | with_reducible exact tEq (by assumption) (by assumption) (by assumption) (by assumption)
    | with_reducible exact tEp (by assumption) (by assumption) (by assumption) (by assumption)
    | with_reducible exact tEm (by assumption)
    | with_reducible exact tF3 (by assumption) (by assumption) (by assumption) (by assumption)
    | with_reducible exact tFm (by assumption) (by assumption)
    | with_reducible exact wn (by decide) (by assumption)
    | with_reducible exact wn (lt_of_i0 (by assumption)).1 (by assumption)
    | with_reducible exact wn (Int.le_trans (by decide) (lt_of_i1 (by assumption)).2.2.1) (by assumption)
    | with_reducible exact sh_x (by first | with_reducible exact bnil | with_reducible exact b34 | with_reducible exact bone | with_reducible exact bx0 (by assumption) | with_reducible exact bx1 (by assumption) (by assumption) | with_reducible exact bx2 (by assumption) (by assumption) | with_reducible exact bt0 (by assumption) (by assumption) (by assumption) (by assumption) | with_reducible exact bt1 (by assumption) (by assumption) (by assumption) | with_reducible exact bq1 (fit0 (by assumption) (by assumption) (by assumption) (by assumption)) | with_reducible exact bq1 (fit1 (by assumption) (by assumption) (by assumption)) | with_reducible exact bq2 (fit0 (by assumption) (by assumption) (by assumption) (by assumption)) | with_reducible exact bq2 (fit1 (by assumption) (by assumption) (by assumption))) (by first | with_reducible exact bnil | with_reducible exact b34 | with_reducible exact bone | with_reducible exact bx0 (by assumption) | with_reducible exact bx1 (by assumption) (by assumption) | with_reducible exact bx2 (by assumption) (by assumption) | with_reducible exact bt0 (by assumption) (by assumption) (by assumption) (by assumption) | with_reducible exact bt1 (by assumption) (by assumption) (by assumption) | with_reducible exact bq1 (fit0 (by assumption) (by assumption) (by assumption) (by assumption)) | with_reducible exact bq1 (fit1 (by assumption) (by assumption) (by assumption)) | with_reducible exact bq2 (fit0 (by assumption) (by assumption) (by assumption) (by assumption)) | with_reducible exact bq2 (fit1 (by assumption) (by assumption) (by assumption)))
    | with_reducible exact big (by first | with_reducible exact bnil | with_reducible exact b34 | with_reducible exact bone | with_reducible exact bx0 (by assumption) | with_reducible exact bx1 (by assumption) (by assumption) | with_reducible exact bx2 (by assumption) (by assumption) | with_reducible exact bt0 (by assumption) (by assumption) (by assumption) (by assumption) | with_reducible exact bt1 (by assumption) (by assumption) (by assumption) | with_reducible exact bq1 (fit0 (by assumption) (by assumption) (by assumption) (by assumption)) | with_reducible exact bq1 (fit1 (by assumption) (by assumption) (by assumption)) | with_reducible exact bq2 (fit0 (by assumption) (by assumption) (by assumption) (by assumption)) | with_reducible exact bq2 (fit1 (by assumption) (by assumption) (by assumption)))
    | with_reducible exact len_i64 (by assumption) (by assumption)
    | with_reducible exact k_i64 (by assumption) (by assumption)
    | with_reducible exact i_i64 (by assumption) (by assumption)
    | decide
    | with_reducible exact (k_i64 (by assumption) (by assumption)).1
    | with_reducible exact (k_i64 (by assumption) (by assumption)).2
    | with_reducible exact (i_i64 (by assumption) (by assumption)).1
    | with_reducible exact (i_i64 (by assumption) (by assumption)).2
    | with_reducible exact (len_i64 (by assumption) (by assumption)).1
    | with_reducible exact (len_i64 (by assumption) (by assumption)).2
    | with_reducible exact k_ge (by assumption)
    | with_reducible exact (lt_of_i0 (by assumption)).1
    | with_reducible exact tF30 (by assumption) (by assumption) (by assumption) (by assumption)
    | with_reducible exact bstrL (by assumption)
    | skip

/-! ### Rows made of numbers -/
section
variable {a0 : List Int} {i : Int} {out : List Row} {ws : List Word}

theorem tx_len : ln texts13 = 13 := by decide
theorem tx_wn {n : Int} : 0 ≤ modI n (ln texts13) ∧ modI n (ln texts13) < ln texts13 := modI_bd (by rw [tx_len]; decide)
theorem mw1 {n : Int} (h : ix texts13 (modI n (ln texts13)) = []) : Word.mk 0 (ix texts13 (modI n (ln texts13))) true = madeW n := by
  have h' : txt n = [] := h
  show Word.mk 0 (txt n) true = _
  simp [madeW, h']
theorem mw2 {n : Int} (h : ix texts13 (modI n (ln texts13)) = [97, 32, 98]) : Word.mk 0 (ix texts13 (modI n (ln texts13))) true = madeW n := by
  have h' : txt n = [97, 32, 98] := h
  show Word.mk 0 (txt n) true = _
  simp [madeW, h']
theorem mw3 {n : Int} (h : ix texts13 (modI n (ln texts13)) = [120, 59]) : Word.mk 0 (ix texts13 (modI n (ln texts13))) true = madeW n := by
  have h' : txt n = [120, 59] := h
  show Word.mk 0 (txt n) true = _
  simp [madeW, h']
theorem mw4 {n : Int} (h1 : ix texts13 (modI n (ln texts13)) ≠ []) (h2 : ix texts13 (modI n (ln texts13)) ≠ [97, 32, 98]) (h3 : ix texts13 (modI n (ln texts13)) ≠ [120, 59]) : Word.mk 0 (ix texts13 (modI n (ln texts13))) (decide ((modI (Int.tdiv n 16) 4) = 0)) = madeW n := by
  have h1' : txt n ≠ [] := h1
  have h2' : txt n ≠ [97, 32, 98] := h2
  have h3' : txt n ≠ [120, 59] := h3
  show Word.mk 0 (txt n) _ = _
  simp [madeW, h1', h2', h3']

theorem mS (h : inv_made_0 a0 i out ws) (hi : i < ln a0) (ho : ln out < 12) {w : Word} (hw : w = madeW (ix a0 i)) (hc : ln (ws ++ [w]) = 8 ∨ modI (Int.tdiv (ix a0 i) 64) 3 = 0) : inv_made_0 a0 (i + 1) (out ++ [⟨0, ws ++ [w]⟩]) [] := by
  obtain ⟨h0, h1, h2, h3, h4⟩ := h
  subst hw
  refine ⟨by omega, by omega, by rw [ln_snoc]; omega, by decide, ?_⟩
  rw [← h4, fr_cons h0 hi]
  simp only [madeGo, if_neg (show ¬ 12 ≤ ln out by omega), if_pos hc]
theorem mT (h : inv_made_0 a0 i out ws) (hi : i < ln a0) (ho : ln out < 12) {w : Word} (hw : w = madeW (ix a0 i)) (hc : ln (ws ++ [w]) ≠ 8) (hc' : modI (Int.tdiv (ix a0 i) 64) 3 ≠ 0) : inv_made_0 a0 (i + 1) out (ws ++ [w]) := by
  obtain ⟨h0, h1, h2, h3, h4⟩ := h
  subst hw
  refine ⟨by omega, by omega, h2, ?_, ?_⟩
  · rw [ln_snoc] at hc ⊢
    omega
  · rw [← h4, fr_cons h0 hi]
    simp only [madeGo, if_neg (show ¬ 12 ≤ ln out by omega), if_neg (show ¬ (ln (ws ++ [madeW (ix a0 i)]) = 8 ∨ modI (Int.tdiv (ix a0 i) 64) 3 = 0) from fun h => h.elim hc hc')]
theorem mM {o' : List Row} {w' : List Word} (hi : i < ln a0) : minv_made_0 a0 (i + 1) o' w' < minv_made_0 a0 i out ws := by simp only [minv_made_0]; omega
theorem mEnd (h : inv_made_0 a0 i out ws) (hc : 12 ≤ ln out ∨ ln a0 ≤ i) : madeR a0 = if ws = [] then out else out ++ [⟨0, ws⟩] := by
  obtain ⟨h0, h1, h2, h3, h4⟩ := h
  rw [← h4]
  by_cases hi : i < ln a0
  · rw [fr_cons h0 hi]
    simp only [madeGo, if_pos (show 12 ≤ ln out by omega)]
  · rw [fr_all (by omega)]
    rfl
theorem mE1 (h : inv_made_0 a0 i out ws) (hc : 12 ≤ ln out ∨ ln a0 ≤ i) (hw : 0 < ln ws) : out ++ [⟨0, ws⟩] = madeR a0 := by
  rw [mEnd h hc, if_neg (ne_nil (k := 0) (Int.le_refl 0) hw)]
theorem mE2 (h : inv_made_0 a0 i out ws) (hc : 12 ≤ ln out ∨ ln a0 ≤ i) (hw : ln ws ≤ 0) : out = madeR a0 := by
  rw [mEnd h hc, if_pos (ln_zero hw)]
theorem mStart : inv_made_0 a0 0 [] [] := ⟨Int.le_refl 0, ln_nonneg _, by decide, by decide, by rw [fr_zero]; rfl⟩
theorem mI (hp : goodL a0) (h : inv_made_0 a0 i out ws) (hi : i < ln a0) : -9223372036854775808 ≤ i + 1 ∧ i + 1 ≤ 9223372036854775807 := by
  have := hp.1
  have := h.1
  omega
theorem mb1 (h : inv_made_0 a0 i out ws) : ln ws ≤ 300000000 := by
  have := h.2.2.2.1
  omega
theorem mb2 (h : inv_made_0 a0 i out ws) : ln out ≤ 300000000 := by
  have := h.2.2.1
  omega
theorem tdivI {n k : Int} (hn : I64 n) (hk : 0 < k) : -9223372036854775808 ≤ Int.tdiv n k ∧ Int.tdiv n k ≤ 9223372036854775807 := by
  obtain ⟨h1, h2⟩ := hn
  by_cases h : 0 ≤ n
  · have := Int.tdiv_nonneg h (show 0 ≤ k by omega)
    have := Int.tdiv_le_self k h
    omega
  · have e : Int.tdiv n k = -Int.tdiv (-n) k := by rw [Int.neg_tdiv, Int.neg_neg]
    have := Int.tdiv_nonneg (show 0 ≤ -n by omega) (show 0 ≤ k by omega)
    have := Int.tdiv_le_self k (show 0 ≤ -n by omega)
    omega
theorem mD (hp : goodL a0) (h : inv_made_0 a0 i out ws) (hi : i < ln a0) {k : Int} (hk : 0 < k) : -9223372036854775808 ≤ Int.tdiv (ix a0 i) k ∧ Int.tdiv (ix a0 i) k ≤ 9223372036854775807 :=
  tdivI (hp.2 _ (ix_mem h.1 hi)) hk
theorem b1 {α : Type} {u : α} : ln [u] ≤ 300000000 := by
  have : ln [u] = 1 := rfl
  omega
theorem i0 (h : inv_made_0 a0 i out ws) : 0 ≤ i := h.1
end

set_option maxHeartbeats 8000000 in
theorem made_ok (a0 : List Int) (hp : goodL a0) : made_VC a0 := by
  have hs : inv_made_0 a0 0 [] [] := mStart
  unfold made_VC
  unhygienic (repeat' (first | exact trivial | with_reducible rfl | with_reducible apply And.intro | (intro; intros)))
  all_goals first
    | assumption
    | with_reducible exact mM (by assumption)
    | with_reducible exact mS (by assumption) (by assumption) (by assumption) (by first | with_reducible exact mw1 (by assumption) | with_reducible exact mw2 (by assumption) | with_reducible exact mw3 (by assumption) | with_reducible exact mw4 (by assumption) (by assumption) (by assumption)) (.inl (by assumption))
    | with_reducible exact mS (by assumption) (by assumption) (by assumption) (by first | with_reducible exact mw1 (by assumption) | with_reducible exact mw2 (by assumption) | with_reducible exact mw3 (by assumption) | with_reducible exact mw4 (by assumption) (by assumption) (by assumption)) (.inr (by assumption))
    | with_reducible exact mT (by assumption) (by assumption) (by assumption) (by first | with_reducible exact mw1 (by assumption) | with_reducible exact mw2 (by assumption) | with_reducible exact mw3 (by assumption) | with_reducible exact mw4 (by assumption) (by assumption) (by assumption)) (by assumption) (by assumption)
    | with_reducible exact mE1 (by assumption) (.inl (by assumption)) (by assumption)
    | with_reducible exact mE1 (by assumption) (.inr (by assumption)) (by assumption)
    | with_reducible exact mE2 (by assumption) (.inl (by assumption)) (by assumption)
    | with_reducible exact mE2 (by assumption) (.inr (by assumption)) (by assumption)
    | with_reducible exact tx_wn.1
    | with_reducible exact tx_wn.2
    | with_reducible exact sh_x (mb1 (by assumption)) b1
    | with_reducible exact sh_x (mb2 (by assumption)) b1
    | with_reducible exact i0 (by assumption)
    | with_reducible exact (mI (by assumption) (by assumption) (by assumption)).1
    | with_reducible exact (mI (by assumption) (by assumption) (by assumption)).2
    | with_reducible exact (mD (by assumption) (by assumption) (by assumption) (by decide)).1
    | with_reducible exact (mD (by assumption) (by assumption) (by assumption) (by decide)).2
    | decide
    | (clear hp; omega)
    | skip
end Go.Proofs.YtofmpipjklcjhaaDoor
