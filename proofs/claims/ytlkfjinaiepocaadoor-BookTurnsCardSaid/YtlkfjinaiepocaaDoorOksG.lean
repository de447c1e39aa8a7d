/- THE CONDITIONS of the generator hold. -/
import Derived.Test.YtlkfjinaiepocaaDoorVcsG
namespace Go.Proofs.YtlkfjinaiepocaaDoor
open Go Go.E2 Go.E3
set_option maxRecDepth 100000

theorem zbz (a0 a1 : Int) (hp : I64 a0 ∧ (1 : Int) ≤ a1 ∧ (a1 : Int) ≤ 1048576) : q5c a0 a1 := by
  obtain ⟨h0, h1, h2⟩ := hp
  have := qzb (a := a0) (b := a1) (by omega)
  refine ⟨fun h => by omega, fun _ => ⟨by omega, fun h => ⟨⟨by omega, by omega⟩, ?_, trivial⟩, fun h => ⟨?_, trivial⟩⟩⟩
  · unfold qa; rw [if_neg (by omega), if_pos h]
  · unfold qa; rw [if_neg (by omega), if_neg (by omega)]
theorem zbt (a0 : List Int) (a1 : Int) (hp : ln a0 ≤ 1000000000) : qzg a0 a1 := by
  unfold qzg
  refine ⟨fun h => ⟨?_, trivial⟩, fun h => ⟨fun h' => ⟨?_, trivial⟩, fun h' => ⟨⟨h, h'⟩, ?_, trivial⟩⟩⟩
  · unfold atI; rw [if_pos (.inl h)]
  · unfold atI; rw [if_pos (.inr h')]
  · unfold atI; rw [if_neg (by omega)]
theorem q4w (a0 a1 a2 a3 a4 : Int) (hp : (0 : Int) ≤ a4 ∧ (a4 : Int) ≤ 100) : qqo a0 a1 a2 a3 a4 := by
  unfold qqo
  refine ⟨⟨by omega, by omega⟩, ⟨by omega, by omega, by omega, by omega, by omega, by omega⟩, fun x ⟨h1, h2, h3, h4, h5, h6⟩ => ⟨fun h => ?_, fun h => ?_⟩⟩
  · have st : x - 1 ≥ -1 := by omega
    have ms : kg a0 a1 a2 a3 a4 (x - 1) < kg a0 a1 a2 a3 a4 x := by simp only [kg]; omega
    refine ⟨fun e => ⟨fun e' => ⟨?_, trivial⟩, fun e' => ⟨⟨by omega, by omega⟩, rfl, rfl, rfl, rfl, ⟨by omega, by omega, by omega, by omega, by omega, by omega⟩, ms⟩⟩, fun e => ⟨fun f => ⟨fun e' => ⟨?_, trivial⟩, fun e' => ⟨⟨by omega, by omega⟩, rfl, rfl, rfl, rfl, ⟨by omega, by omega, by omega, by omega, by omega, by omega⟩, ms⟩⟩,
      fun f => ⟨fun g => ⟨fun e' => ⟨?_, trivial⟩, fun e' => ⟨⟨by omega, by omega⟩, rfl, rfl, rfl, rfl, ⟨by omega, by omega, by omega, by omega, by omega, by omega⟩, ms⟩⟩, fun g => ⟨fun k => ⟨fun e' => ⟨?_, trivial⟩, fun e' => ⟨⟨by omega, by omega⟩, rfl, rfl, rfl, rfl, ⟨by omega, by omega, by omega, by omega, by omega, by omega⟩, ms⟩⟩,
        fun k => ⟨⟨by omega, by omega⟩, rfl, rfl, rfl, rfl, ⟨by omega, by omega, by omega, by omega, by omega, by omega⟩, ms⟩⟩⟩⟩⟩
    all_goals (simp only [qco, Bool.or_eq_true, Bool.and_eq_true, decide_eq_true_eq, eq_comm (a := true)]; omega)
  · refine ⟨?_, trivial⟩
    simp only [qco, eq_comm (a := false), Bool.or_eq_false_iff, Bool.and_eq_false_iff, decide_eq_false_iff_not]
    omega

/-! ### Numbers -/
theorem nbm (M : Int) (h0 : 0 ≤ M) (h1 : M < 16) : 0 ≤ Int.tdiv M 8 ∧ Int.tdiv M 8 ≤ M ∧ 0 ≤ Int.tdiv M 4 ∧ Int.tdiv M 4 ≤ M ∧ 0 ≤ Int.tdiv M 2 ∧ Int.tdiv M 2 ≤ M ∧ 0 ≤ Int.tmod (Int.tdiv M 4) 2 ∧ Int.tmod (Int.tdiv M 4) 2 < 2 ∧ 0 ≤ Int.tmod (Int.tdiv M 2) 2 ∧ Int.tmod (Int.tdiv M 2) 2 < 2 ∧ 0 ≤ Int.tmod M 2 ∧ Int.tmod M 2 < 2 := by
  have a8 := qa1 h0 (show (0 : Int) < 8 by decide)
  have a4 := qa1 h0 (show (0 : Int) < 4 by decide)
  have a2 := qa1 h0 (show (0 : Int) < 2 by decide)
  have b4 := k9 a4.1 (show (0 : Int) < 2 by decide)
  have b2 := k9 a2.1 (show (0 : Int) < 2 by decide)
  have b1 := k9 h0 (show (0 : Int) < 2 by decide)
  exact ⟨a8.1, a8.2, a4.1, a4.2, a2.1, a2.2, b4.1, b4.2, b2.1, b2.2, b1.1, b1.2⟩
theorem nbq (Q : Int) (h0 : 0 ≤ Q) : (0 ≤ Int.tmod Q 6 ∧ Int.tmod Q 6 < 6) ∧ (0 ≤ Int.tdiv Q 6 ∧ Int.tdiv Q 6 ≤ Q) ∧ (0 ≤ Int.tdiv Q 24 ∧ Int.tdiv Q 24 ≤ Q) ∧ (0 ≤ Int.tdiv Q 18 ∧ Int.tdiv Q 18 ≤ Q) ∧ (0 ≤ Int.tdiv Q 96 ∧ Int.tdiv Q 96 ≤ Q) ∧ (0 ≤ Int.tdiv Q 2 ∧ Int.tdiv Q 2 ≤ Q) ∧ (0 ≤ Int.tdiv Q 16 ∧ Int.tdiv Q 16 ≤ Q) ∧
    (0 ≤ Int.tdiv Q 32 ∧ Int.tdiv Q 32 ≤ Q) ∧ (0 ≤ Int.tdiv Q 128 ∧ Int.tdiv Q 128 ≤ Q) ∧ (0 ≤ Int.tmod (Int.tdiv Q 6) 4 ∧ Int.tmod (Int.tdiv Q 6) 4 < 4) ∧ (0 ≤ Int.tmod (Int.tdiv Q 6) 3 ∧ Int.tmod (Int.tdiv Q 6) 3 < 3) ∧ (0 ≤ Int.tmod (Int.tdiv Q 6) 2 ∧ Int.tmod (Int.tdiv Q 6) 2 < 2) ∧
    (0 ≤ Int.tmod (Int.tdiv Q 24) 4 ∧ Int.tmod (Int.tdiv Q 24) 4 < 4) ∧ (0 ≤ Int.tmod (Int.tdiv Q 18) 5 ∧ Int.tmod (Int.tdiv Q 18) 5 < 5) ∧ (0 ≤ Int.tmod Q 2 ∧ Int.tmod Q 2 < 2) ∧ (0 ≤ Int.tmod (Int.tdiv Q 2) 5 ∧ Int.tmod (Int.tdiv Q 2) 5 < 5) ∧ (0 ≤ Int.tmod (Int.tdiv Q 32) 3 ∧ Int.tmod (Int.tdiv Q 32) 3 < 3) ∧ (0 ≤ Int.tmod (Int.tdiv Q 128) 2 ∧ Int.tmod (Int.tdiv Q 128) 2 < 2) := by
  have d : ∀ b : Int, 0 < b → 0 ≤ Int.tdiv Q b ∧ Int.tdiv Q b ≤ Q := fun b hb => qa1 h0 hb
  have m : ∀ b c : Int, 0 < b → 0 < c → 0 ≤ Int.tmod (Int.tdiv Q b) c ∧ Int.tmod (Int.tdiv Q b) c < c := fun b c hb hc => k9 (d b hb).1 hc
  exact ⟨k9 h0 (by decide), d _ (by decide), d _ (by decide), d _ (by decide), d _ (by decide), d _ (by decide), d _ (by decide), d _ (by decide), d _ (by decide), m _ _ (by decide) (by decide), m _ _ (by decide) (by decide), m _ _ (by decide) (by decide), m _ _ (by decide) (by decide), m _ _ (by decide) (by decide), k9 h0 (by decide), m _ _ (by decide) (by decide), m _ _ (by decide) (by decide), m _ _ (by decide) (by decide)⟩
theorem nb (N : Int) (h0 : 0 ≤ N) (h1 : N < 1048576) : (0 ≤ N ∧ N < 1048576) ∧ (0 ≤ Int.tmod N 16 ∧ Int.tmod N 16 < 16) ∧ (0 ≤ Int.tdiv N 16 ∧ Int.tdiv N 16 ≤ N) ∧ (0 ≤ Int.tdiv N 96 ∧ Int.tdiv N 96 ≤ N) ∧ (0 ≤ qa (Int.tdiv N 96) 5 ∧ qa (Int.tdiv N 96) 5 < 5) ∧ (0 ≤ Int.tdiv (Int.tdiv N 96) 5 ∧ Int.tdiv (Int.tdiv N 96) 5 ≤ N) ∧ (0 ≤ Int.tdiv (Int.tdiv N 96) 35 ∧ Int.tdiv (Int.tdiv N 96) 35 ≤ N) ∧
    (0 ≤ Int.tmod (Int.tdiv (Int.tdiv N 96) 5) 7 ∧ Int.tmod (Int.tdiv (Int.tdiv N 96) 5) 7 < 7) ∧ (0 ≤ Int.tmod (Int.tdiv N 16) 20 ∧ Int.tmod (Int.tdiv N 16) 20 < 20) ∧ (0 ≤ Int.tdiv N 320 ∧ Int.tdiv N 320 ≤ N) ∧ (0 ≤ Int.tmod (Int.tdiv N 320) 3 ∧ Int.tmod (Int.tdiv N 320) 3 < 3) ∧ (0 ≤ Int.tdiv N 960 ∧ Int.tdiv N 960 ≤ N) ∧
    (ln ([0, 3, 4] : List Int) = 3 ∧ ln ([11, 12] : List Int) = 2 ∧ ln ([0, 4, 3] : List Int) = 3 ∧ ln ([0, 0, 0, 0, -1, 1, 2] : List Int) = 7) ∧ (0 ≤ qa N 16 ∧ qa N 16 < 16) ∧ (0 ≤ qa (Int.tdiv (Int.tdiv N 16) 6) 16 ∧ qa (Int.tdiv (Int.tdiv N 16) 6) 16 < 16) := by
  have d : ∀ b : Int, 0 < b → 0 ≤ Int.tdiv N b ∧ Int.tdiv N b ≤ N := fun b hb => qa1 h0 hb
  have e : ∀ b : Int, 0 < b → 0 ≤ Int.tdiv (Int.tdiv N 96) b ∧ Int.tdiv (Int.tdiv N 96) b ≤ N := fun b hb => ⟨(qa1 (d 96 (by decide)).1 hb).1, Int.le_trans (qa1 (d 96 (by decide)).1 hb).2 (d 96 (by decide)).2⟩
  exact ⟨⟨h0, h1⟩, k9 h0 (by decide), d _ (by decide), d _ (by decide), qen (by decide), e _ (by decide), e _ (by decide), k9 (e _ (by decide)).1 (by decide), k9 (d _ (by decide)).1 (by decide), d _ (by decide), k9 (d _ (by decide)).1 (by decide), d _ (by decide), ⟨rfl, rfl, rfl, rfl⟩, qen (by decide), qen (by decide)⟩
theorem nb2 {l : List Int} {i : Int} : 0 ≤ qa (ix l i) 1048576 ∧ qa (ix l i) 1048576 < 1048576 := qen (by decide)
theorem nbA {l : List Int} {i : Int} : 0 ≤ qa (atI l i) 1048576 ∧ qa (atI l i) 1048576 < 1048576 := qen (by decide)

section
variable {a0 : List Int} {i j : Int} {nm nm' : List UInt8} {S S' : List Sign} {m0 m1 m2 m3 p m0' m1' m2' m3' p' : Int} {o d o' d' : Bool} {n many : Int}
theorem q9w (h : qam a0 i nm S m0 m1 m2 m3 p o d) : 1 ≤ i ∧ -4 ≤ p ∧ p ≤ 12 ∧ ln S ≤ 57 := ⟨h.get.1, h.get.2.2.1, h.get.2.2.2.1, h.get.2.2.2.2.1⟩
theorem zea (h : qan a0 j nm S m0 m1 m2 m3 p o d nm' S' m0' m1' m2' m3' p' o' d' n many) : 0 ≤ j ∧ j ≤ 3 ∧ -4 ≤ p ∧ p ≤ 12 ∧ ln S ≤ ln S' + 3 := ⟨h.get.1, h.get.2.1, h.get.2.2.1, h.get.2.2.2.1, h.get.2.2.2.2.1⟩
theorem lp1 {e : Int} (he : e = ((p + 1) + Int.tmod (Int.tdiv n 32) 3) - 4 * Int.tmod (Int.tdiv n 128) 2) (h : e < -4) : (7 : Int) = qij n p := by subst he; unfold qij; rw [if_pos h]
theorem lp2 {e : Int} (he : e = ((p + 1) + Int.tmod (Int.tdiv n 32) 3) - 4 * Int.tmod (Int.tdiv n 128) 2) (h : 12 < e) : (7 : Int) = qij n p := by subst he; unfold qij; rw [if_neg (by omega), if_pos h]
theorem lp3 {e : Int} (he : e = ((p + 1) + Int.tmod (Int.tdiv n 32) 3) - 4 * Int.tmod (Int.tdiv n 128) 2) (h1 : -4 ≤ e) (h2 : e ≤ 12) : e = qij n p := by subst he; unfold qij; rw [if_neg (by omega), if_neg (by omega)]
theorem zec (h1 : -4 ≤ p) (h2 : p ≤ 12) : qan a0 0 nm S m0 m1 m2 m3 p o d nm S m0 m1 m2 m3 p o d n many := ⟨Int.le_refl _, by decide, h1, h2, by omega, by omega, rfl⟩
theorem zed {q : Int} (h : qan a0 j nm S m0 m1 m2 m3 p o d nm' S' m0' m1' m2' m3' p' o' d' n many) (hj : j < many) (hm : many ≤ 3) (hq : q = qij n p) :
    qan a0 (j + 1) nm (S ++ [Sign.mk 4 0 p 0 (decide (Int.tmod (Int.tdiv n 16) 5 = 0)) 0 false (decide (j + 1 = many)) 0 0 0 0 false 0 0 0 0]) m0 m1 m2 m3 q o (decide (j + 1 = many)) nm' S' m0' m1' m2' m3' p' o' d' n many := by
  obtain ⟨h1, h2, h3, h4, h5, h6, h7⟩ := h
  have := qfp (n := n) (p := p)
  refine ⟨by omega, by omega, by omega, by omega, by rw [qas]; omega, by rw [qas]; omega, ?_⟩
  rw [← h7, qfq hj, hq]
  rfl
theorem zee (h : qan a0 j nm S m0 m1 m2 m3 p o d nm' S' m0' m1' m2' m3' (2 + Int.tmod (Int.tdiv (Int.tdiv (qa (ix a0 i) 1048576) 16) 2) 5) o' d' (Int.tdiv (qa (ix a0 i) 1048576) 16) (2 + Int.tmod (Int.tdiv (qa (ix a0 i) 1048576) 16) 2)) (hj : 2 + Int.tmod (Int.tdiv (qa (ix a0 i) 1048576) 16) 2 ≤ j) (h16 : Int.tmod (qa (ix a0 i) 1048576) 16 = 2) :
    qk a0 nm S m0 m1 m2 m3 p o d nm' S' m0' m1' m2' m3' p' o' d' i := by
  obtain ⟨_, _, _, _, _, _, h7⟩ := h
  rw [qkx hj] at h7
  unfold qk jw
  rw [if_neg (by omega), if_pos h16, h7]
  rfl
theorem zef (h : qan a0 j nm S m0 m1 m2 m3 p o d nm' S' m0' m1' m2' m3' p' o' d' n many) (hj : j < many) (hm : many ≤ 3) {S2 : List Sign} {q : Int} {d2 : Bool} : qau a0 (j + 1) nm S2 m0 m1 m2 m3 q o d2 nm' S' m0' m1' m2' m3' p' o' d' n many < qau a0 j nm S m0 m1 m2 m3 p o d nm' S' m0' m1' m2' m3' p' o' d' n many := by
  simp only [qau]; omega
theorem zdg (h : qk a0 nm S m0 m1 m2 m3 p o d nm' S' m0' m1' m2' m3' p' o' d' i) (h0 : qam a0 i nm' S' m0' m1' m2' m3' p' o' d') (hi : i < ln a0) (hs : ln S' < 55) : qam a0 (i + 1) nm S m0 m1 m2 m3 p o d := by
  obtain ⟨g1, g2, g3, g4, g5, g6⟩ := h0
  have h : mkM nm S m0 m1 m2 m3 p o d = jw (mkM nm' S' m0' m1' m2' m3' p' o' d') (qa (ix a0 i) 1048576) := h
  have hn : 0 ≤ qa (ix a0 i) 1048576 := nb2.1
  have g6 : qdd a0 (i + 1) (jw (mkM nm' S' m0' m1' m2' m3' p' o' d') (qa (ix a0 i) 1048576)) = qg4 a0 := by
    rw [← qoe hi (show ln (mkM nm' S' m0' m1' m2' m3' p' o' d').S < 55 from hs)]
    exact g6
  generalize qa (ix a0 i) 1048576 = N at h hn g6
  obtain ⟨b0, b3, b4⟩ := qj5 (x := mkM nm' S' m0' m1' m2' m3' p' o' d') (n := N) ⟨g3, g4⟩ hn
  rw [← h] at b0 b3 b4 g6
  have b1 : -4 ≤ p := b0.p0
  have b2 : p ≤ 12 := b0.p1
  have b4 : ln S ≤ ln S' + 3 := b4
  exact ⟨by omega, .inl (by omega), b1, b2, by omega, g6⟩
theorem zci {nm2 : List UInt8} {S2 : List Sign} {q0 q1 q2 q3 q : Int} {o2 d2 : Bool} (hi : i < ln a0) : qd5 a0 (i + 1) nm2 S2 q0 q1 q2 q3 q o2 d2 < qd5 a0 i nm S m0 m1 m2 m3 p o d := by simp only [qd5]; omega
theorem q6c (h : qam a0 i nm S m0 m1 m2 m3 p o d) (he : ln a0 ≤ i ∨ 55 ≤ ln S) : qg4 a0 = mkM nm S m0 m1 m2 m3 p o d := by
  obtain ⟨g1, g2, g3, g4, g5, g6⟩ := h
  rw [← g6]
  exact qrs he
theorem zcj (h : qam a0 i nm S m0 m1 m2 m3 p o d) (he : ln a0 ≤ i ∨ 55 ≤ ln S) : nm = (qw a0).1 := by
  unfold qw
  rw [q6c h he]
  split <;> rfl
theorem zck (h : qam a0 i nm S m0 m1 m2 m3 p o d) (he : ln a0 ≤ i ∨ 55 ≤ ln S) (ho : o = true) : S ++ [Sign.mk 10 0 0 0 false 0 false false 0 0 0 0 false 2 0 0 0] = (qw a0).2 := by
  unfold qw
  rw [q6c h he, if_pos (show (mkM nm S m0 m1 m2 m3 p o d).opn = true from ho)]
  rfl
theorem zcl (h : qam a0 i nm S m0 m1 m2 m3 p o d) (he : ln a0 ≤ i ∨ 55 ≤ ln S) (ho : o = false) : S = (qw a0).2 := by
  unfold qw
  rw [q6c h he, if_neg (show ¬ (mkM nm S m0 m1 m2 m3 p o d).opn = true from fun hh => by have hh : o = true := hh; rw [ho] at hh; cases hh)]
  rfl
theorem zbh : qam a0 1 [UInt8.ofNat (Int.toNat (97 + Int.tmod (Int.tdiv (qa (atI a0 0) 1048576) 16) 20))] ((([] : List Sign) ++ [zbc (qa (atI a0 0) 1048576)]) ++ [qne (qa (atI a0 0) 1048576) (decide (Int.tmod (Int.tdiv (qa (atI a0 0) 1048576) 960) 3 = 0))])
    (2 + Int.tdiv (qa (qa (atI a0 0) 1048576) 16) 8) (2 + Int.tmod (Int.tdiv (qa (qa (atI a0 0) 1048576) 16) 4) 2) (2 + Int.tmod (Int.tdiv (qa (qa (atI a0 0) 1048576) 16) 2) 2) (2 + Int.tmod (qa (qa (atI a0 0) 1048576) 16) 2) 4 false false :=
  ⟨by decide, .inr rfl, by decide, by decide, by show (2 : Int) ≤ 57; decide, rfl⟩

/-! ### One step -/
theorem qji (h : Int.tmod (qa (ix a0 i) 1048576) 16 = 0 ∨ Int.tmod (qa (ix a0 i) 1048576) 16 = 1) {y : Mk} (hy : mkM nm S m0 m1 m2 m3 p o d = qdw (mkM nm' S' m0' m1' m2' m3' p' o' d') (Int.tdiv (qa (ix a0 i) 1048576) 16)) : qk a0 nm S m0 m1 m2 m3 p o d nm' S' m0' m1' m2' m3' p' o' d' i := by
  unfold qk jw
  rw [if_pos h]
  exact hy
end
end Go.Proofs.YtlkfjinaiepocaaDoor
