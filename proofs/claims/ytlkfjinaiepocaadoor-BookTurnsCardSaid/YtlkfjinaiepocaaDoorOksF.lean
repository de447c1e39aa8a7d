/- THE CONDITION of the generator's loop holds. -/
import Derived.Test.YtlkfjinaiepocaaDoorOksG
namespace Go.Proofs.YtlkfjinaiepocaaDoor
open Go Go.E2 Go.E3
set_option maxRecDepth 100000
section
variable {a0 : List Int} {i : Int} {nm : List UInt8} {S : List Sign} {m0 m1 m2 m3 p : Int} {o d : Bool}
theorem o0 (h : Int.tmod (qa (ix a0 i) 1048576) 16 = 0 ∨ Int.tmod (qa (ix a0 i) 1048576) 16 = 1) (h6 : Int.tmod (Int.tdiv (qa (ix a0 i) 1048576) 16) 6 = 0) (ho : o = false) :
    qk a0 nm (S ++ [qne (Int.tdiv (Int.tdiv (qa (ix a0 i) 1048576) 16) 6) (decide (Int.tmod (Int.tdiv (Int.tdiv (qa (ix a0 i) 1048576) 16) 96) 2 = 0))]) (qr6 (Int.tdiv (Int.tdiv (qa (ix a0 i) 1048576) 16) 6)) (qr7 (Int.tdiv (Int.tdiv (qa (ix a0 i) 1048576) 16) 6)) (ql6 (Int.tdiv (Int.tdiv (qa (ix a0 i) 1048576) 16) 6)) (qr8 (Int.tdiv (Int.tdiv (qa (ix a0 i) 1048576) 16) 6)) p o false nm S m0 m1 m2 m3 p o d i := by
  refine qji h (y := mkM nm S m0 m1 m2 m3 p o d) ?_
  unfold qdw
  rw [if_pos h6, if_pos (show (mkM nm S m0 m1 m2 m3 p o d).opn = false from ho)]
  rfl
theorem o0n (h : Int.tmod (qa (ix a0 i) 1048576) 16 = 0 ∨ Int.tmod (qa (ix a0 i) 1048576) 16 = 1) (h6 : Int.tmod (Int.tdiv (qa (ix a0 i) 1048576) 16) 6 = 0) (ho : o = true) : qk a0 nm S m0 m1 m2 m3 p o d nm S m0 m1 m2 m3 p o d i := by
  refine qji h (y := mkM nm S m0 m1 m2 m3 p o d) ?_
  unfold qdw
  rw [if_pos h6, if_neg (show ¬ (mkM nm S m0 m1 m2 m3 p o d).opn = false from fun hh => by have hh : o = false := hh; rw [ho] at hh; cases hh)]
theorem o1 (h : Int.tmod (qa (ix a0 i) 1048576) 16 = 0 ∨ Int.tmod (qa (ix a0 i) 1048576) 16 = 1) (h0 : Int.tmod (Int.tdiv (qa (ix a0 i) 1048576) 16) 6 ≠ 0) (h6 : Int.tmod (Int.tdiv (qa (ix a0 i) 1048576) 16) 6 = 1) (ho : o = false) :
    qk a0 nm (S ++ [Sign.mk 6 0 0 0 false 0 false false 0 0 0 0 false (1 + Int.tmod (Int.tdiv (Int.tdiv (qa (ix a0 i) 1048576) 16) 6) 4) (1 + Int.tmod (Int.tdiv (Int.tdiv (qa (ix a0 i) 1048576) 16) 24) 4) 0 0]) m0 m1 m2 m3 p o false nm S m0 m1 m2 m3 p o d i := by
  refine qji h (y := mkM nm S m0 m1 m2 m3 p o d) ?_
  unfold qdw
  rw [if_neg h0, if_pos h6, if_pos (show (mkM nm S m0 m1 m2 m3 p o d).opn = false from ho)]
  rfl
theorem o1n (h : Int.tmod (qa (ix a0 i) 1048576) 16 = 0 ∨ Int.tmod (qa (ix a0 i) 1048576) 16 = 1) (h0 : Int.tmod (Int.tdiv (qa (ix a0 i) 1048576) 16) 6 ≠ 0) (h6 : Int.tmod (Int.tdiv (qa (ix a0 i) 1048576) 16) 6 = 1) (ho : o = true) : qk a0 nm S m0 m1 m2 m3 p o d nm S m0 m1 m2 m3 p o d i := by
  refine qji h (y := mkM nm S m0 m1 m2 m3 p o d) ?_
  unfold qdw
  rw [if_neg h0, if_pos h6, if_neg (show ¬ (mkM nm S m0 m1 m2 m3 p o d).opn = false from fun hh => by have hh : o = false := hh; rw [ho] at hh; cases hh)]
theorem o2 (h : Int.tmod (qa (ix a0 i) 1048576) 16 = 0 ∨ Int.tmod (qa (ix a0 i) 1048576) 16 = 1) (h0 : Int.tmod (Int.tdiv (qa (ix a0 i) 1048576) 16) 6 ≠ 0) (h1 : Int.tmod (Int.tdiv (qa (ix a0 i) 1048576) 16) 6 ≠ 1) (h6 : Int.tmod (Int.tdiv (qa (ix a0 i) 1048576) 16) 6 = 2) :
    qk a0 nm (S ++ [Sign.mk 7 0 0 0 false 0 false false 0 0 0 0 false 0 0 (ix [0, 3, 4] (Int.tmod (Int.tdiv (Int.tdiv (qa (ix a0 i) 1048576) 16) 6) 3)) (1 + Int.tmod (Int.tdiv (Int.tdiv (qa (ix a0 i) 1048576) 16) 18) 5)]) m0 m1 m2 m3 p o d nm S m0 m1 m2 m3 p o d i := by
  refine qji h (y := mkM nm S m0 m1 m2 m3 p o d) ?_
  unfold qdw
  rw [if_neg h0, if_neg h1, if_pos h6]
  rfl
theorem o3 (h : Int.tmod (qa (ix a0 i) 1048576) 16 = 0 ∨ Int.tmod (qa (ix a0 i) 1048576) 16 = 1) (h0 : Int.tmod (Int.tdiv (qa (ix a0 i) 1048576) 16) 6 ≠ 0) (h1 : Int.tmod (Int.tdiv (qa (ix a0 i) 1048576) 16) 6 ≠ 1) (h2 : Int.tmod (Int.tdiv (qa (ix a0 i) 1048576) 16) 6 ≠ 2) (h6 : Int.tmod (Int.tdiv (qa (ix a0 i) 1048576) 16) 6 = 3) :
    qk a0 nm (S ++ [Sign.mk 8 0 0 0 false 0 false false 0 0 0 0 false (Int.tmod (Int.tdiv (Int.tdiv (qa (ix a0 i) 1048576) 16) 6) 3) 0 0 0]) m0 m1 m2 m3 p o d nm S m0 m1 m2 m3 p o d i := by
  refine qji h (y := mkM nm S m0 m1 m2 m3 p o d) ?_
  unfold qdw
  rw [if_neg h0, if_neg h1, if_neg h2, if_pos h6]
  rfl
theorem o4 (h : Int.tmod (qa (ix a0 i) 1048576) 16 = 0 ∨ Int.tmod (qa (ix a0 i) 1048576) 16 = 1) (h0 : Int.tmod (Int.tdiv (qa (ix a0 i) 1048576) 16) 6 ≠ 0) (h1 : Int.tmod (Int.tdiv (qa (ix a0 i) 1048576) 16) 6 ≠ 1) (h2 : Int.tmod (Int.tdiv (qa (ix a0 i) 1048576) 16) 6 ≠ 2) (h3 : Int.tmod (Int.tdiv (qa (ix a0 i) 1048576) 16) 6 ≠ 3) (h6 : Int.tmod (Int.tdiv (qa (ix a0 i) 1048576) 16) 6 = 4) :
    qk a0 nm (S ++ [Sign.mk (ix [11, 12] (Int.tmod (Int.tdiv (Int.tdiv (qa (ix a0 i) 1048576) 16) 6) 2)) 0 0 0 false 0 false false 0 0 0 0 false 0 0 0 0]) m0 m1 m2 m3 p o d nm S m0 m1 m2 m3 p o d i := by
  refine qji h (y := mkM nm S m0 m1 m2 m3 p o d) ?_
  unfold qdw
  rw [if_neg h0, if_neg h1, if_neg h2, if_neg h3, if_pos h6]
  rfl
theorem o5 (h : Int.tmod (qa (ix a0 i) 1048576) 16 = 0 ∨ Int.tmod (qa (ix a0 i) 1048576) 16 = 1) (h0 : Int.tmod (Int.tdiv (qa (ix a0 i) 1048576) 16) 6 ≠ 0) (h1 : Int.tmod (Int.tdiv (qa (ix a0 i) 1048576) 16) 6 ≠ 1) (h2 : Int.tmod (Int.tdiv (qa (ix a0 i) 1048576) 16) 6 ≠ 2) (h3 : Int.tmod (Int.tdiv (qa (ix a0 i) 1048576) 16) 6 ≠ 3) (h4 : Int.tmod (Int.tdiv (qa (ix a0 i) 1048576) 16) 6 ≠ 4) (ho : o = true) :
    qk a0 nm (S ++ [Sign.mk 10 0 0 0 false 0 false false 0 0 0 0 false (2 + Int.tmod (Int.tdiv (Int.tdiv (qa (ix a0 i) 1048576) 16) 6) 3) 0 0 0]) m0 m1 m2 m3 p (!o) false nm S m0 m1 m2 m3 p o d i := by
  refine qji h (y := mkM nm S m0 m1 m2 m3 p o d) ?_
  unfold qdw
  rw [if_neg h0, if_neg h1, if_neg h2, if_neg h3, if_neg h4, if_pos (show (mkM nm S m0 m1 m2 m3 p o d).opn = true from ho)]
  rfl
theorem o6 (h : Int.tmod (qa (ix a0 i) 1048576) 16 = 0 ∨ Int.tmod (qa (ix a0 i) 1048576) 16 = 1) (h0 : Int.tmod (Int.tdiv (qa (ix a0 i) 1048576) 16) 6 ≠ 0) (h1 : Int.tmod (Int.tdiv (qa (ix a0 i) 1048576) 16) 6 ≠ 1) (h2 : Int.tmod (Int.tdiv (qa (ix a0 i) 1048576) 16) 6 ≠ 2) (h3 : Int.tmod (Int.tdiv (qa (ix a0 i) 1048576) 16) 6 ≠ 3) (h4 : Int.tmod (Int.tdiv (qa (ix a0 i) 1048576) 16) 6 ≠ 4) (ho : o = false) :
    qk a0 nm (S ++ [Sign.mk 9 0 0 0 false 0 false false 0 0 0 0 false 0 0 0 0]) m0 m1 m2 m3 p (!o) false nm S m0 m1 m2 m3 p o d i := by
  refine qji h (y := mkM nm S m0 m1 m2 m3 p o d) ?_
  unfold qdw
  rw [if_neg h0, if_neg h1, if_neg h2, if_neg h3, if_neg h4, if_neg (show ¬ (mkM nm S m0 m1 m2 m3 p o d).opn = true from fun hh => by have hh : o = true := hh; rw [ho] at hh; cases hh)]
  rfl
theorem r1 (h : Int.tmod (qa (ix a0 i) 1048576) 16 = 3 ∨ Int.tmod (qa (ix a0 i) 1048576) 16 = 4) : qk a0 nm (S ++ [Sign.mk 2 (2 + Int.tmod (Int.tdiv (qa (ix a0 i) 1048576) 16) 6) 0 0 false 0 false false 0 0 0 0 false 0 0 0 0]) m0 m1 m2 m3 p o (qco m0 m1 m2 m3 (2 + Int.tmod (Int.tdiv (qa (ix a0 i) 1048576) 16) 6)) nm S m0 m1 m2 m3 p o d i := by
  unfold qk jw
  rw [if_neg (by omega), if_neg (by omega), if_pos h]
  rfl
theorem d1 (h : Int.tmod (qa (ix a0 i) 1048576) 16 = 5 ∨ Int.tmod (qa (ix a0 i) 1048576) 16 = 6 ∨ Int.tmod (qa (ix a0 i) 1048576) 16 = 7) (hd : d = true) : qk a0 nm (S ++ [Sign.mk 3 0 0 0 false 0 false false 0 0 0 0 false 0 0 0 0]) m0 m1 m2 m3 p o false nm S m0 m1 m2 m3 p o d i := by
  unfold qk jw
  rw [if_neg (by omega), if_neg (by omega), if_neg (by omega), if_pos h, if_pos (show (mkM nm S m0 m1 m2 m3 p o d).dots = true from hd)]
  rfl
theorem d0 (h : Int.tmod (qa (ix a0 i) 1048576) 16 = 5 ∨ Int.tmod (qa (ix a0 i) 1048576) 16 = 6 ∨ Int.tmod (qa (ix a0 i) 1048576) 16 = 7) (hd : d = false) : qk a0 nm S m0 m1 m2 m3 p o d nm S m0 m1 m2 m3 p o d i := by
  unfold qk jw
  rw [if_neg (by omega), if_neg (by omega), if_neg (by omega), if_pos h, if_neg (show ¬ (mkM nm S m0 m1 m2 m3 p o d).dots = true from fun hh => by have hh : d = true := hh; rw [hd] at hh; cases hh)]
theorem st1 {n e : Int} (he : e = (p + qa n 5) - 2) (h : e < -4) : (4 : Int) = qf3 n p := by subst he; unfold qf3; rw [if_pos h]
theorem st2 {n e : Int} (he : e = (p + qa n 5) - 2) (h : 12 < e) : (4 : Int) = qf3 n p := by subst he; unfold qf3; rw [if_neg (by omega), if_pos h]
theorem st3 {n e : Int} (he : e = (p + qa n 5) - 2) (h1 : -4 ≤ e) (h2 : e ≤ 12) : e = qf3 n p := by subst he; unfold qf3; rw [if_neg (by omega), if_neg (by omega)]
theorem n1 {q : Int} (h0 : Int.tmod (qa (ix a0 i) 1048576) 16 ≠ 0) (h1 : Int.tmod (qa (ix a0 i) 1048576) 16 ≠ 1) (h2 : Int.tmod (qa (ix a0 i) 1048576) 16 ≠ 2) (h3 : Int.tmod (qa (ix a0 i) 1048576) 16 ≠ 3) (h4 : Int.tmod (qa (ix a0 i) 1048576) 16 ≠ 4) (h5 : Int.tmod (qa (ix a0 i) 1048576) 16 ≠ 5) (h6 : Int.tmod (qa (ix a0 i) 1048576) 16 ≠ 6) (h7 : Int.tmod (qa (ix a0 i) 1048576) 16 ≠ 7) (hq : q = qf3 (Int.tdiv (qa (ix a0 i) 1048576) 96) p) :
    qk a0 nm (S ++ [Sign.mk 1 (2 + Int.tmod (Int.tdiv (qa (ix a0 i) 1048576) 16) 6) q (ix [0, 0, 0, 0, (-1), 1, 2] (Int.tmod (Int.tdiv (Int.tdiv (qa (ix a0 i) 1048576) 96) 5) 7)) (decide (Int.tmod (Int.tdiv (Int.tdiv (qa (ix a0 i) 1048576) 96) 35) 6 = 0)) 0 false false 0 0 0 0 false 0 0 0 0]) m0 m1 m2 m3 q o true nm S m0 m1 m2 m3 p o d i := by
  unfold qk jw
  rw [if_neg (by omega), if_neg (by omega), if_neg (by omega), if_neg (by omega), hq]
  rfl
end

set_option maxHeartbeats 4000000 in
theorem q8r (a0 : List Int) (hp : ln a0 ≤ 80 ∧ ∀ n ∈ a0, I64 n) : qvf a0 := by
  have hat : -9223372036854775808 ≤ atI a0 0 ∧ atI a0 0 ≤ 9223372036854775807 := by
    unfold atI
    split
    · exact ⟨by decide, by decide⟩
    · exact hp.2 _ (qbd (by omega) (by omega))
  have hix : ∀ i, 1 ≤ i → i < ln a0 → I64 (ix a0 i) := fun i h h' => hp.2 _ (qbd (by omega) h')
  have hlen := hp.1
  unfold qvf
  unhygienic (repeat' (first | with_reducible exact trivial | with_reducible rfl | apply And.intro | intro))
  all_goals first
    | with_reducible exact zbh
    | with_reducible exact zdg (by assumption) (by assumption) (by assumption) (by assumption)
    | with_reducible exact zci (by assumption)
    | with_reducible exact zcj (by assumption) (by first | exact .inl (by assumption) | exact .inr (by assumption))
    | with_reducible exact zck (by assumption) (by first | exact .inl (by assumption) | exact .inr (by assumption)) (by assumption)
    | with_reducible exact zcl (by assumption) (by first | exact .inl (by assumption) | exact .inr (by assumption)) (by assumption)
    | with_reducible exact o0 (by first | exact .inl (by assumption) | exact .inr (by assumption)) (by assumption) (by assumption)
    | with_reducible exact o0n (by first | exact .inl (by assumption) | exact .inr (by assumption)) (by assumption) (by assumption)
    | with_reducible exact o1 (by first | exact .inl (by assumption) | exact .inr (by assumption)) (by assumption) (by assumption) (by assumption)
    | with_reducible exact o1n (by first | exact .inl (by assumption) | exact .inr (by assumption)) (by assumption) (by assumption) (by assumption)
    | with_reducible exact o2 (by first | exact .inl (by assumption) | exact .inr (by assumption)) (by assumption) (by assumption) (by assumption)
    | with_reducible exact o3 (by first | exact .inl (by assumption) | exact .inr (by assumption)) (by assumption) (by assumption) (by assumption) (by assumption)
    | with_reducible exact o4 (by first | exact .inl (by assumption) | exact .inr (by assumption)) (by assumption) (by assumption) (by assumption) (by assumption) (by assumption)
    | with_reducible exact o5 (by first | exact .inl (by assumption) | exact .inr (by assumption)) (by assumption) (by assumption) (by assumption) (by assumption) (by assumption) (by assumption)
    | with_reducible exact o6 (by first | exact .inl (by assumption) | exact .inr (by assumption)) (by assumption) (by assumption) (by assumption) (by assumption) (by assumption) (by assumption)
    | with_reducible exact r1 (by first | exact .inl (by assumption) | exact .inr (by assumption))
    | with_reducible exact d1 (by first | exact .inl (by assumption) | exact .inr (.inl (by assumption)) | exact .inr (.inr (by assumption))) (by assumption)
    | with_reducible exact d0 (by first | exact .inl (by assumption) | exact .inr (.inl (by assumption)) | exact .inr (.inr (by assumption))) (by assumption)
    | with_reducible exact n1 (by assumption) (by assumption) (by assumption) (by assumption) (by assumption) (by assumption) (by assumption) (by assumption) (by first | exact st1 rfl (by assumption) | exact st2 rfl (by assumption) | exact st3 rfl (by assumption) (by assumption))
    | with_reducible exact zed (by assumption) (by assumption) (by have := (nbq (Int.tdiv (qa (ix a0 x0) 1048576) 16) (nb (qa (ix a0 x0) 1048576) nb2.1 nb2.2).2.2.1.1).2.2.2.2.2.2.2.2.2.2.2.2.2.2.1; omega) (by first | exact lp1 rfl (by assumption) | exact lp2 rfl (by assumption) | exact lp3 rfl (by assumption) (by assumption))
    | with_reducible exact zef (by assumption) (by assumption) (by have := (nbq (Int.tdiv (qa (ix a0 x0) 1048576) 16) (nb (qa (ix a0 x0) 1048576) nb2.1 nb2.2).2.2.1.1).2.2.2.2.2.2.2.2.2.2.2.2.2.2.1; omega)
    | with_reducible exact zee (by assumption) (by assumption) (by assumption)
    | skip
  all_goals first
    | omega
    | (have := q9w (by assumption); exact (hix _ this.1 (by assumption)).1)
    | (have := q9w (by assumption); exact (hix _ this.1 (by assumption)).2)
    | (have g0 := q9w (by assumption); have h1 := nb (qa (ix a0 x0) 1048576) nb2.1 nb2.2; have h2 := nbq (Int.tdiv (qa (ix a0 x0) 1048576) 16) h1.2.2.1.1; have h3 := nbm (qa (Int.tdiv (Int.tdiv (qa (ix a0 x0) 1048576) 16) 6) 16) h1.2.2.2.2.2.2.2.2.2.2.2.2.2.2.1 h1.2.2.2.2.2.2.2.2.2.2.2.2.2.2.2; first | omega | exact qhf (by omega))
    | (have g0 := q9w (by assumption); have g2 := zea (by assumption); have h1 := nb (qa (ix a0 x0) 1048576) nb2.1 nb2.2; have h2 := nbq (Int.tdiv (qa (ix a0 x0) 1048576) 16) h1.2.2.1.1; first | omega | exact qhf (by omega))
    | (have h1 := nb (qa (atI a0 0) 1048576) nbA.1 nbA.2; have h3 := nbm (qa (qa (atI a0 0) 1048576) 16) h1.2.2.2.2.2.2.2.2.2.2.2.2.2.1.1 h1.2.2.2.2.2.2.2.2.2.2.2.2.2.1.2; first | omega | exact qhf (by decide))
    | (have h1 := nb (qa (ix a0 x0) 1048576) nb2.1 nb2.2; have h2 := nbq (Int.tdiv (qa (ix a0 x0) 1048576) 16) h1.2.2.1.1; with_reducible exact zec (by omega) (by omega))
    | exact o0 (by first | exact .inl (by assumption) | exact .inr (by assumption)) (by assumption) (by assumption)
    | exact zbh
    | (simp only [ka, List.length_append, List.length_cons, List.length_nil]; decide)
    | skip
end Go.Proofs.YtlkfjinaiepocaaDoor
