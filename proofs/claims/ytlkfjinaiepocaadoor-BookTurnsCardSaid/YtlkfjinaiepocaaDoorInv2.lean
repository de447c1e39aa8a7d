/- THE LOOPS' INVARIANTS of book.Check, Back, Turns, of the generator, of the laws. -/
import Derived.Test.YtlkfjinaiepocaaDoorInv
import Derived.Test.YtlkfjinaiepocaaDoorB2Spec
namespace Go.Proofs.YtlkfjinaiepocaaDoor
open Go Go.E2 Go.E3
structure Hold2 (p : Prop) : Prop where
  get : p
def qgc (_ : List UInt8) (a1 : List Page) (out : List Staff) (i : Int) : Prop := Hold2 (0 ≤ i ∧ i ≤ ln a1 ∧ out = qc (upto a1 i))
def qh5 (_ : List UInt8) (a1 : List Page) (_ : List Staff) (i : Int) : Nat := (ln a1 - i).toNat
def qi5 (a0 : List UInt8) (a1 : List Page) (i : Int) (nm : List UInt8) (S : List Sign) : Prop := Hold2 (0 ≤ i ∧ i ≤ ln (qc a1) ∧ nm = a0 ∧ S = kl (upto (qc a1) i))
def qkg (_ : List UInt8) (a1 : List Page) (i : Int) (_ : List UInt8) (_ : List Sign) : Nat := (ln (qc a1) - i).toNat
def qhs (_ : List UInt8) (a1 : List Page) (a2 : Int) (x n : Int) : Prop := Hold2 (0 ≤ n ∧ n ≤ ln (qc a1) ∧ 0 ≤ x ∧ x ≤ a2 ∧ qsf (fr (qc a1) n) n x = zj a1 a2)
def qja (_ : List UInt8) (a1 : List Page) (_ : Int) (_ n : Int) : Nat := (ln (qc a1) - n).toNat
def qgb (a0 : List Sign) (a1 : Int) (_ : Bool) (_ : Int) (a4 a5 : List Sign) (i : Int) : Prop := Hold2 (0 ≤ i ∧ i ≤ ln (upto a0 a1) ∧ ∀ j, 0 ≤ j → j < i → ix (upto a0 a1) j = ix (a4 ++ a5) j)
def qh4 (a0 : List Sign) (a1 : Int) (_ : Bool) (_ : Int) (_ _ : List Sign) (i : Int) : Nat := (ln (upto a0 a1) - i).toNat
def jt (_ : List UInt8) (a1 : List Page) (x : Int) : Prop := Hold2 (0 ≤ x ∧ x ≤ ln (qd a1) ∧ qic (fr (qd a1) x) x = qln (qd a1))
def qgg (_ : List UInt8) (a1 : List Page) (x : Int) : Nat := (ln (qd a1) - x).toNat
def zc (_ : List UInt8) (a1 : List Page) (x : Int) : Prop := Hold2 (0 ≤ x ∧ x ≤ ln (qd a1) ∧ qj8 a1 (qd a1) x = qj8 a1 (qd a1) 0)
def ql (_ : List UInt8) (a1 : List Page) (x : Int) : Nat := (ln (qd a1) - x).toNat
def jg (_ : List UInt8) (a1 : List Page) (y x : Int) : Prop := Hold2 (x + 1 ≤ y ∧ y ≤ ln (qd a1) ∧ tT (qd a1) y = tT (qd a1) (x + 1))
def qc7 (_ : List UInt8) (a1 : List Page) (y _ : Int) : Nat := (ln (qd a1) - y).toNat
def kv (_ : List UInt8) (a1 : List Page) (a n : Int) : Prop := Hold2 (0 ≤ n ∧ n ≤ ln (qc a1) ∧ a = ln (kl (upto (qc a1) n)) ∧ qqb (qd a1) (fr (qc a1) n) n a = qqb (qd a1) (qc a1) 0 0)
def qc8 (_ : List UInt8) (a1 : List Page) (_ n : Int) : Nat := (ln (qc a1) - n).toNat
def kc (_ : List UInt8) (a1 : List Page) (n : Int) (em : Bool) (i : Int) (c k : List Sign) : Prop := Hold2 (0 ≤ i ∧ i ≤ ln a1 ∧ 0 ≤ n ∧ n ≤ 500 * i ∧ ln c ≤ 1 ∧ ln k ≤ 1 ∧ qn (upto a1 i) ∧ qak (c, k) n em (fr a1 i) = qak ([], []) 0 false a1)
def qbe (_ : List UInt8) (a1 : List Page) (_ : Int) (_ : Bool) (i : Int) (_ _ : List Sign) : Nat := (ln a1 - i).toNat
def k7 (_ : List UInt8) (a1 : List Page) (n j : Int) (c k : List Sign) (em : Bool) (i : Int) : Prop := Hold2 (0 ≤ j ∧ j ≤ ln (ix a1 i).Staves ∧ 0 ≤ n ∧ n ≤ 500 * i + j ∧ ln c ≤ 1 ∧ ln k ≤ 1 ∧ (∀ s ∈ upto (ix a1 i).Staves j, qh2 s) ∧ qt6 (qcx (c, k) n j (fr (ix a1 i).Staves j)) em (fr a1 (i + 1)) = qak ([], []) 0 false a1)
def qfc (_ : List UInt8) (a1 : List Page) (_ j : Int) (_ _ : List Sign) (_ : Bool) (i : Int) : Nat := (ln (ix a1 i).Staves - j).toNat
def j4 (_ : List UInt8) (a1 : List Page) (x : Int) (c k : List Sign) (n : Int) (em : Bool) (i j : Int) : Prop := Hold2 (0 ≤ x ∧ x ≤ ln (qh7 (ix (ix a1 i).Staves j)) ∧ ln c ≤ 1 ∧ ln k ≤ 1 ∧
  qt6 (qcx (qvv (c, k) (fr (qh7 (ix (ix a1 i).Staves j)) x)) (n + 1) (j + 1) (fr (ix a1 i).Staves (j + 1))) em (fr a1 (i + 1)) = qak ([], []) 0 false a1)
def qfd (_ : List UInt8) (a1 : List Page) (x : Int) (_ _ : List Sign) (_ : Int) (_ : Bool) (i j : Int) : Nat := (ln (qh7 (ix (ix a1 i).Staves j)) - x).toNat

def q5m (s : List Int) (r : List Bool) (t : List Int × List Bool) : List Int × List Bool := (s ++ t.1, r ++ t.2)
def ke (_ : List UInt8) (a1 : List Page) (s : List Int) (r : List Bool) (a : Int) (q : Bool) (i : Int) : Prop := Hold2 (0 ≤ i ∧ i ≤ ln a1 ∧ ln s ≤ i ∧ ln r ≤ i ∧ a = ln (qd (upto a1 i)) - 1 ∧ q5m s r (zy a q (fr a1 i)) = zy (-1) false a1)
def qbf (_ : List UInt8) (a1 : List Page) (_ : List Int) (_ : List Bool) (_ : Int) (_ : Bool) (i : Int) : Nat := (ln a1 - i).toNat
def j5 (_ : List UInt8) (a1 : List Page) (a : Int) (q : Bool) (j : Int) (s : List Int) (r : List Bool) (i : Int) : Prop := Hold2 (0 ≤ j ∧ j ≤ ln (ix a1 i).Staves ∧ ∃ a' q', a = a' + ln (kl (upto (ix a1 i).Staves j)) ∧ q = qcy q' (kl (upto (ix a1 i).Staves j)) ∧ a' = ln (qd (upto a1 i)) - 1 ∧ q5m s r (zy a' q' (fr a1 i)) = zy (-1) false a1)
def qfe (_ : List UInt8) (a1 : List Page) (_ : Int) (_ : Bool) (j : Int) (_ : List Int) (_ : List Bool) (i : Int) : Nat := (ln (ix a1 i).Staves - j).toNat
def kf (_ : List UInt8) (a1 : List Page) (a : Int) (q : Bool) (x : Int) (s : List Int) (r : List Bool) (i j : Int) : Prop := Hold2 (0 ≤ x ∧ x ≤ ln (qh7 (ix (ix a1 i).Staves j)) ∧ ∃ a' q', a = a' + ln (kl (upto (ix a1 i).Staves j)) + x ∧ q = qcy (qcy q' (kl (upto (ix a1 i).Staves j))) (upto (qh7 (ix (ix a1 i).Staves j)) x) ∧ a' = ln (qd (upto a1 i)) - 1 ∧ q5m s r (zy a' q' (fr a1 i)) = zy (-1) false a1)
def kk (_ : List UInt8) (a1 : List Page) (_ : Int) (_ : Bool) (x : Int) (_ : List Int) (_ : List Bool) (i j : Int) : Nat := (ln (qh7 (ix (ix a1 i).Staves j)) - x).toNat

/-! ### The generator -/
def qby (a0 a1 a2 a3 a4 x : Int) : Prop := Hold2 (x ≤ a4 - 1 ∧ -1 ≤ x ∧ (a0 = 3 → 1 < a4 → 1 ≤ x) ∧ (a1 = 3 → 2 < a4 → 2 ≤ x) ∧ (a2 = 3 → 3 < a4 → 3 ≤ x) ∧ (a3 = 3 → 4 < a4 → 4 ≤ x))
def kg (_ _ _ _ _ x : Int) : Nat := (x + 1).toNat
def mkM (nm : List UInt8) (S : List Sign) (m0 m1 m2 m3 p : Int) (o d : Bool) : Mk := ⟨nm, S, m0, m1, m2, m3, p, o, d⟩
def qam (a0 : List Int) (i : Int) (nm : List UInt8) (S : List Sign) (m0 m1 m2 m3 p : Int) (o d : Bool) : Prop := Hold2 (1 ≤ i ∧ (i ≤ ln a0 ∨ i = 1) ∧ -4 ≤ p ∧ p ≤ 12 ∧ ln S ≤ 57 ∧ qdd a0 i (mkM nm S m0 m1 m2 m3 p o d) = qg4 a0)
def qd5 (a0 : List Int) (i : Int) (_ : List UInt8) (_ : List Sign) (_ _ _ _ _ : Int) (_ _ : Bool) : Nat := (ln a0 - i).toNat
def qk (a0 : List Int) (nm : List UInt8) (S : List Sign) (m0 m1 m2 m3 p : Int) (o d : Bool) (nm' : List UInt8) (S' : List Sign) (m0' m1' m2' m3' p' : Int) (o' d' : Bool) (i : Int) : Prop :=
  mkM nm S m0 m1 m2 m3 p o d = jw (mkM nm' S' m0' m1' m2' m3' p' o' d') (qa (ix a0 i) 1048576)
def qan (_ : List Int) (j : Int) (nm : List UInt8) (S : List Sign) (m0 m1 m2 m3 p : Int) (o d : Bool) (nm' : List UInt8) (S' : List Sign) (m0' m1' m2' m3' p' : Int) (o' d' : Bool) (n many : Int) : Prop :=
  Hold2 (0 ≤ j ∧ j ≤ 3 ∧ -4 ≤ p ∧ p ≤ 12 ∧ ln S ≤ ln S' + 3 ∧ ln S = ln S' + j ∧ qht n many j (mkM nm S m0 m1 m2 m3 p o d) = qht n many 0 (mkM nm' S' m0' m1' m2' m3' p' o' d'))
def qau (_ : List Int) (j : Int) (_ : List UInt8) (_ : List Sign) (_ _ _ _ _ : Int) (_ _ : Bool) (_ : List UInt8) (_ : List Sign) (_ _ _ _ _ : Int) (_ _ : Bool) (_ _ : Int) : Nat := (4 - j).toNat
def qfn (a0 : List Int) (l : List Sign) (i : Int) : Prop := Hold2 (0 ≤ i ∧ i ≤ ln (qw a0).2 ∧ l = jx (upto (qw a0).2 i))
def qem (a0 : List Int) (_ : List Sign) (i : Int) : Nat := (ln (qw a0).2 - i).toNat

/-! ### The laws -/
def bkP (a0 : List Int) (w h : Int) : List Page := (mkB (qb a0).1 (qb a0).2 w h).2.1
def qld (a0 : List Int) (a1 a2 i : Int) : Staff := ix (ix (bkP a0 (16 + qa a1 8) (1 + qa a2 3)) i).Staves (ln (ix (bkP a0 (16 + qa a1 8) (1 + qa a2 3)) i).Staves - 1)
def zb (a0 : List Int) (a1 a2 : Int) (i : Int) : Prop := Hold2 (0 ≤ i ∧ i ≤ ln (bkP a0 (16 + qa a1 8) (1 + qa a2 3)))
def zf (a0 : List Int) (a1 a2 : Int) (i : Int) : Nat := (ln (bkP a0 (16 + qa a1 8) (1 + qa a2 3)) - i).toNat
def qy (a0 : List Int) (a1 a2 : Int) (b : Bool) (k i : Int) : Prop := Hold2 (0 ≤ k ∧ k ≤ ln (qld a0 a1 a2 i).Signs ∧ b = (upto (qld a0 a1 a2 i).Signs k).any (fun s => decide (s.Kind = 2)))
def zg (a0 : List Int) (a1 a2 : Int) (_ : Bool) (k i : Int) : Nat := (ln (qld a0 a1 a2 i).Signs - k).toNat
end Go.Proofs.YtlkfjinaiepocaaDoor
