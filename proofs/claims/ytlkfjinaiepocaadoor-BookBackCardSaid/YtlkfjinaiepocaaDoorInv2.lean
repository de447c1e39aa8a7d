/- THE LOOPS' INVARIANTS of book.Check, Back, Turns, of the generator, of the laws. -/
import Derived.Test.YtlkfjinaiepocaaDoorInv
import Derived.Test.YtlkfjinaiepocaaDoorB2Spec
namespace Go.Proofs.YtlkfjinaiepocaaDoor
open Go Go.E2 Go.E3
structure Hold2 (p : Prop) : Prop where
  get : p
def qfz (_ : List UInt8) (a1 : List Page) (out : List Staff) (i : Int) : Prop := Hold2 (0 ≤ i ∧ i ≤ ln a1 ∧ out = qb (upto a1 i))
def qhr (_ : List UInt8) (a1 : List Page) (_ : List Staff) (i : Int) : Nat := (ln a1 - i).toNat
def qir (a0 : List UInt8) (a1 : List Page) (i : Int) (nm : List UInt8) (S : List Sign) : Prop := Hold2 (0 ≤ i ∧ i ≤ ln (qb a1) ∧ nm = a0 ∧ S = qdc (upto (qb a1) i))
def qj2 (_ : List UInt8) (a1 : List Page) (i : Int) (_ : List UInt8) (_ : List Sign) : Nat := (ln (qb a1) - i).toNat
def qhg (_ : List UInt8) (a1 : List Page) (a2 : Int) (x n : Int) : Prop := Hold2 (0 ≤ n ∧ n ≤ ln (qb a1) ∧ 0 ≤ x ∧ x ≤ a2 ∧ qr4 (fr (qb a1) n) n x = zf a1 a2)
def qiz (_ : List UInt8) (a1 : List Page) (_ : Int) (_ n : Int) : Nat := (ln (qb a1) - n).toNat
def qfy (a0 : List Sign) (a1 : Int) (_ : Bool) (_ : Int) (a4 a5 : List Sign) (i : Int) : Prop := Hold2 (0 ≤ i ∧ i ≤ ln (upto a0 a1) ∧ ∀ j, 0 ≤ j → j < i → ix (upto a0 a1) j = ix (a4 ++ a5) j)
def qhq (a0 : List Sign) (a1 : Int) (_ : Bool) (_ : Int) (_ _ : List Sign) (i : Int) : Nat := (ln (upto a0 a1) - i).toNat
def jl (_ : List UInt8) (a1 : List Page) (x : Int) : Prop := Hold2 (0 ≤ x ∧ x ≤ ln (qc a1) ∧ qhx (fr (qc a1) x) x = qla (qc a1))
def qf3 (_ : List UInt8) (a1 : List Page) (x : Int) : Nat := (ln (qc a1) - x).toNat
def zb (_ : List UInt8) (a1 : List Page) (x : Int) : Prop := Hold2 (0 ≤ x ∧ x ≤ ln (qc a1) ∧ qjv a1 (qc a1) x = qjv a1 (qc a1) 0)
def qk (_ : List UInt8) (a1 : List Page) (x : Int) : Nat := (ln (qc a1) - x).toNat
def k9 (_ : List UInt8) (a1 : List Page) (y x : Int) : Prop := Hold2 (x + 1 ≤ y ∧ y ≤ ln (qc a1) ∧ tT (qc a1) y = tT (qc a1) (x + 1))
def qcu (_ : List UInt8) (a1 : List Page) (y _ : Int) : Nat := (ln (qc a1) - y).toNat
def km (_ : List UInt8) (a1 : List Page) (a n : Int) : Prop := Hold2 (0 ≤ n ∧ n ≤ ln (qb a1) ∧ a = ln (qdc (upto (qb a1) n)) ∧ qpz (qc a1) (fr (qb a1) n) n a = qpz (qc a1) (qb a1) 0 0)
def qcv (_ : List UInt8) (a1 : List Page) (_ n : Int) : Nat := (ln (qb a1) - n).toNat
def z8 (_ : List UInt8) (a1 : List Page) (n : Int) (em : Bool) (i : Int) (c k : List Sign) : Prop := Hold2 (0 ≤ i ∧ i ≤ ln a1 ∧ 0 ≤ n ∧ n ≤ 500 * i ∧ ln c ≤ 1 ∧ ln k ≤ 1 ∧ qn (upto a1 i) ∧ qad (c, k) n em (fr a1 i) = qad ([], []) 0 false a1)
def qa3 (_ : List UInt8) (a1 : List Page) (_ : Int) (_ : Bool) (i : Int) (_ _ : List Sign) : Nat := (ln a1 - i).toNat
def kv (_ : List UInt8) (a1 : List Page) (n j : Int) (c k : List Sign) (em : Bool) (i : Int) : Prop := Hold2 (0 ≤ j ∧ j ≤ ln (ix a1 i).Staves ∧ 0 ≤ n ∧ n ≤ 500 * i + j ∧ ln c ≤ 1 ∧ ln k ≤ 1 ∧ (∀ s ∈ upto (ix a1 i).Staves j, qib s) ∧ qtw (qck (c, k) n j (fr (ix a1 i).Staves j)) em (fr a1 (i + 1)) = qad ([], []) 0 false a1)
def qe3 (_ : List UInt8) (a1 : List Page) (_ j : Int) (_ _ : List Sign) (_ : Bool) (i : Int) : Nat := (ln (ix a1 i).Staves - j).toNat
def jt (_ : List UInt8) (a1 : List Page) (x : Int) (c k : List Sign) (n : Int) (em : Bool) (i j : Int) : Prop := Hold2 (0 ≤ x ∧ x ≤ ln (qoe (ix (ix a1 i).Staves j)) ∧ ln c ≤ 1 ∧ ln k ≤ 1 ∧
  qtw (qck (qvo (c, k) (fr (qoe (ix (ix a1 i).Staves j)) x)) (n + 1) (j + 1) (fr (ix a1 i).Staves (j + 1))) em (fr a1 (i + 1)) = qad ([], []) 0 false a1)
def qe4 (_ : List UInt8) (a1 : List Page) (x : Int) (_ _ : List Sign) (_ : Int) (_ : Bool) (i j : Int) : Nat := (ln (qoe (ix (ix a1 i).Staves j)) - x).toNat

/-! ### The generator -/
def qbm (a0 a1 a2 a3 a4 x : Int) : Prop := Hold2 (x ≤ a4 - 1 ∧ -1 ≤ x ∧ (a0 = 3 → 1 < a4 → 1 ≤ x) ∧ (a1 = 3 → 2 < a4 → 2 ≤ x) ∧ (a2 = 3 → 3 < a4 → 3 ≤ x) ∧ (a3 = 3 → 4 < a4 → 4 ≤ x))
def z9 (_ _ _ _ _ x : Int) : Nat := (x + 1).toNat
def mkM (nm : List UInt8) (S : List Sign) (m0 m1 m2 m3 p : Int) (o d : Bool) : Mk := ⟨nm, S, m0, m1, m2, m3, p, o, d⟩
def qaf (a0 : List Int) (i : Int) (nm : List UInt8) (S : List Sign) (m0 m1 m2 m3 p : Int) (o d : Bool) : Prop := Hold2 (1 ≤ i ∧ (i ≤ ln a0 ∨ i = 1) ∧ -4 ≤ p ∧ p ≤ 12 ∧ ln S ≤ 57 ∧ qc0 a0 i (mkM nm S m0 m1 m2 m3 p o d) = qgr a0)
def qdw (a0 : List Int) (i : Int) (_ : List UInt8) (_ : List Sign) (_ _ _ _ _ : Int) (_ _ : Bool) : Nat := (ln a0 - i).toNat
def qj (a0 : List Int) (nm : List UInt8) (S : List Sign) (m0 m1 m2 m3 p : Int) (o d : Bool) (nm' : List UInt8) (S' : List Sign) (m0' m1' m2' m3' p' : Int) (o' d' : Bool) (i : Int) : Prop :=
  mkM nm S m0 m1 m2 m3 p o d = jo (mkM nm' S' m0' m1' m2' m3' p' o' d') (qa (ix a0 i) 1048576)
def qag (_ : List Int) (j : Int) (nm : List UInt8) (S : List Sign) (m0 m1 m2 m3 p : Int) (o d : Bool) (nm' : List UInt8) (S' : List Sign) (m0' m1' m2' m3' p' : Int) (o' d' : Bool) (n many : Int) : Prop :=
  Hold2 (0 ≤ j ∧ j ≤ 3 ∧ -4 ≤ p ∧ p ≤ 12 ∧ ln S ≤ ln S' + 3 ∧ ln S = ln S' + j ∧ qhh n many j (mkM nm S m0 m1 m2 m3 p o d) = qhh n many 0 (mkM nm' S' m0' m1' m2' m3' p' o' d'))
def qam (_ : List Int) (j : Int) (_ : List UInt8) (_ : List Sign) (_ _ _ _ _ : Int) (_ _ : Bool) (_ : List UInt8) (_ : List Sign) (_ _ _ _ _ : Int) (_ _ : Bool) (_ _ : Int) : Nat := (4 - j).toNat
def qfd (a0 : List Int) (l : List Sign) (i : Int) : Prop := Hold2 (0 ≤ i ∧ i ≤ ln (qu a0).2 ∧ l = jq (upto (qu a0).2 i))
def qeb (a0 : List Int) (_ : List Sign) (i : Int) : Nat := (ln (qu a0).2 - i).toNat

/-! ### The laws -/
def bkP (a0 : List Int) (w h : Int) : List Page := (mkB (qm a0).1 (qm a0).2 w h).2.1
def ka (a0 : List Int) (a1 a2 : Int) (i : Int) : Prop := Hold2 (0 ≤ i ∧ i ≤ ln (bkP a0 (16 + qa a1 45) (1 + qa a2 12)))
def j5 (a0 : List Int) (a1 a2 : Int) (i : Int) : Nat := (ln (bkP a0 (16 + qa a1 45) (1 + qa a2 12)) - i).toNat
def kb (a0 : List Int) (a1 a2 : Int) (k i : Int) : Prop := Hold2 (0 ≤ k ∧ k ≤ ln (ix (bkP a0 (16 + qa a1 45) (1 + qa a2 12)) i).Staves)
def j6 (a0 : List Int) (a1 a2 : Int) (k i : Int) : Nat := (ln (ix (bkP a0 (16 + qa a1 45) (1 + qa a2 12)) i).Staves - k).toNat
end Go.Proofs.YtlkfjinaiepocaaDoor
