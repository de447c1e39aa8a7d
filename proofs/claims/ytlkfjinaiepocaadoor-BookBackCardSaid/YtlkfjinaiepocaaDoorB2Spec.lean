/- WHAT book.Check, Back, Turns COMPUTE, in plain Lean; no program in sight. -/
import Derived.Test.YtlkfjinaiepocaaDoorGenSpec
namespace Go.Proofs.YtlkfjinaiepocaaDoor
open Go Go.E2 Go.E3

/-- A book that isn't too great. -/
def smB (g : List Page) : Prop := ln g ≤ 500 ∧ ∀ p ∈ g, ln p.Staves ≤ 500 ∧ ∀ s ∈ p.Staves, ln s.Signs ≤ 500
def qb (g : List Page) : List Staff := g.flatMap fun p => p.Staves
def qoe (s : Staff) : List Sign := fr s.Signs s.Lead
def qdc (l : List Staff) : List Sign := l.flatMap qoe
def qc (g : List Page) : List Sign := qdc (qb g)
def qib (s : Staff) : Prop := 0 ≤ s.Lead ∧ s.Lead ≤ ln s.Signs
def qn (g : List Page) : Prop := ∀ s ∈ qb g, qib s
def qr4 : List Staff → Int → Int → Int
  | [], _, _ => 0
  | s :: l, n, i => if i - (ln s.Signs - s.Lead) < 0 then n else qr4 l (n + 1) (i - (ln s.Signs - s.Lead))
def zf (g : List Page) (i : Int) : Int := qr4 (qb g) 0 i
def kg (s : Staff) (c k : List Sign) : Int := if 60 < ln s.Signs then 11 else if s.Lead < 0 then 2 else if ln s.Signs ≤ s.Lead then 2 else if upto s.Signs s.Lead = c ++ k then 0 else 6
def qvo (f : List Sign × List Sign) (l : List Sign) : List Sign × List Sign := l.foldl (fun f s => kc f.1 f.2 s) f
def qjv (g : List Page) (l : List Sign) (i : Int) : Int × Int := if h : i < ln l then (if zf g i = zf g (gE l i - 1) then qjv g l (gE l i) else (6, zf g i)) else (0, 0)
 termination_by (ln l - i).toNat
 decreasing_by have := qhz h; omega
theorem qt9 {g : List Page} {l : List Sign} {i : Int} (h : i < ln l) (he : zf g i = zf g (gE l i - 1)) : qjv g l i = qjv g l (gE l i) := by rw [qjv, dif_pos h, if_pos he]
theorem q6b {g : List Page} {l : List Sign} {i : Int} (h : i < ln l) (he : zf g i ≠ zf g (gE l i - 1)) : qjv g l i = (6, zf g i) := by rw [qjv, dif_pos h, if_neg he]
theorem qx4 {g : List Page} {l : List Sign} {i : Int} (h : ln l ≤ i) : qjv g l i = (0, 0) := by rw [qjv, dif_neg (by omega)]
def qpz (l : List Sign) : List Staff → Int → Int → Int × Int
  | [], _, _ => (0, 0)
  | s :: r, n, a => if s.Catch = (qqu l (a + (ln s.Signs - s.Lead))).1 ∧ s.Custos = (qqu l (a + (ln s.Signs - s.Lead))).2 then qpz l r (n + 1) (a + (ln s.Signs - s.Lead)) else (3, n)
def za (nm : List UInt8) (g : List Page) : Int × Int :=
  if (zh nm (qc g)).1 ≠ 0 then ((zh nm (qc g)).1, zf g (zh nm (qc g)).2)
  else if 0 ≤ qla (qc g) then (8, zf g (qla (qc g)))
  else if (qjv g (qc g) 0).1 ≠ 0 then qjv g (qc g) 0
  else qpz (qc g) (qb g) 0 0
def qck (f : List Sign × List Sign) (n j : Int) : List Staff → Int × (List Sign × List Sign) × Int
  | [] => (0, f, n)
  | s :: l => if 12 ≤ j then (11, f, n) else if kg s f.1 f.2 ≠ 0 then (kg s f.1 f.2, f, n) else qck (qvo f (qoe s)) (n + 1) (j + 1) l
def qad (f : List Sign × List Sign) (n : Int) (empty : Bool) : List Page → Int × Int × Bool
  | [] => (0, n, empty)
  | p :: g => if p.Staves = [] then qad f n true g
      else if (qck f n 0 p.Staves).1 ≠ 0 then ((qck f n 0 p.Staves).1, (qck f n 0 p.Staves).2.2, false)
      else qad (qck f n 0 p.Staves).2.1 (qck f n 0 p.Staves).2.2 empty g
/-- What comes behind a page. -/
def qtw (r : Int × (List Sign × List Sign) × Int) (empty : Bool) (g : List Page) : Int × Int × Bool := if r.1 ≠ 0 then (r.1, r.2.2, false) else qad r.2.1 r.2.2 empty g
theorem qox {f : List Sign × List Sign} {n : Int} {empty : Bool} {p : Page} {g : List Page} (h : p.Staves ≠ []) : qad f n empty (p :: g) = qtw (qck f n 0 p.Staves) empty g := by
  simp only [qad, if_neg h, qtw]
def kk (nm : List UInt8) (g : List Page) : Int × Int :=
  if jm nm = false then (7, 0) else if (qad ([], []) 0 false g).1 ≠ 0 then ((qad ([], []) 0 false g).1, (qad ([], []) 0 false g).2.1)
  else if (qad ([], []) 0 false g).2.2 = true then (2, (qad ([], []) 0 false g).2.1) else za nm g
def qbt (nm : List UInt8) (g : List Page) : List UInt8 × List Sign × Int := if (kk nm g).1 ≠ 0 then ([], [], (kk nm g).1) else (nm, qc g, 0)
end Go.Proofs.YtlkfjinaiepocaaDoor
