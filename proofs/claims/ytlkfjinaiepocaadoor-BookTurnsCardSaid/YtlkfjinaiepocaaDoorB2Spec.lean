/- WHAT book.Check, Back, Turns COMPUTE, in plain Lean; no program in sight. -/
import Derived.Test.YtlkfjinaiepocaaDoorGenSpec
namespace Go.Proofs.YtlkfjinaiepocaaDoor
open Go Go.E2 Go.E3

/-- A book that isn't too great. -/
def smB (g : List Page) : Prop := ln g ≤ 500 ∧ ∀ p ∈ g, ln p.Staves ≤ 500 ∧ ∀ s ∈ p.Staves, ln s.Signs ≤ 500
def qc (g : List Page) : List Staff := g.flatMap fun p => p.Staves
def qh7 (s : Staff) : List Sign := fr s.Signs s.Lead
def kl (l : List Staff) : List Sign := l.flatMap qh7
def qd (g : List Page) : List Sign := kl (qc g)
def qh2 (s : Staff) : Prop := 0 ≤ s.Lead ∧ s.Lead ≤ ln s.Signs
def qn (g : List Page) : Prop := ∀ s ∈ qc g, qh2 s
def qsf : List Staff → Int → Int → Int
  | [], _, _ => 0
  | s :: l, n, i => if i - (ln s.Signs - s.Lead) < 0 then n else qsf l (n + 1) (i - (ln s.Signs - s.Lead))
def zj (g : List Page) (i : Int) : Int := qsf (qc g) 0 i
def kp (s : Staff) (c k : List Sign) : Int := if 60 < ln s.Signs then 11 else if s.Lead < 0 then 2 else if ln s.Signs ≤ s.Lead then 2 else if upto s.Signs s.Lead = c ++ k then 0 else 6
def qvv (f : List Sign × List Sign) (l : List Sign) : List Sign × List Sign := l.foldl (fun f s => kh f.1 f.2 s) f
def qj8 (g : List Page) (l : List Sign) (i : Int) : Int × Int := if h : i < ln l then (if zj g i = zj g (gE l i - 1) then qj8 g l (gE l i) else (6, zj g i)) else (0, 0)
 termination_by (ln l - i).toNat
 decreasing_by have := qie h; omega
theorem quj {g : List Page} {l : List Sign} {i : Int} (h : i < ln l) (he : zj g i = zj g (gE l i - 1)) : qj8 g l i = qj8 g l (gE l i) := by rw [qj8, dif_pos h, if_pos he]
theorem q6h {g : List Page} {l : List Sign} {i : Int} (h : i < ln l) (he : zj g i ≠ zj g (gE l i - 1)) : qj8 g l i = (6, zj g i) := by rw [qj8, dif_pos h, if_neg he]
theorem qx8 {g : List Page} {l : List Sign} {i : Int} (h : ln l ≤ i) : qj8 g l i = (0, 0) := by rw [qj8, dif_neg (by omega)]
def qqb (l : List Sign) : List Staff → Int → Int → Int × Int
  | [], _, _ => (0, 0)
  | s :: r, n, a => if s.Catch = (qq7 l (a + (ln s.Signs - s.Lead))).1 ∧ s.Custos = (qq7 l (a + (ln s.Signs - s.Lead))).2 then qqb l r (n + 1) (a + (ln s.Signs - s.Lead)) else (3, n)
def za (nm : List UInt8) (g : List Page) : Int × Int :=
  if (zl nm (qd g)).1 ≠ 0 then ((zl nm (qd g)).1, zj g (zl nm (qd g)).2)
  else if 0 ≤ qln (qd g) then (8, zj g (qln (qd g)))
  else if (qj8 g (qd g) 0).1 ≠ 0 then qj8 g (qd g) 0
  else qqb (qd g) (qc g) 0 0
def qcx (f : List Sign × List Sign) (n j : Int) : List Staff → Int × (List Sign × List Sign) × Int
  | [] => (0, f, n)
  | s :: l => if 12 ≤ j then (11, f, n) else if kp s f.1 f.2 ≠ 0 then (kp s f.1 f.2, f, n) else qcx (qvv f (qh7 s)) (n + 1) (j + 1) l
def qak (f : List Sign × List Sign) (n : Int) (empty : Bool) : List Page → Int × Int × Bool
  | [] => (0, n, empty)
  | p :: g => if p.Staves = [] then qak f n true g
      else if (qcx f n 0 p.Staves).1 ≠ 0 then ((qcx f n 0 p.Staves).1, (qcx f n 0 p.Staves).2.2, false)
      else qak (qcx f n 0 p.Staves).2.1 (qcx f n 0 p.Staves).2.2 empty g
/-- What comes behind a page. -/
def qt6 (r : Int × (List Sign × List Sign) × Int) (empty : Bool) (g : List Page) : Int × Int × Bool := if r.1 ≠ 0 then (r.1, r.2.2, false) else qak r.2.1 r.2.2 empty g
theorem qpa {f : List Sign × List Sign} {n : Int} {empty : Bool} {p : Page} {g : List Page} (h : p.Staves ≠ []) : qak f n empty (p :: g) = qt6 (qcx f n 0 p.Staves) empty g := by
  simp only [qak, if_neg h, qt6]
def jb (nm : List UInt8) (g : List Page) : Int × Int :=
  if ju nm = false then (7, 0) else if (qak ([], []) 0 false g).1 ≠ 0 then ((qak ([], []) 0 false g).1, (qak ([], []) 0 false g).2.1)
  else if (qak ([], []) 0 false g).2.2 = true then (2, (qak ([], []) 0 false g).2.1) else za nm g
def qcy (r : Bool) (l : List Sign) : Bool := l.foldl (fun r s => if s.Kind = 1 ∨ s.Kind = 4 ∨ s.Kind = 2 then decide (s.Kind = 2) else r) r
def zy (a : Int) (r : Bool) : List Page → List Int × List Bool
  | [] => ([], [])
  | p :: g => if g = [] then ([], []) else ((a + ln (kl p.Staves)) :: (zy (a + ln (kl p.Staves)) (qcy r (kl p.Staves)) g).1, qcy r (kl p.Staves) :: (zy (a + ln (kl p.Staves)) (qcy r (kl p.Staves)) g).2)
def zh (nm : List UInt8) (g : List Page) : List Int × List Bool × Int := if (jb nm g).1 ≠ 0 then ([], [], (jb nm g).1) else ((zy (-1) false g).1, (zy (-1) false g).2, 0)
end Go.Proofs.YtlkfjinaiepocaaDoor
