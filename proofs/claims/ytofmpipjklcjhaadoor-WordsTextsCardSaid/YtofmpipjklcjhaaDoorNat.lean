/- THE TYPES of lists' elements, as Lean's own; their cells. Made by program (vc.py). -/
import Derived.Test.YtofmpipjklcjhaaDoorM6
namespace Go.Proofs.YtofmpipjklcjhaaDoor
open Go Go.E2 Go.E3
set_option maxRecDepth 100000
structure Word where
  At : Int
  Text : List UInt8
  Quoted : Bool
instance : Inhabited Word := ⟨⟨0, [], false⟩⟩
structure Row where
  At : Int
  Words : List Word
instance : Inhabited Row := ⟨⟨0, []⟩⟩
def KT : Nat → Type
  | 0 => UInt8
  | 1 => Int
  | 2 => (List UInt8)
  | 5 => Word
  | 6 => Row
  | _ => Unit
def zcf : (c : Nat) → KT c
  | 0 => (default : UInt8)
  | 1 => (default : Int)
  | 2 => (default : (List UInt8))
  | 3 => ()
  | 4 => ()
  | 5 => (default : Word)
  | 6 => (default : Row)
  | _ + 7 => ()
def qf3 : (c : Nat) → KT c → List (PV KT)
  | 0, n => [.int .u8 none ((UInt8.toNat n : Nat) : Int)]
  | 1, x => [.int .i64 none x]
  | 2, x => [.str x]
  | 3, _ => []
  | 4, _ => []
  | 5, x => [.int .i64 none (Word.At x), .str (Word.Text x), .sb 0 false (Word.Quoted x) (Word.Quoted x = true) (Word.Quoted x = false)]
  | 6, x => [.int .i64 none (Row.At x), .list 5 (Row.Words x) none]
  | _ + 7, _ => []
def q5m (cs : List (PV KT)) : Option (Prop × UInt8) := match cs with
  | [p] => (q1r .u8 p).map fun n => (0 ≤ n ∧ n ≤ 255, UInt8.ofNat (Int.toNat n))
  | _ => none
def q5o (cs : List (PV KT)) : Option (Prop × Int) := match cs with
  | [p0] => (q1r .i64 p0).bind fun a0 => some (True, a0)
  | _ => none
def q5q (cs : List (PV KT)) : Option (Prop × (List UInt8)) := match cs with
  | [p0] => (q7l p0).bind fun a0 => some (True, a0)
  | _ => none
def q5s (cs : List (PV KT)) : Option (Prop × Word) := match cs with
  | [p0, p1, p2] => (q1r .i64 p0).bind fun a0 => (q7l p1).bind fun a1 => (q98 p2).bind fun a2 => some (True, Word.mk a0 a1 a2)
  | _ => none
def q5u (cs : List (PV KT)) : Option (Prop × Row) := match cs with
  | [p0, p1] => (q1r .i64 p0).bind fun a0 => (q99 (K := KT) 5 p1).bind fun a1 => some (True, Row.mk a0 a1)
  | _ => none
def zc3 : (c : Nat) → List (PV KT) → Option (Prop × KT c)
  | 0, cs => q5m cs
  | 1, cs => q5o cs
  | 2, cs => q5q cs
  | 3, _ => none
  | 4, _ => none
  | 5, cs => q5s cs
  | 6, cs => q5u cs
  | _ + 7, _ => none
def XK : Codecs KT := { dflt := zcf, u8 := rfl, cells := qf3, pack := zc3 }
def szK : Nat → Nat
  | 0 => 1
  | 1 => 1
  | 2 => 1
  | 5 => 3
  | 6 => 2
  | _ => 0
theorem zeo : ∀ c x, (XK.cells c x).length = szK c
  | 0, x => rfl
  | 1, x => rfl
  | 2, x => rfl
  | 3, x => rfl
  | 4, x => rfl
  | 5, x => rfl
  | 6, x => rfl
  | _ + 7, x => rfl
theorem zer : ∀ c x, (XK.cells c x).all jq = true
  | 0, x => rfl
  | 1, x => rfl
  | 2, x => rfl
  | 3, x => rfl
  | 4, x => rfl
  | 5, x => rfl
  | 6, x => rfl
  | _ + 7, x => rfl
theorem zas : ∀ c x p, p ∈ XK.cells c x → Plain p
  | 0, x, p, h => kh (ps := qf3 0 x) rfl p h
  | 1, x, p, h => kh (ps := qf3 1 x) rfl p h
  | 2, x, p, h => kh (ps := qf3 2 x) rfl p h
  | 3, x, p, h => by cases h
  | 4, x, p, h => by cases h
  | 5, x, p, h => kh (ps := qf3 5 x) rfl p h
  | 6, x, p, h => kh (ps := qf3 6 x) rfl p h
  | _ + 7, x, p, h => by cases h
theorem q5n (cs : List (PV KT)) (pre : Prop) (x : UInt8) (h : q5m cs = some (pre, x)) (hp : pre) (w : Wd) (vs : List V) (r : qk XK szK w cs vs) : qk XK szK w (qf3 0 x) vs := by
  unfold q5m at h
  split at h
  · obtain ⟨n, h0, h1⟩ := Option.map_eq_some_iff.1 h
    simp only [Prod.mk.injEq] at h1
    obtain ⟨rfl, rfl⟩ := h1
    refine qeu (fun v hv => ?_) (fun us hr => hr) r
    have := qlp h0 hv
    have e : ((UInt8.toNat (UInt8.ofNat (Int.toNat n)) : Nat) : Int) = n := by
      obtain ⟨h2, h3⟩ := hp
      have : (UInt8.ofNat (Int.toNat n)).toNat = Int.toNat n := by
        rw [UInt8.toNat_ofNat']
        exact Nat.mod_eq_of_lt (by omega)
      rw [this]
      omega
    show Rep XK szK w (.int .u8 none ((UInt8.toNat (UInt8.ofNat (Int.toNat n)) : Nat) : Int)) v
    rw [e]
    exact this
  · cases h
theorem q5p (cs : List (PV KT)) (pre : Prop) (x : Int) (h : q5o cs = some (pre, x)) (hp : pre) (w : Wd) (vs : List V) (r : qk XK szK w cs vs) : qk XK szK w (qf3 1 x) vs := by
  unfold q5o at h
  split at h
  · obtain ⟨a0, h0, h⟩ := Option.bind_eq_some_iff.1 h
    cases h
    exact qeu (fun v hv => qlp h0 hv) (fun us hr => hr) r
  · cases h
theorem q5r (cs : List (PV KT)) (pre : Prop) (x : (List UInt8)) (h : q5q cs = some (pre, x)) (hp : pre) (w : Wd) (vs : List V) (r : qk XK szK w cs vs) : qk XK szK w (qf3 2 x) vs := by
  unfold q5q at h
  split at h
  · obtain ⟨a0, h0, h⟩ := Option.bind_eq_some_iff.1 h
    cases h
    exact qeu (fun v hv => qwo h0 hv) (fun us hr => hr) r
  · cases h
theorem q5t (cs : List (PV KT)) (pre : Prop) (x : Word) (h : q5s cs = some (pre, x)) (hp : pre) (w : Wd) (vs : List V) (r : qk XK szK w cs vs) : qk XK szK w (qf3 5 x) vs := by
  unfold q5s at h
  split at h
  · obtain ⟨a0, h0, h⟩ := Option.bind_eq_some_iff.1 h
    obtain ⟨a1, h1, h⟩ := Option.bind_eq_some_iff.1 h
    obtain ⟨a2, h2, h⟩ := Option.bind_eq_some_iff.1 h
    cases h
    exact qeu (fun v hv => qlp h0 hv) (fun us hr => qeu (fun v hv => qwo h1 hv) (fun us hr => qeu (fun v hv => q4k h2 hv) (fun us hr => hr) hr) hr) r
  · cases h
theorem q5v (cs : List (PV KT)) (pre : Prop) (x : Row) (h : q5u cs = some (pre, x)) (hp : pre) (w : Wd) (vs : List V) (r : qk XK szK w cs vs) : qk XK szK w (qf3 6 x) vs := by
  unfold q5u at h
  split at h
  · obtain ⟨a0, h0, h⟩ := Option.bind_eq_some_iff.1 h
    obtain ⟨a1, h1, h⟩ := Option.bind_eq_some_iff.1 h
    cases h
    exact qeu (fun v hv => qlp h0 hv) (fun us hr => qeu (fun v hv => q1s h1 hv) (fun us hr => hr) hr) r
  · cases h
theorem zar : ∀ c cs pre x, XK.pack c cs = some (pre, x) → pre → ∀ w vs, qk XK szK w cs vs → qk XK szK w (XK.cells c x) vs
  | 0, cs, pre, x, h, hp, w, vs, r => q5n cs pre x h hp w vs r
  | 1, cs, pre, x, h, hp, w, vs, r => q5p cs pre x h hp w vs r
  | 2, cs, pre, x, h, hp, w, vs, r => q5r cs pre x h hp w vs r
  | 3, cs, pre, x, h, hp, w, vs, r => by cases h
  | 4, cs, pre, x, h, hp, w, vs, r => by cases h
  | 5, cs, pre, x, h, hp, w, vs, r => q5t cs pre x h hp w vs r
  | 6, cs, pre, x, h, hp, w, vs, r => q5v cs pre x h hp w vs r
  | _ + 7, cs, pre, x, h, hp, w, vs, r => by cases h
end Go.Proofs.YtofmpipjklcjhaaDoor
