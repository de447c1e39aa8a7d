/- THE TYPES of lists' elements, as Lean's own; their cells. Made by program (vc.py). -/
import Derived.Test.YtofmpipjklcjhaaDoorM6
namespace Go.Proofs.YtofmpipjklcjhaaDoor
open Go Go.E2 Go.E3
set_option maxRecDepth 100000
structure Word where
  At : Int
  Text : List UInt8
  Quoted : Bool
instance : Inhabited Word := ⟨⟨0, [], false⟩⟩
structure Row where
  At : Int
  Words : List Word
instance : Inhabited Row := ⟨⟨0, []⟩⟩
def KT : Nat → Type
  | 0 => UInt8
  | 1 => Int
  | 2 => (List UInt8)
  | 5 => Word
  | 6 => Row
  | _ => Unit
def dfltK : (c : Nat) → KT c
  | 0 => (default : UInt8)
  | 1 => (default : Int)
  | 2 => (default : (List UInt8))
  | 3 => ()
  | 4 => ()
  | 5 => (default : Word)
  | 6 => (default : Row)
  | _ + 7 => ()
def cellsK : (c : Nat) → KT c → List (PV KT)
  | 0, n => [.int .u8 none ((UInt8.toNat n : Nat) : Int)]
  | 1, x => [.int .i64 none x]
  | 2, x => [.str x]
  | 3, _ => []
  | 4, _ => []
  | 5, x => [.int .i64 none (Word.At x), .str (Word.Text x), .sb 0 false (Word.Quoted x) (Word.Quoted x = true) (Word.Quoted x = false)]
  | 6, x => [.int .i64 none (Row.At x), .list 5 (Row.Words x) none]
  | _ + 7, _ => []
def pack0 (cs : List (PV KT)) : Option (Prop × UInt8) := match cs with
  | [p] => (getI .u8 p).map fun n => (0 ≤ n ∧ n ≤ 255, UInt8.ofNat (Int.toNat n))
  | _ => none
def pack1 (cs : List (PV KT)) : Option (Prop × Int) := match cs with
  | [p0] => (getI .i64 p0).bind fun a0 => some (True, a0)
  | _ => none
def pack2 (cs : List (PV KT)) : Option (Prop × (List UInt8)) := match cs with
  | [p0] => (getS p0).bind fun a0 => some (True, a0)
  | _ => none
def pack5 (cs : List (PV KT)) : Option (Prop × Word) := match cs with
  | [p0, p1, p2] => (getI .i64 p0).bind fun a0 => (getS p1).bind fun a1 => (getB p2).bind fun a2 => some (True, Word.mk a0 a1 a2)
  | _ => none
def pack6 (cs : List (PV KT)) : Option (Prop × Row) := match cs with
  | [p0, p1] => (getI .i64 p0).bind fun a0 => (getL (K := KT) 5 p1).bind fun a1 => some (True, Row.mk a0 a1)
  | _ => none
def packK : (c : Nat) → List (PV KT) → Option (Prop × KT c)
  | 0, cs => pack0 cs
  | 1, cs => pack1 cs
  | 2, cs => pack2 cs
  | 3, _ => none
  | 4, _ => none
  | 5, cs => pack5 cs
  | 6, cs => pack6 cs
  | _ + 7, _ => none
def XK : Codecs KT := { dflt := dfltK, u8 := rfl, cells := cellsK, pack := packK }
def szK : Nat → Nat
  | 0 => 1
  | 1 => 1
  | 2 => 1
  | 5 => 3
  | 6 => 2
  | _ => 0
theorem lenK : ∀ c x, (XK.cells c x).length = szK c
  | 0, x => rfl
  | 1, x => rfl
  | 2, x => rfl
  | 3, x => rfl
  | 4, x => rfl
  | 5, x => rfl
  | 6, x => rfl
  | _ + 7, x => rfl
theorem oneK : ∀ c x, (XK.cells c x).all oneCellP = true
  | 0, x => rfl
  | 1, x => rfl
  | 2, x => rfl
  | 3, x => rfl
  | 4, x => rfl
  | 5, x => rfl
  | 6, x => rfl
  | _ + 7, x => rfl
theorem plainK : ∀ c x p, p ∈ XK.cells c x → Plain p
  | 0, x, p, h => plains_ok (ps := cellsK 0 x) rfl p h
  | 1, x, p, h => plains_ok (ps := cellsK 1 x) rfl p h
  | 2, x, p, h => plains_ok (ps := cellsK 2 x) rfl p h
  | 3, x, p, h => by cases h
  | 4, x, p, h => by cases h
  | 5, x, p, h => plains_ok (ps := cellsK 5 x) rfl p h
  | 6, x, p, h => plains_ok (ps := cellsK 6 x) rfl p h
  | _ + 7, x, p, h => by cases h
theorem pack0_ok (cs : List (PV KT)) (pre : Prop) (x : UInt8) (h : pack0 cs = some (pre, x)) (hp : pre) (w : Wd) (vs : List V) (r : RepL XK szK w cs vs) : RepL XK szK w (cellsK 0 x) vs := by
  unfold pack0 at h
  split at h
  · obtain ⟨n, h0, h1⟩ := Option.map_eq_some_iff.1 h
    simp only [Prod.mk.injEq] at h1
    obtain ⟨rfl, rfl⟩ := h1
    refine rep_cons (fun v hv => ?_) (fun us hr => hr) r
    have := getI_rep h0 hv
    have e : ((UInt8.toNat (UInt8.ofNat (Int.toNat n)) : Nat) : Int) = n := by
      obtain ⟨h2, h3⟩ := hp
      have : (UInt8.ofNat (Int.toNat n)).toNat = Int.toNat n := by
        rw [UInt8.toNat_ofNat']
        exact Nat.mod_eq_of_lt (by omega)
      rw [this]
      omega
    show Rep XK szK w (.int .u8 none ((UInt8.toNat (UInt8.ofNat (Int.toNat n)) : Nat) : Int)) v
    rw [e]
    exact this
  · cases h
theorem pack1_ok (cs : List (PV KT)) (pre : Prop) (x : Int) (h : pack1 cs = some (pre, x)) (hp : pre) (w : Wd) (vs : List V) (r : RepL XK szK w cs vs) : RepL XK szK w (cellsK 1 x) vs := by
  unfold pack1 at h
  split at h
  · obtain ⟨a0, h0, h⟩ := Option.bind_eq_some_iff.1 h
    cases h
    exact rep_cons (fun v hv => getI_rep h0 hv) (fun us hr => hr) r
  · cases h
theorem pack2_ok (cs : List (PV KT)) (pre : Prop) (x : (List UInt8)) (h : pack2 cs = some (pre, x)) (hp : pre) (w : Wd) (vs : List V) (r : RepL XK szK w cs vs) : RepL XK szK w (cellsK 2 x) vs := by
  unfold pack2 at h
  split at h
  · obtain ⟨a0, h0, h⟩ := Option.bind_eq_some_iff.1 h
    cases h
    exact rep_cons (fun v hv => getS_rep h0 hv) (fun us hr => hr) r
  · cases h
theorem pack5_ok (cs : List (PV KT)) (pre : Prop) (x : Word) (h : pack5 cs = some (pre, x)) (hp : pre) (w : Wd) (vs : List V) (r : RepL XK szK w cs vs) : RepL XK szK w (cellsK 5 x) vs := by
  unfold pack5 at h
  split at h
  · obtain ⟨a0, h0, h⟩ := Option.bind_eq_some_iff.1 h
    obtain ⟨a1, h1, h⟩ := Option.bind_eq_some_iff.1 h
    obtain ⟨a2, h2, h⟩ := Option.bind_eq_some_iff.1 h
    cases h
    exact rep_cons (fun v hv => getI_rep h0 hv) (fun us hr => rep_cons (fun v hv => getS_rep h1 hv) (fun us hr => rep_cons (fun v hv => getB_rep h2 hv) (fun us hr => hr) hr) hr) r
  · cases h
theorem pack6_ok (cs : List (PV KT)) (pre : Prop) (x : Row) (h : pack6 cs = some (pre, x)) (hp : pre) (w : Wd) (vs : List V) (r : RepL XK szK w cs vs) : RepL XK szK w (cellsK 6 x) vs := by
  unfold pack6 at h
  split at h
  · obtain ⟨a0, h0, h⟩ := Option.bind_eq_some_iff.1 h
    obtain ⟨a1, h1, h⟩ := Option.bind_eq_some_iff.1 h
    cases h
    exact rep_cons (fun v hv => getI_rep h0 hv) (fun us hr => rep_cons (fun v hv => getL_rep' h1 hv) (fun us hr => hr) hr) r
  · cases h
theorem packOk : ∀ c cs pre x, XK.pack c cs = some (pre, x) → pre → ∀ w vs, RepL XK szK w cs vs → RepL XK szK w (XK.cells c x) vs
  | 0, cs, pre, x, h, hp, w, vs, r => pack0_ok cs pre x h hp w vs r
  | 1, cs, pre, x, h, hp, w, vs, r => pack1_ok cs pre x h hp w vs r
  | 2, cs, pre, x, h, hp, w, vs, r => pack2_ok cs pre x h hp w vs r
  | 3, cs, pre, x, h, hp, w, vs, r => by cases h
  | 4, cs, pre, x, h, hp, w, vs, r => by cases h
  | 5, cs, pre, x, h, hp, w, vs, r => pack5_ok cs pre x h hp w vs r
  | 6, cs, pre, x, h, hp, w, vs, r => pack6_ok cs pre x h hp w vs r
  | _ + 7, cs, pre, x, h, hp, w, vs, r => by cases h
end Go.Proofs.YtofmpipjklcjhaaDoor
