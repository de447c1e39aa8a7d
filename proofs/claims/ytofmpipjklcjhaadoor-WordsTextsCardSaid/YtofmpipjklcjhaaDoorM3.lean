/- A VERIFIED EVALUATOR, texts E2y in one. -/
import Derived.Test.YtofmpipjklcjhaaDoorM2
/- E2: RUNS OF E2's THAT NEED SO MUCH AND NO MORE: rules for code, one after the other, for proofs about whatever arguments. -/
namespace Go.E2
open Go
def zb5 (E : Env) (t : Tgt) (args : List V) (H : Heap) (y : CR × Heap) : Prop := ∃ k0, ∀ k, k0 ≤ k → zz E k t args H = some y
def qau (E : Env) (t : Tgt) (args : List V) (H : Heap) (Q : V → Heap → Prop) : Prop := ∃ v H', zb5 E t args H (.ret v, H') ∧ Q v H'
def Wp (E : Env) (fn : FuncId) (round : Option Nat) (c : Code) (fr : Fr) (H : Heap) (Q : Ex → Fr → Heap → Prop) : Prop :=
 ∃ x, (∃ k0, ∀ k, k0 ≤ k → qt E (zz E k) fn round (k + 1) c fr H = some x) ∧ Q x.1 x.2.1 x.2.2
def WpO (E : Env) (nd : Bool) (all : Array Oper) (l : List Oper) (fr : Fr) (H : Heap) (Q : Ex → Fr → Heap → Prop) : Prop :=
 ∃ x, (∃ k0, ∀ k, k0 ≤ k → qa6 E (zz E k) nd all l fr H = some x) ∧ Q x.1 x.2.1 x.2.2
section
variable {E : Env} {fn : FuncId} {round : Option Nat} {nd : Bool} {all : Array Oper} {fr : Fr} {H : Heap} {Q : Ex → Fr → Heap → Prop}
theorem qau.mono {t : Tgt} {args : List V} {Q Q' : V → Heap → Prop} (h : qau E t args H Q) (hq : ∀ v H', Q v H' → Q' v H') : qau E t args H Q' := by
 obtain ⟨v, H', h1, h2⟩ := h
 exact ⟨v, H', h1, hq _ _ h2⟩
theorem Wp.mono {c : Code} {Q' : Ex → Fr → Heap → Prop} (h : Wp E fn round c fr H Q) (hq : ∀ ex fr' H', Q ex fr' H' → Q' ex fr' H') : Wp E fn round c fr H Q' := by
 obtain ⟨x, h1, h2⟩ := h
 exact ⟨x, h1, hq _ _ _ h2⟩
theorem WpO.mono {l : List Oper} {Q' : Ex → Fr → Heap → Prop} (h : WpO E nd all l fr H Q) (hq : ∀ ex fr' H', Q ex fr' H' → Q' ex fr' H') : WpO E nd all l fr H Q' := by
 obtain ⟨x, h1, h2⟩ := h
 exact ⟨x, h1, hq _ _ _ h2⟩
theorem q8u (h : Q .normal fr H) : Wp E fn round .skip fr H Q := ⟨(.normal, fr, H), ⟨0, fun _ _ => rfl⟩, h⟩
theorem q6f {l : Nat} (h : Q .normal fr H) : Wp E fn round (.label l) fr H Q := ⟨(.normal, fr, H), ⟨0, fun _ _ => rfl⟩, h⟩
theorem q6h (h : Q .ret fr H) : Wp E fn round .ret fr H Q := ⟨(.ret, fr, H), ⟨0, fun _ _ => rfl⟩, h⟩
theorem q8s {id : Nat} (h : Q (.exit id) fr H) : Wp E fn round (.exit id) fr H Q := ⟨(.exit id, fr, H), ⟨0, fun _ _ => rfl⟩, h⟩
theorem zec {l : Nat} (h : Q (.goto l) fr H) : Wp E fn round (.goto l) fr H Q := ⟨(.goto l, fr, H), ⟨0, fun _ _ => rfl⟩, h⟩
def qoj (next : Fr → Heap → Prop) (Q : Ex → Fr → Heap → Prop) : Ex → Fr → Heap → Prop
 | .normal, fr, H => next fr H
 | e, fr, H => Q e fr H
theorem qvg {a b : Code} (h : Wp E fn round a fr H (qoj (fun fr' H' => Wp E fn round b fr' H' Q) Q)) : Wp E fn round (.seq a b) fr H Q := by
 obtain ⟨⟨e, fr', H'⟩, ⟨k0, h1⟩, h2⟩ := h
 cases e with
 | normal =>
  obtain ⟨x, ⟨k1, h3⟩, h4⟩ := h2
  exact ⟨x, ⟨max k0 k1, fun k hk => by simp only [qt, h1 k (by omega), h3 k (by omega)]⟩, h4⟩
 | _ => exact ⟨_, ⟨k0, fun k hk => by simp only [qt, h1 k hk]⟩, h2⟩
theorem qvf {c : Operand} {a b : Code} {t : Bool} (hc : opd fr H c = some (.bool t)) (h : Wp E fn round (if t then a else b) fr H Q) : Wp E fn round (.cond c a b) fr H Q := by
 obtain ⟨x, ⟨k0, h1⟩, h2⟩ := h
 refine ⟨x, ⟨k0, fun k hk => ?_⟩, h2⟩
 have := h1 k hk
 cases t <;> simp only [qt, hc] <;> exact this
def qhi (id : Nat) (Q : Ex → Fr → Heap → Prop) : Ex → Fr → Heap → Prop
 | .exit id', fr, H => if id' = id then Q .normal fr H else Q (.exit id') fr H
 | e, fr, H => Q e fr H
theorem q6e {id : Nat} {c : Code} (h : Wp E fn round c fr H (qhi id Q)) : Wp E fn round (.block id c) fr H Q := by
 obtain ⟨⟨e, fr', H'⟩, ⟨k0, h1⟩, h2⟩ := h
 cases e with
 | exit id' =>
  simp only [qhi] at h2
  by_cases hid : id' = id
  ·rw [if_pos hid] at h2
   subst hid
   have hb : Nat.beq id' id' = true := by rw [Nat.beq_eq]
   exact ⟨(.normal, fr', H'), ⟨k0, fun k hk => by simp only [qt, h1 k hk, hb, cond_true]⟩, h2⟩
  ·rw [if_neg hid] at h2
   have hb : Nat.beq id' id = false := by
    cases hq : Nat.beq id' id with
    | false => rfl
    | true => exact absurd (Nat.eq_of_beq_eq_true hq) hid
   exact ⟨(.exit id', fr', H'), ⟨k0, fun k hk => by simp only [qt, h1 k hk, hb, cond_false]⟩, h2⟩
 | _ => exact ⟨_, ⟨k0, fun k hk => by simp only [qt, h1 k hk]⟩, h2⟩
theorem q6i {c : Code} (h : Wp E fn round c fr H (fun e fr' H' => (∀ l, e ≠ .goto l) ∧ Q e fr' H')) : Wp E fn round (.scope c) fr H Q := by
 obtain ⟨⟨e, fr', H'⟩, ⟨k0, h1⟩, h2, h3⟩ := h
 refine ⟨(e, fr', H'), ⟨k0, fun k hk => ?_⟩, h3⟩
 simp only [qt, h1 k hk]
 all_goals first
  | rfl
  | (cases e with
   | goto l => exact absurd rfl (h2 l)
   | _ => rfl)
theorem qo3 {c : Code} (Inv : Nat → Fr → Heap → Prop) {m : Nat} (h0 : Inv m fr H)
  (h : ∀ m fr H, Inv m fr H → Wp E fn round c fr H (qoj (fun fr' H' => ∃ m', m' < m ∧ Inv m' fr' H') Q)) : Wp E fn round (.loop c) fr H Q := by
 have key : ∀ (m : Nat) (fr : Fr) (H : Heap) (s0 : Ex), Inv m fr H → ∃ x, (∃ k0 r, ∀ k, k0 ≤ k → ∀ f, r < f → iter (fun (s : Ex × Fr × Heap) => match qt E (zz E k) fn round (k + 1) c s.2.1 s.2.2 with
   | some (.normal, fr', H') => some (true, .normal, fr', H')
   | some r => some (false, r)
   | none => none) f (s0, fr, H) = some x) ∧ Q x.1 x.2.1 x.2.2 := by
  intro m
  induction m using Nat.strongRecOn with
  | _ m ih =>
   intro fr H s0 hi
   obtain ⟨⟨e, fr', H'⟩, ⟨k0, h1⟩, h2⟩ := h m fr H hi
   cases e with
   | normal =>
    obtain ⟨m', hm, hi'⟩ := h2
    obtain ⟨x, ⟨k1, r, h3⟩, h4⟩ := ih m' hm fr' H' .normal hi'
    refine ⟨x, ⟨max k0 k1, r + 1, fun k hk f hf => ?_⟩, h4⟩
    obtain ⟨f, rfl⟩ : ∃ g, f = g + 1 := ⟨f - 1, by omega⟩
    simp only [iter, h1 k (by omega)]
    exact h3 k (by omega) f (by omega)
   | _ =>
    refine ⟨_, ⟨k0, 0, fun k hk f hf => ?_⟩, h2⟩
    obtain ⟨f, rfl⟩ : ∃ g, f = g + 1 := ⟨f - 1, by omega⟩
    simp only [iter, h1 k hk]
 obtain ⟨x, ⟨k0, r, h1⟩, h2⟩ := key m fr H .normal h0
 exact ⟨x, ⟨max k0 r, fun k hk => by simp only [qt]; exact h1 k (by omega) (k + 1) (by omega)⟩, h2⟩
theorem qty {id : Nat} {ops : Array Oper} (h : WpO E round.isNone ops ops.toList fr H Q) : Wp E fn round (.region id ops false) fr H Q := by
 obtain ⟨x, ⟨k0, h1⟩, h2⟩ := h
 exact ⟨x, ⟨k0, fun k hk => by simp only [qt, cond_false]; exact h1 k hk⟩, h2⟩
theorem q02 (h : Q .normal fr H) : WpO E nd all [] fr H Q := ⟨(.normal, fr, H), ⟨0, fun _ _ => rfl⟩, h⟩
def qbp (o : Oper) : Bool := match o.op with | .defer _ => true | _ => false
theorem qha {call : Call} {o : Oper} {l : List Oper} (hd : qbp o = false) : qa6 E call nd all (o :: l) fr H = match jo E call all o fr H with
   | some (.ret v, H') => qa6 E call nd all l (fr.put o.dst v) H'
   | some (.panic ch, H') => some (.panic ch, fr, H')
   | none => none := by
 simp only [qa6]
 split
 ·rename_i c ho
  simp [qbp, ho] at hd
 ·rfl
theorem qh8 {o : Oper} {l : List Oper} {v : V} {H' : Heap} (hd : qbp o = false) (hw : ku o all fr = some true) (h : qn E o fr H = some (.val v, H')) (k : WpO E nd all l (fr.put o.dst v) H' Q) : WpO E nd all (o :: l) fr H Q := by
 obtain ⟨x, ⟨k0, h1⟩, h2⟩ := k
 exact ⟨x, ⟨k0, fun k hk => by rw [qha hd]; simp only [jo, hw, h]; exact h1 k hk⟩, h2⟩
theorem qx3 {o : Oper} {l : List Oper} {H' : Heap} (hd : qbp o = false) (hw : ku o all fr = some true) (h : qn E o fr H = some (.skip, H')) (k : WpO E nd all l (fr.put o.dst z1) H' Q) : WpO E nd all (o :: l) fr H Q := by
 obtain ⟨x, ⟨k0, h1⟩, h2⟩ := k
 exact ⟨x, ⟨k0, fun k hk => by rw [qha hd]; simp only [jo, hw, h]; exact h1 k hk⟩, h2⟩
theorem q03 {o : Oper} {l : List Oper} (hd : qbp o = false) (hw : ku o all fr = some false) (k : WpO E nd all l (fr.put o.dst z1) H Q) : WpO E nd all (o :: l) fr H Q := by
 obtain ⟨x, ⟨k0, h1⟩, h2⟩ := k
 exact ⟨x, ⟨k0, fun k hk => by rw [qha hd]; simp only [jo, hw]; exact h1 k hk⟩, h2⟩
theorem qx2 {o : Oper} {l : List Oper} {t : Tgt} {args : List V} {H1 : Heap} (hd : qbp o = false) (hw : ku o all fr = some true) (h : qn E o fr H = some (.call t args, H1))
  (k : qau E t args H1 fun v H' => WpO E nd all l (fr.put o.dst v) H' Q) : WpO E nd all (o :: l) fr H Q := by
 obtain ⟨v, H', ⟨k1, h3⟩, ⟨x, ⟨k0, h1⟩, h2⟩⟩ := k
 refine ⟨x, ⟨max k0 k1, fun k hk => ?_⟩, h2⟩
 rw [qha hd]
 simp only [jo, hw, h, h3 k (by omega)]
 exact h1 k (by omega)
theorem qyf {f : Nat} {args : List V} {s : List V → Heap → Option (CR × Heap)} {v : V} {H' : Heap} {Q : V → Heap → Prop} (hs : E.spec f = some s) (h : s args H = some (.ret v, H')) (hq : Q v H') : qau E (.func f) args H Q :=
 ⟨v, H', ⟨1, fun k hk => by
  obtain ⟨k, rfl⟩ : ∃ g, k = g + 1 := ⟨k - 1, by omega⟩
  simp only [zz, hs, h]⟩, hq⟩
def qar : List Dfr → Heap → Option Heap
 | [], H => some H
 | .mark nm :: ds, H => match H.get nm with
  | some .dfr => (H.upd nm .gone).bind fun H' => qar ds H'
  | _ => none
 | .call _ :: _, _ => none
theorem qn1 {call : Call} {fuel : Nat} {md : Md} : ∀ {ds : List Dfr} {H H' : Heap}, qar ds H = some H' → leave E call fuel ds md H = some (md, H')
 | [], H, H', h => by simp only [qar, Option.some.injEq] at h; simp [leave, h]
 | .mark nm :: ds, H, H', h => by
  simp only [qar] at h
  simp only [leave]
  split at h
  ·rename_i ho
   rw [ho]
   simp only [Option.bind_eq_some_iff] at h ⊢
   obtain ⟨H1, h1, h2⟩ := h
   exact ⟨H1, h1, qn1 h2⟩
  ·cases h
 | .call d :: ds, H, H', h => by simp [qar] at h
theorem qpi {f : Nat} {fi : FI} {c : Code} {args : List V} {Q : V → Heap → Prop} (hs : E.spec f = none) (hf : E.funcs f = some fi) (hb : fi.body = some c)
  (h : Wp E f none c { tmps := qb0 args, n := max args.length fi.ntmps, defers := [] } H fun e fr' H' => (e = .normal ∨ e = .ret) ∧ ∃ H'', qar fr'.defers H' = some H'' ∧ ∃ vs, zj E fr' H'' fi.results = some vs ∧ Q (oneOf vs) H'') : qau E (.func f) args H Q := by
 obtain ⟨⟨e, fr', H'⟩, ⟨k0, h1⟩, h2, H'', h3, vs, h4, h5⟩ := h
 refine ⟨oneOf vs, H'', ⟨k0 + 1, fun k hk => ?_⟩, h5⟩
 obtain ⟨k, rfl⟩ : ∃ g, k = g + 1 := ⟨k - 1, by omega⟩
 have hwo : qvh E (zz E k) (k + 1) (e, fr', H') = some (.returning, fr', H'') := by
  have hl := qn1 (E := E) (call := zz E k) (fuel := k + 1) (md := .returning) h3
  rcases h2 with rfl | rfl <;> simp [qvh, hl]
 simp only [zz, hs, hf, hb, Option.bind_some, h1 k (by omega), hwo, qiy, h4, Option.map_some]
theorem qse {f : Nat} {fi : FI} {args : List V} {v : V} {Q : V → Heap → Prop} (hs : E.spec f = none) (hf : E.funcs f = some fi) (hb : fi.body = none) (h : q1m fi.ext args = some v) (hq : Q v H) : qau E (.func f) args H Q :=
 ⟨v, H, ⟨1, fun k hk => by
  obtain ⟨k, rfl⟩ : ∃ g, k = g + 1 := ⟨k - 1, by omega⟩
  simp only [zz, hs, hf, hb, Option.bind_some, h, Option.map_some]⟩, hq⟩
structure Upd (fr : Fr) (d : Nat) (v : V) (fr' : Fr) : Prop where
 get : fr'.tmp d = some v
 other : ∀ j, Nat.beq j d = false → fr'.tmp j = fr.tmp j
 n : fr'.n = fr.n
 ds : fr'.defers = fr.defers
theorem qh1 {d : Nat} {v : V} (h : d < fr.n) : Upd fr d v (fr.put (some d) v) := by
 obtain ⟨t, n, ds⟩ := fr
 have hb : Nat.blt d n = true := by rw [Nat.blt_eq]; exact h
 refine ⟨?_, fun j hj => ?_, ?_, ?_⟩
 ·simp only [Fr.put, hb, cond_true, Fr.tmp, Tree.zm, if_true]
 ·have hne : ¬ j = d := by
   intro he
   rw [he] at hj
   have : Nat.beq d d = true := by rw [Nat.beq_eq]
   rw [this] at hj
   cases hj
  simp only [Fr.put, hb, cond_true, Fr.tmp, Tree.zm, if_neg hne]
 ·simp only [Fr.put, hb, cond_true]
 ·simp only [Fr.put, hb, cond_true]
theorem Upd.ne {d j : Nat} {v : V} {fr' : Fr} {x : Option V} (u : Upd fr d v fr') (h : fr.tmp j = x) (hb : Nat.beq j d = false := by rfl) : fr'.tmp j = x := (u.other j hb).trans h
theorem qfu {o : Oper} (hg : o.guard = none) : ku o all fr = some true := by simp only [ku, hg]
theorem qo4 {o : Oper} {j d : Nat} {want b : Bool} (hg : o.guard = some (j, want)) (hj : (all[j]?).bind (·.dst) = some d) (hv : fr.tmp d = some (.bool b)) : ku o all fr = some (b == want) := by
 simp only [ku, hg, hj, hv]
theorem zdk {o : Oper} {j d : Nat} {want : Bool} (hg : o.guard = some (j, want)) (hj : (all[j]?).bind (·.dst) = some d) (hv : fr.tmp d = some (.bool want)) : ku o all fr = some true := by
 rw [qo4 hg hj hv]; simp
theorem zed {o : Oper} {j d : Nat} {want : Bool} (hg : o.guard = some (j, want)) (hj : (all[j]?).bind (·.dst) = some d) (hv : fr.tmp d = some (.bool (!want))) : ku o all fr = some false := by
 rw [qo4 hg hj hv]; cases want <;> rfl
theorem qzx {o : Oper} {j d : Nat} {want : Bool} (hg : o.guard = some (j, want)) (hj : (all[j]?).bind (·.dst) = some d) (hv : fr.tmp d = some z1) : ku o all fr = some false := by
 simp only [ku, hg, hj, hv, z1]
theorem zbe {o : Oper} {l : List Oper} {v : V} {H' : Heap} {d : Nat} (hd : qbp o = false) (hw : ku o all fr = some true) (hdst : o.dst = some d) (hn : d < fr.n) (h : qn E o fr H = some (.val v, H')) (k : ∀ fr', Upd fr d v fr' → WpO E nd all l fr' H' Q) : WpO E nd all (o :: l) fr H Q :=
 qh8 hd hw h (by rw [hdst]; exact k _ (qh1 hn))
theorem zdn {o : Oper} {l : List Oper} {d : Nat} (hd : qbp o = false) (hw : ku o all fr = some false) (hdst : o.dst = some d) (hn : d < fr.n) (k : ∀ fr', Upd fr d z1 fr' → WpO E nd all l fr' H Q) : WpO E nd all (o :: l) fr H Q :=
 q03 hd hw (by rw [hdst]; exact k _ (qh1 hn))
theorem zee {o : Oper} {l : List Oper} {t : Tgt} {args : List V} {d : Nat} (hd : qbp o = false) (hw : ku o all fr = some true) (hdst : o.dst = some d) (hn : d < fr.n) (h : qn E o fr H = some (.call t args, H))
  {R : V → Heap → Prop} (hc : qau E t args H R) (k : ∀ v H', R v H' → ∀ fr', Upd fr d v fr' → WpO E nd all l fr' H' Q) : WpO E nd all (o :: l) fr H Q :=
 qx2 hd hw h (hc.mono fun v H' hr => by rw [hdst]; exact k v H' hr _ (qh1 hn))
theorem zef {o : Oper} {l : List Oper} {H' : Heap} (hd : qbp o = false) (hw : ku o all fr = some true) (hdst : o.dst = none) (h : qn E o fr H = some (.skip, H')) (k : WpO E nd all l fr H' Q) : WpO E nd all (o :: l) fr H Q :=
 qx3 hd hw h (by rw [hdst]; exact k)
theorem qdk {t : Nat} {v : V} (h : fr.tmp t = some v) : opd fr H (.tmp t) = some v := h
theorem q2m {c : Value} {v : V} (h : qii 1000 c = some v) : opd fr H (.const c) = some v := h
theorem q5j : ky fr H [] = some [] := rfl
theorem qm5 {x : Operand} {l : List Operand} {v : V} {vs : List V} (h : opd fr H x = some v) (h' : ky fr H l = some vs) : ky fr H (x :: l) = some (v :: vs) := by
 simp only [ky, h, h', Option.bind_some, Option.map_some]
section
variable {o : Oper}
theorem qz9 {x : Operand} {v : V} (ho : o.op = .move x) (hx : opd fr H x = some v) : qn E o fr H = some (.val v, H) := by simp only [qn, ho, hx, Option.map_some]
theorem qsl {x : Operand} {v : V} (ho : o.op = .assign x) (hx : opd fr H x = some v) : qn E o fr H = some (.val v, H) := by simp only [qn, ho, hx, Option.map_some]
theorem zbm {c x y : Operand} {v : V} (ho : o.op = .pick c x y) (hc : opd fr H c = some (.bool true)) (hx : opd fr H x = some v) : qn E o fr H = some (.val v, H) := by simp only [qn, ho, hc, hx, Option.map_some, if_true]
theorem zbl {c x y : Operand} {v : V} (ho : o.op = .pick c x y) (hc : opd fr H c = some (.bool false)) (hx : opd fr H y = some v) : qn E o fr H = some (.val v, H) := by simp [qn, ho, hc, hx]
theorem zdv {op : BinOp} {t u : TypeId} {x y : Operand} {k : IntKind} {i j : Int} {v : V} (ho : o.op = .binOp op t x y u) (hs : op ≠ .shl ∧ op ≠ .shr) (hx : opd fr H x = some (.int k i)) (hy : opd fr H y = some (.int k j)) (h : kx op k i j = some v) : qn E o fr H = some (.val v, H) := by
 have hb : kf E op t (.int k i) (.int k j) = some v := by
  cases op <;> first
   | (exact absurd rfl hs.1)
   | (exact absurd rfl hs.2)
   | (simp only [kf, if_true]; exact h)
 simp only [qn, ho, hx, hy, Option.bind_some, hb, Option.map_some]
theorem zdw {op : BinOp} {t u : TypeId} {x y : Operand} {i j : List UInt8} {v : V} (ho : o.op = .binOp op t x y u) (hs : op ≠ .shl ∧ op ≠ .shr) (hx : opd fr H x = some (.str i)) (hy : opd fr H y = some (.str j)) (h : qcy op i j = some v) : qn E o fr H = some (.val v, H) := by
 have hb : kf E op t (.str i) (.str j) = some v := by
  cases op <;> first
   | (exact absurd rfl hs.1)
   | (exact absurd rfl hs.2)
   | (simp only [kf]; exact h)
 simp only [qn, ho, hx, hy, Option.bind_some, hb, Option.map_some]
theorem zek {t : TypeId} {x : Operand} {b : Bool} (ho : o.op = .unOp .not t x) (hx : opd fr H x = some (.bool b)) : qn E o fr H = some (.val (.bool !b), H) := by
 simp only [qn, ho, hx, Option.bind_some, qrc, Option.map_some]
theorem q97 {t : TypeId} {x : Operand} {k : IntKind} {n : Int} (ho : o.op = .unOp .neg t x) (hx : opd fr H x = some (.int k n)) : qn E o fr H = some (.val (.int k (k.wrap (0 - n))), H) := by
 simp only [qn, ho, hx, Option.bind_some, qrc, Option.map_some]
theorem q4a {s d : TypeId} {x : Operand} {si di : TI} {k0 k j : IntKind} {n : Int} (ho : o.op = .convert s d x) (hs : E.types s = some si) (hsu : si.under = .int k0) (hd : E.types d = some di) (hdu : di.under = .int k) (hx : opd fr H x = some (.int j n)) : qn E o fr H = some (.val (.int k (k.wrap n)), H) := by
 simp only [qn, ho, hs, hd, hx, Option.bind_some, hsu, hdu]
theorem zdy {c : Go.Call} {x : Operand} {t : TypeId} {ti : TI} {s : List UInt8} (ho : o.op = .call c) (hc : c.callee = .builtin .len) (ha : c.args.toList = [x]) (hat : c.argTypes.toList = [t]) (ht : E.types t = some ti) (hu : ti.under = .string) (hx : opd fr H x = some (.str s)) : qn E o fr H = some (.val (.int .i64 s.length), H) := by
 simp only [qn, ho, ha, hc, hat, ky, hx, Option.bind_some, Option.map_some, zt, ht, hu, qag]
theorem q4b {t : TypeId} {ti : TI} {x y : Operand} {s : List UInt8} {k : IntKind} {i : Int} {b : UInt8} (ho : o.op = .index t x y) (ht : E.types t = some ti) (hu : ti.under = .string) (hx : opd fr H x = some (.str s)) (hy : opd fr H y = some (.int k i)) (h0 : 0 ≤ i) (hb : s[i.toNat]? = some b) : qn E o fr H = some (.val (.int .u8 b.toNat), H) := by
 simp only [qn, ho, ht, hx, hy, Option.bind_some, hu, h0, if_true, hb, Option.map_some]
theorem zbn {t : TypeId} {ti : TI} {x : Operand} {lo hi : Option Operand} {s : List UInt8} {vlo vhi : Option V} {v : V} (ho : o.op = .slice t x lo hi none) (ht : E.types t = some ti) (hu : ti.under = .string) (hx : opd fr H x = some (.str s)) (h1 : qct fr H lo = some vlo) (h2 : qct fr H hi = some vhi) (h : jj 1 (.str s) vlo vhi none = some v) : qn E o fr H = some (.val v, H) := by
 simp only [qn, ho, ht, hx, Option.bind_some, hu, h1, h2, h, Option.map_some]
theorem q96 {x : Operand} {i : Nat} {vs : List V} {v : V} (ho : o.op = .extract x i) (hx : opd fr H x = some (.tuple vs)) (h : vs[i]? = some v) : qn E o fr H = some (.val v, H) := by
 simp only [qn, ho, hx, Option.bind_some, h, Option.map_some]
theorem zdx {c : Go.Call} {f : Operand} {fv : V} {args : List V} {t : Tgt} {as : List V} (ho : o.op = .call c) (hc : c.callee = .value f) (hf : opd fr H f = some fv) (ha : ky fr H c.args.toList = some args) (h : qbo fv args = some (.call t as)) : qn E o fr H = some (.call t as, H) := by
 simp only [qn, ho, hc, hf, ha, h, Option.bind_some, Option.map_some]
theorem zbu : qct fr H none = some none := rfl
theorem q2l {x : Operand} {v : V} (h : opd fr H x = some v) : qct fr H (some x) = some (some v) := by simp only [qct, h, Option.map_some]
theorem qel {lo hi d : Nat} {k : IntKind} {i : Int} (h : (lo : Int) ≤ i ∧ i ≤ hi) : zv lo hi (some (.int k i)) d = some i.toNat := by simp only [zv, h, and_self, if_true]
theorem za5 {s : List UInt8} {k k' : IntKind} {i j : Int} (h : 0 ≤ i ∧ i ≤ j ∧ j ≤ s.length) : jj 1 (.str s) (some (.int k i)) (some (.int k' j)) none = some (.str ((s.take j.toNat).drop i.toNat)) := by
 have h1 : zv 0 s.length (some (.int k' j)) s.length = some j.toNat := qel (by omega)
 have h2 : zv 0 j.toNat (some (.int k i)) 0 = some i.toNat := qel (by omega)
 simp only [jj, h1, h2, Option.bind_some, Option.map_some]
theorem q55 {s : List UInt8} {k : IntKind} {i : Int} (h : 0 ≤ i ∧ i ≤ s.length) : jj 1 (.str s) (some (.int k i)) none none = some (.str (s.drop i.toNat)) := by
 have h2 : zv 0 s.length (some (.int k i)) 0 = some i.toNat := qel (by omega)
 have h1 : zv 0 s.length none s.length = some s.length := rfl
 simp only [jj, h1, h2, Option.bind_some, Option.map_some, List.take_length]
theorem q8l {s : List UInt8} {k : IntKind} {j : Int} (h : 0 ≤ j ∧ j ≤ s.length) : jj 1 (.str s) none (some (.int k j)) none = some (.str (s.take j.toNat)) := by
 have h1 : zv 0 s.length (some (.int k j)) s.length = some j.toNat := qel (by omega)
 have h2 : zv 0 j.toNat none 0 = some 0 := rfl
 simp only [jj, h1, h2, Option.bind_some, Option.map_some, List.drop_zero]
end
theorem zb0 {c : Operand} {a b : Code} (hc : opd fr H c = some (.bool true)) (h : Wp E fn round a fr H Q) : Wp E fn round (.cond c a b) fr H Q := qvf (t := true) hc h
theorem zbz {c : Operand} {a b : Code} (hc : opd fr H c = some (.bool false)) (h : Wp E fn round b fr H Q) : Wp E fn round (.cond c a b) fr H Q := qvf (t := false) hc (by simpa using h)
theorem q8i : zj E fr H [] = some [] := rfl
theorem q8j {t : Nat} {v : V} {rs : List ResultVar} {vs : List V} (h : fr.tmp t = some v) (h' : zj E fr H rs = some vs) : zj E fr H (.tmp t :: rs) = some (v :: vs) := by
 simp only [zj, h, h', Option.bind_some, Option.map_some]
theorem ends {rs : List ResultVar} {vs : List V} {R : V → Heap → Prop} (hd : fr.defers = []) (hr : zj E fr H rs = some vs) (h : R (oneOf vs) H) : ∃ H'', qar fr.defers H = some H'' ∧ ∃ vs, zj E fr H'' rs = some vs ∧ R (oneOf vs) H'' :=
 ⟨H, by rw [hd]; rfl, vs, hr, h⟩
theorem ltn {N d : Nat} (h : fr.n = N) (hd : d < N) : d < fr.n := h ▸ hd
theorem zcg (hd : fr.defers = []) : qar fr.defers H = some H := by rw [hd]; rfl
theorem qxv {next : Fr → Heap → Prop} (h : next fr H) : qoj next Q .normal fr H := h
theorem zdg {next : Fr → Heap → Prop} {id : Nat} (h : Q (.exit id) fr H) : qoj next Q (.exit id) fr H := h
theorem zdh {next : Fr → Heap → Prop} (h : Q .ret fr H) : qoj next Q .ret fr H := h
theorem zbf {id : Nat} (h : Q .normal fr H) : qhi id Q .normal fr H := h
theorem zbg {id : Nat} (h : Q .ret fr H) : qhi id Q .ret fr H := h
theorem qvt {id id' : Nat} (hn : ¬ id' = id) (h : Q (.exit id') fr H) : qhi id Q (.exit id') fr H := by
 simp only [qhi, if_neg hn]
 exact h
theorem zes {e : Ex} (hn : ∀ l, e ≠ .goto l) (h : Q e fr H) : (∀ l, e ≠ .goto l) ∧ Q e fr H := ⟨hn, h⟩
theorem qyc {id : Nat} (h : Q .normal fr H) : qhi id Q (.exit id) fr H := by
 simp only [qhi, if_true]
 exact h
def qt6 (s : List UInt8) (i : Int) : UInt8 := s.getD i.toNat 0
theorem qvv {s : List UInt8} {i : Int} (h : i.toNat < s.length) : s[i.toNat]? = some (qt6 s i) := by
 rw [List.getElem?_eq_getElem h, qt6, List.getD_eq_getElem?_getD, List.getElem?_eq_getElem h]
 rfl
theorem wrap64 {x : Int} (h1 : -9223372036854775808 ≤ x) (h2 : x < 9223372036854775808) : IntKind.wrap .i64 x = x := by
 simp only [IntKind.wrap, IntKind.bits, IntKind.signed]
 first
  | omega
  | (simp; omega)
  | (rw [Int.bmod_eq_of_le] <;> omega)
theorem ze0 {a b : Int} (h1 : -9223372036854775808 ≤ a + b) (h2 : a + b < 9223372036854775808) : kx .add .i64 a b = some (.int .i64 (a + b)) := by
 simp only [kx, wrap64 h1 h2]
theorem ze7 {a b : Int} (h1 : -9223372036854775808 ≤ a - b) (h2 : a - b < 9223372036854775808) : kx .sub .i64 a b = some (.int .i64 (a - b)) := by
 simp only [kx, wrap64 h1 h2]
theorem ze6 {a b : Int} (h1 : -9223372036854775808 ≤ a * b) (h2 : a * b < 9223372036854775808) : kx .mul .i64 a b = some (.int .i64 (a * b)) := by
 simp only [kx, wrap64 h1 h2]
theorem ze4 {α : Type} [BEq α] [LawfulBEq α] {a b : α} (h : (a != b) = true) : a ≠ b := bne_iff_ne.1 h
theorem ze3 {α : Type} [BEq α] [LawfulBEq α] {a b : α} (h : (a != b) = false) : a = b := by
 simpa [bne] using h
theorem ze2 {α : Type} [BEq α] [LawfulBEq α] {a b : α} (h : (a == b) = true) : a = b := eq_of_beq h
theorem ze1 {α : Type} [BEq α] [LawfulBEq α] {a b : α} (h : (a == b) = false) : a ≠ b := by
 intro he
 rw [he] at h
 simp at h
theorem zcz {b : Bool} (h : (!b) = true) : b = false := by simpa using h
theorem zcy {b : Bool} (h : (!b) = false) : b = true := by simpa using h
def qe0 (op : Op) : Bool :=
 (op.operands.toList.all fun | .tmp _ | .const _ => true | _ => false) && match op with
 | .move _ | .assign _ | .pick .. | .binOp .. | .unOp .. | .extract .. | .index .. | .field .. => true
 | .slice _ _ _ _ none => true
 | _ => false
def qyq (ops : Array Oper) : Bool := ops.toList.all fun o => qe0 o.op
theorem jz {t : Nat} {l : List Nat} (h : t ∈ l) : ({ fr with tmps := zf fr.tmps l .nil } : Fr).tmp t = fr.tmp t := by
 simp only [Fr.tmp, z2, h, if_true]
theorem qs7 {o : Oper} {H' : Heap} (hf : (o.op.operands.toList.all fun | .tmp _ | .const _ => true | _ => false) = true) {x : Operand} (hx : x ∈ o.op.operands.toList) : opd { fr with tmps := zf fr.tmps (o.looksAt all) .nil } H' x = opd fr H x := by
 cases x with
 | tmp t =>
  simp only [opd]
  refine jz ?_
  simp only [Oper.looksAt, List.mem_append, List.mem_filterMap]
  exact .inl ⟨_, hx, rfl⟩
 | const v => rfl
 | _ =>
  have := List.all_eq_true.1 hf _ hx
  simp at this
theorem qgk {o : Oper} : ku o all { fr with tmps := zf fr.tmps (o.looksAt all) .nil } = ku o all fr := by
 unfold ku
 split
 ·rfl
 ·rename_i j want hg
  split
  ·rfl
  ·rename_i d hd
   rw [jz]
   simp [Oper.looksAt, hg, hd]
theorem qqh {H' : Heap} {fr' : Fr} {x : Option Operand} (h : ∀ y, x = some y → opd fr' H' y = opd fr H y) : qct fr' H' x = qct fr H x := by
 cases x with
 | none => rfl
 | some y => simp only [qct, h y rfl]
theorem qmm {o : Oper} {fr' : Fr} {H' H1 : Heap} {out : Out} (hf : qe0 o.op = true) (heq : ∀ x ∈ o.op.operands.toList, opd fr' H' x = opd fr H x) (h : qn E o fr H = some (out, H1)) :
  (match o.op with | .slice t .. => ∀ ti, E.types t = some ti → ∀ n e, ti.under ≠ .array n e | _ => True) → H1 = H ∧ qn E o fr' H' = some (out, H') := by
 intro harr
 unfold qe0 at hf
 simp only [Bool.and_eq_true] at hf
 obtain ⟨_, hk⟩ := hf
 split at hk
 ·rename_i x ho
  have e1 := heq x (by simp [ho, Op.operands])
  simp only [qn, ho, e1] at h ⊢
  obtain ⟨v, h1, h2⟩ := Option.map_eq_some_iff.1 h
  cases h2
  exact ⟨rfl, by rw [h1]; rfl⟩
 ·rename_i x ho
  have e1 := heq x (by simp [ho, Op.operands])
  simp only [qn, ho, e1] at h ⊢
  obtain ⟨v, h1, h2⟩ := Option.map_eq_some_iff.1 h
  cases h2
  exact ⟨rfl, by rw [h1]; rfl⟩
 ·rename_i c x y ho
  have e1 := heq c (by simp [ho, Op.operands])
  have e2 := heq x (by simp [ho, Op.operands])
  have e3 := heq y (by simp [ho, Op.operands])
  simp only [qn, ho, e1] at h ⊢
  split at h
  ·rename_i b hb
   cases b
   ·simp only [Bool.false_eq_true, if_false] at h ⊢
    obtain ⟨v, h1, h2⟩ := Option.map_eq_some_iff.1 h
    cases h2
    exact ⟨rfl, by rw [e3, h1]; rfl⟩
   ·simp only [if_true] at h ⊢
    obtain ⟨v, h1, h2⟩ := Option.map_eq_some_iff.1 h
    cases h2
    exact ⟨rfl, by rw [e2, h1]; rfl⟩
  ·cases h
 ·rename_i op t x y u ho
  have e1 := heq x (by simp [ho, Op.operands])
  have e2 := heq y (by simp [ho, Op.operands])
  simp only [qn, ho, e1, e2, Option.bind_eq_some_iff] at h ⊢
  obtain ⟨a, h1, b, h2, h3⟩ := h
  have fin : ∀ {z : Option V}, (z.map fun x => (Out.val x, H)) = some (out, H1) → H1 = H ∧ (z.map fun x => (Out.val x, H')) = some (out, H') := by
   intro z hz
   obtain ⟨v, h1, h2⟩ := Option.map_eq_some_iff.1 hz
   cases h2
   exact ⟨rfl, by rw [h1]; rfl⟩
  split at h3
  ·split at h3
   ·exact ⟨(fin h3).1, _, h1, _, h2, (fin h3).2⟩
   ·rename_i hne
    refine ⟨(fin h3).1, _, h1, _, h2, ?_⟩
    cases x <;> exact (fin h3).2
   ·cases h3
  ·rename_i hne
   refine ⟨(fin h3).1, _, h1, _, h2, ?_⟩
   cases a <;> first
    | exact (fin h3).2
    | (cases b <;> first
        | exact (fin h3).2
        | exact (hne rfl rfl).elim)
 ·rename_i op t x ho
  have e1 := heq x (by simp [ho, Op.operands])
  simp only [qn, ho, e1, Option.bind_eq_some_iff] at h ⊢
  obtain ⟨a, h1, h3⟩ := h
  obtain ⟨v, h1', h2⟩ := Option.map_eq_some_iff.1 h3
  cases h2
  exact ⟨rfl, a, h1, by rw [h1']; rfl⟩
 ·rename_i x i ho
  have e1 := heq x (by simp [ho, Op.operands])
  simp only [qn, ho, e1, Option.bind_eq_some_iff] at h ⊢
  obtain ⟨a, h1, h3⟩ := h
  split at h3
  ·obtain ⟨v, h1', h2⟩ := Option.map_eq_some_iff.1 h3
   cases h2
   exact ⟨rfl, _, h1, by simp only [h1']; rfl⟩
  ·cases h3
 ·rename_i t x y ho
  have e1 := heq x (by simp [ho, Op.operands])
  have e2 := heq y (by simp [ho, Op.operands])
  simp only [qn, ho, e1, e2, Option.bind_eq_some_iff] at h ⊢
  obtain ⟨ti, ht, a, h1, b, h2, h3⟩ := h
  split at h3
  ·split at h3
   ·obtain ⟨v, h1', h2'⟩ := Option.map_eq_some_iff.1 h3
    cases h2'
    rename_i hu h0
    exact ⟨rfl, ti, ht, _, h1, _, h2, by simp only [hu, h0, if_true, h1', Option.map_some]⟩
   ·cases h3
  ·rename_i hu
   simp only [Option.bind_eq_some_iff] at h3
   obtain ⟨ei, he, h3⟩ := h3
   split at h3
   ·rename_i h0
    obtain ⟨v, h1', h2'⟩ := Option.map_eq_some_iff.1 h3
    cases h2'
    refine ⟨rfl, ti, ht, _, h1, _, h2, ?_⟩
    simp only [hu, he, Option.bind_some, h0, and_self, if_true, h1', Option.map_some]
   ·cases h3
  ·cases h3
 ·rename_i t x k ho
  have e1 := heq x (by simp [ho, Op.operands])
  simp only [qn, ho, e1, Option.bind_eq_some_iff] at h ⊢
  obtain ⟨ti, ht, f, hf, fi, hfi, a, h1, h3⟩ := h
  split at h3
  ·obtain ⟨v, h1', h2'⟩ := Option.map_eq_some_iff.1 h3
   cases h2'
   exact ⟨rfl, ti, ht, f, hf, fi, hfi, _, h1, by simp only [h1', Option.map_some]⟩
  ·cases h3
 ·rename_i t x lo hi ho
  have e1 := heq x (by simp [ho, Op.operands])
  have e2 : qct fr' H' lo = qct fr H lo := qqh fun y hy => heq y (by simp [ho, Op.operands, hy])
  have e3 : qct fr' H' hi = qct fr H hi := qqh fun y hy => heq y (by simp [ho, Op.operands, hy])
  rw [ho] at harr
  simp only [qn, ho, e1, e2, e3, Option.bind_eq_some_iff] at h ⊢
  obtain ⟨ti, ht, a, h1, vlo, h2, vhi, h3, h4⟩ := h
  split at h4
  ·rename_i el hu
   split at h4
   ·cases h4
   ·rename_i hns
    simp only [Option.bind_eq_some_iff] at h4
    obtain ⟨ei, he, h4⟩ := h4
    obtain ⟨v, h1', h2'⟩ := Option.map_eq_some_iff.1 h4
    cases h2'
    refine ⟨rfl, ti, ht, _, h1, _, h2, _, h3, ?_⟩
    cases a <;> first
     | exact absurd rfl (hns _)
     | simp only [hu, he, Option.bind_some, h1', Option.map_some]
  ·rename_i hu
   split at h4
   ·obtain ⟨v, h1', h2'⟩ := Option.map_eq_some_iff.1 h4
    cases h2'
    exact ⟨rfl, ti, ht, _, h1, _, h2, _, h3, by simp only [hu, h1', Option.map_some]⟩
   ·cases h4
  ·rename_i n e hu
   exact absurd hu (harr ti ht n e)
  ·cases h4
 ·cases hk
def qs0 (E : Env) (l : List TypeId) : Prop := ∀ t ∈ l, ∀ ti, E.types t = some ti → ∀ n e, ti.under ≠ .array n e
theorem zbs : qs0 E [] := fun t h => by cases h
theorem zak {t : TypeId} {l : List TypeId} {ti : TI} (ht : E.types t = some ti) (hn : ∀ n e, ti.under ≠ .array n e) (h : qs0 E l) : qs0 E (t :: l) := by
 intro t' hm ti' ht' n e
 rcases List.mem_cons.1 hm with rfl | hm
 ·rw [ht] at ht'; cases ht'; exact hn n e
 ·exact h t' hm ti' ht' n e
def qgj (l : List Oper) : List TypeId := l.filterMap fun o => match o.op with
 | .slice t _ _ _ _ => some t
 | _ => none
theorem qve {o : Oper} (hf : qe0 o.op = true) (harr : match o.op with | .slice t .. => ∃ ti, E.types t = some ti ∧ ∀ n e, ti.under ≠ .array n e | _ => True) : zb E o.op = false := by
 unfold qe0 at hf
 simp only [Bool.and_eq_true] at hf
 obtain ⟨h1, hk⟩ := hf
 have hg : (o.op.operands.any fun | .global _ => true | _ => false) = false := by
  rw [← Bool.not_eq_true, Array.any_eq_true']
  rintro ⟨x, hx, hb⟩
  have := List.all_eq_true.1 h1 x (by simpa using hx)
  cases x <;> simp_all
 split at hk
 any_goals (rename_i ho; rw [ho] at hg ⊢; exact hg)
 ·rename_i t x lo hi ho
  rw [ho] at hg harr ⊢
  obtain ⟨ti, ht, hn⟩ := harr
  obtain ⟨u, s, by_, z, g⟩ := ti
  have hu : (match some ({ under := u, size := s, bytes := by_, zero := z, isAgg := g } : TI) with
   | some { under := .array .., .. } | none => true
   | _ => false) = false := by
   cases u with
   | array n e => exact absurd rfl (hn n e)
   | _ => rfl
  simp only [zb, ht, Bool.or_eq_false_iff]
  exact ⟨hu, hg⟩
 ·cases hk
def qy (b : Array Nat) (i : Nat) (done : List Done) : List Done := done.filter fun d => !(b.getD i 0).testBit d.i
theorem qhl {d : Done} {l : List Nat} : j4 d l .none = false := by
 obtain ⟨i, fp, lo, hi, ds⟩ := d
 cases fp <;> rfl
theorem qbw {dels : List Nat} : jk H (qw H .none dels) .none dels = H := by
 simp only [jk, qw, Nat.sub_self, List.range'_zero, zf]
theorem qsi {call : Call} {b : Array Nat} : ∀ (l : List Oper) (i : Nat) (done : List Done) (fr : Fr) (H : Heap) (x : Ex × Fr × Heap), (∀ o ∈ l, qe0 o.op = true) → qs0 E (qgj l) → qa6 E call nd all l fr H = some x → ∃ fr', x = (.normal, fr', H) ∧ jw E call all b i l done fr H = some (fr', H)
 | [], i, done, fr, H, x, _, _, h => by
  simp only [qa6, Option.some.injEq] at h
  exact ⟨fr, h.symm, rfl⟩
 | o :: l, i, done, fr, H, x, hf, hna, h => by
  have hfo := hf o List.mem_cons_self
  have hd : qbp o = false := by
   unfold qbp
   split
   ·rename_i c ho
    simp [qe0, ho] at hfo
   ·rfl
  have hna' : qs0 E (qgj l) := by
   intro t ht
   refine hna t ?_
   simp only [qgj, List.filterMap_cons] at ht ⊢
   split
   ·exact ht
   ·exact List.mem_cons_of_mem _ ht
  have harr : (match o.op with | .slice t .. => ∀ ti, E.types t = some ti → ∀ n e, ti.under ≠ .array n e | _ => True) := by
   split
   ·rename_i t a1 a2 a3 a4 ho
    refine hna t ?_
    simp [qgj, ho]
   ·trivial
  rw [qha hd] at h
  have hops : ∀ x ∈ o.op.operands.toList, ∀ dels, opd { fr with tmps := zf fr.tmps (o.looksAt all) .nil } (qw H .none dels) x = opd fr H x := by
   intro x hx dels
   have h1 := hfo
   unfold qe0 at h1
   simp only [Bool.and_eq_true] at h1
   exact qs7 h1.1 hx
  have key : ∃ v wnt, ku o all fr = some wnt ∧ jo E call all o fr H = some (.ret v, H) ∧ ∀ dels, jo E call all o { fr with tmps := zf fr.tmps (o.looksAt all) .nil } (qw H .none dels) = some (.ret v, qw H .none dels) := by
   cases hw : ku o all fr with
   | none => simp [jo, hw] at h
   | some wnt =>
    cases wnt with
    | false => exact ⟨z1, false, rfl, by simp [jo, hw], fun dels => by simp only [jo, qgk, hw]⟩
    | true =>
     cases he : qn E o fr H with
     | none => simp [jo, hw, he] at h
     | some y =>
      obtain ⟨out, H1⟩ := y
      have hout : ∃ v, out = .val v := by
       have hk := hfo
       unfold qe0 at hk
       simp only [Bool.and_eq_true] at hk
       have hk := hk.2
       have vv : ∀ {z : Option V}, (z.map fun x => (Out.val x, H)) = some (out, H1) → ∃ v, out = .val v := by
        intro z hz
        obtain ⟨v, _, h2⟩ := Option.map_eq_some_iff.1 hz
        cases h2
        exact ⟨v, rfl⟩
       split at hk <;> rename_i ho <;> simp only [qn, ho, Option.bind_eq_some_iff] at he
       ·exact vv he
       ·exact vv he
       ·split at he
        ·exact vv he
        ·cases he
       ·obtain ⟨a, _, b, _, he⟩ := he
        split at he
        ·split at he <;> first | exact vv he | cases he
        ·exact vv he
       ·obtain ⟨a, _, he⟩ := he; exact vv he
       ·obtain ⟨a, _, he⟩ := he
        split at he <;> first | exact vv he | cases he
       ·obtain ⟨ti, _, a, _, b, _, he⟩ := he
        split at he
        ·split at he
         ·obtain ⟨v, _, h2⟩ := Option.map_eq_some_iff.1 he; cases h2; exact ⟨_, rfl⟩
         ·cases he
        ·simp only [Option.bind_eq_some_iff] at he
         obtain ⟨ei, _, he⟩ := he
         split at he <;> first | exact vv he | cases he
        ·cases he
       ·obtain ⟨ti, _, f, _, fi, _, a, _, he⟩ := he
        split at he <;> first | exact vv he | cases he
       ·obtain ⟨ti, ht, a, _, lo, _, hi, _, he⟩ := he
        split at he
        ·split at he
         ·cases he
         ·simp only [Option.bind_eq_some_iff] at he
          obtain ⟨ei, _, he⟩ := he
          exact vv he
        ·split at he <;> first | exact vv he | cases he
        ·rename_i n e hu
         rw [ho] at harr
         exact absurd hu (harr ti ht n e)
        ·cases he
       ·cases hk
      obtain ⟨v, rfl⟩ := hout
      have h0 := qmm (fr' := fr) (H' := H) hfo (fun _ _ => rfl) he harr
      obtain ⟨rfl, _⟩ := h0
      refine ⟨v, true, rfl, by simp only [jo, hw, he], fun dels => ?_⟩
      have h1 := qmm (fr' := { fr with tmps := zf fr.tmps (o.looksAt all) .nil }) (H' := qw H1 .none dels) hfo (fun x hx => hops x hx dels) he harr
      simp only [jo, qgk, hw, h1.2]
  obtain ⟨v, wnt, hw, h1, h2⟩ := key
  rw [h1] at h
  simp only at h
  obtain ⟨fr', e1, e2⟩ := qsi (call := call) (b := b) l (i + 1) (⟨i, .none, H.next, H.next, (qy b i done).flatMap Done.names⟩ :: done) (fr.put o.dst v) H x (fun o ho => hf o (List.mem_cons_of_mem _ ho)) hna' h
  refine ⟨fr', e1, ?_⟩
  have htyp : wnt = true → (match o.op with | .slice t .. => ∃ ti, E.types t = some ti ∧ ∀ n e, ti.under ≠ .array n e | _ => True) := by
   intro ht
   subst ht
   split
   ·rename_i t x lo hi mx ho
    rw [ho] at harr
    simp only [jo, hw] at h1
    cases hev : qn E o fr H with
    | none => simp [hev] at h1
    | some y =>
     have hmx : mx = none := by
      have hk := hfo
      cases mx with
      | none => rfl
      | some z => simp [qe0, ho] at hk
     subst hmx
     simp only [qn, ho, Option.bind_eq_some_iff] at hev
     obtain ⟨ti, hti, _⟩ := hev
     exact ⟨ti, hti, harr ti hti⟩
   ·trivial
  have hfp : wnt = true → qcp E o fr = FP.none := fun ht => by simp only [qcp, qve hfo (htyp ht), Bool.not_false, cond_true]
  have hany : ∀ (l : List Done) (dels : List Nat), (l.any fun d => j4 d dels .none) = false := by
   intro l dels
   rw [← Bool.not_eq_true, List.any_eq_true]
   rintro ⟨d, _, hc⟩
   rw [qhl] at hc
   cases hc
  have hnx : ∀ dels, (qw H .none dels).next = H.next := fun dels => rfl
  have hlt : Nat.blt H.next H.next = false := by
   rw [← Bool.not_eq_true, Nat.blt_eq]
   omega
  cases wnt with
  | false =>
   simp only [jw, hw, Option.bind_some, hany, cond_false, h2, hlt, qbw, hnx]
   exact e2
  | true =>
   simp only [jw, hw, Option.bind_some, cond_true, hfp rfl, hany, cond_false, h2, hlt, qbw, hnx]
   exact e2
theorem zeb {id : Nat} {ops : Array Oper} (hf : qyq ops = true) (hna : qs0 E (qgj ops.toList)) (h : WpO E round.isNone ops ops.toList fr H Q) : Wp E fn round (.region id ops true) fr H Q := by
 obtain ⟨x, ⟨k0, h1⟩, h2⟩ := h
 refine ⟨x, ⟨k0, fun k hk => ?_⟩, h2⟩
 obtain ⟨fr', rfl, e2⟩ := qsi (b := Region.before ops) ops.toList 0 [] fr H x (fun o ho => List.all_eq_true.1 hf o ho) hna (h1 k hk)
 simp only [qt, cond_true, e2, Option.map_some]
theorem zd3 {k : IntKind} {a : Int} : kx .eql k a a = some (.bool true) := by simp [kx]
theorem zd4 {k : IntKind} {a : Int} : kx .neq k a a = some (.bool false) := by simp [kx]
theorem zd8 {a : List UInt8} : qcy .eql a a = some (.bool true) := by simp [qcy]
theorem zd9 {a : List UInt8} : qcy .neq a a = some (.bool false) := by simp [qcy]
theorem qwe {o : Oper} {t u : TypeId} {ti : TI} {x y : Operand} {i j : Bool} (ho : o.op = .binOp .eql t x y u) (ht : E.types t = some ti) (hu : ti.under = .bool) (hx : opd fr H x = some (.bool i)) (hy : opd fr H y = some (.bool j)) : qn E o fr H = some (.val (.bool (i == j)), H) := by
 simp only [qn, ho, hx, hy, Option.bind_some, kf, eqV, ht, hu, Option.map_some]
theorem qwf {o : Oper} {t u : TypeId} {ti : TI} {x y : Operand} {i j : Bool} (ho : o.op = .binOp .neq t x y u) (ht : E.types t = some ti) (hu : ti.under = .bool) (hx : opd fr H x = some (.bool i)) (hy : opd fr H y = some (.bool j)) : qn E o fr H = some (.val (.bool (!(i == j))), H) := by
 simp only [qn, ho, hx, hy, Option.bind_some, kf, eqV, ht, hu, Option.map_some]
theorem q1k {o : Oper} {t u : TypeId} {ti : TI} {x y : Operand} {i : Bool} (ho : o.op = .binOp .eql t x y u) (ht : E.types t = some ti) (hu : ti.under = .bool) (hx : opd fr H x = some (.bool i)) (hy : opd fr H y = some (.bool i)) : qn E o fr H = some (.val (.bool true), H) := by
 rw [qwe ho ht hu hx hy, beq_self_eq_true]
theorem q1l {o : Oper} {t u : TypeId} {ti : TI} {x y : Operand} {i : Bool} (ho : o.op = .binOp .neq t x y u) (ht : E.types t = some ti) (hu : ti.under = .bool) (hx : opd fr H x = some (.bool i)) (hy : opd fr H y = some (.bool i)) : qn E o fr H = some (.val (.bool false), H) := by
 rw [qwf ho ht hu hx hy, beq_self_eq_true]; rfl
theorem q9j {x : Int} (h1 : 0 ≤ x) (h2 : x < 256) : IntKind.wrap .u8 x = x := by
 simp only [IntKind.wrap, IntKind.bits, IntKind.signed]
 first
  | omega
  | (simp; omega)
theorem ze9 {a b : Int} (h1 : 0 ≤ a + b) (h2 : a + b < 256) : kx .add .u8 a b = some (.int .u8 (a + b)) := by
 simp only [kx, q9j h1 h2]
theorem zfb {a b : Int} (h1 : 0 ≤ a - b) (h2 : a - b < 256) : kx .sub .u8 a b = some (.int .u8 (a - b)) := by
 simp only [kx, q9j h1 h2]
theorem zci {o : Oper} {s d : TypeId} {x : Operand} {si di : TI} {k0 k j : IntKind} {n m : Int} (ho : o.op = .convert s d x) (hs : E.types s = some si) (hsu : si.under = .int k0) (hd : E.types d = some di) (hdu : di.under = .int k) (hx : opd fr H x = some (.int j n)) (hw : k.wrap n = m) : qn E o fr H = some (.val (.int k m), H) := by
 rw [q4a ho hs hsu hd hdu hx, hw]
theorem zd0 {o : Oper} {t : TypeId} {x : Operand} {k : IntKind} {n m : Int} (ho : o.op = .unOp .neg t x) (hx : opd fr H x = some (.int k n)) (hw : k.wrap (-n) = m) : qn E o fr H = some (.val (.int k m), H) := by
 rw [q97 ho hx, Int.zero_sub, hw]
def qz5 (s : List UInt8) (i : Int) : Int := ((qt6 s i).toNat : Int)
theorem zb8 (s : List UInt8) (i : Int) : 0 ≤ qz5 s i ∧ qz5 s i < 256 := by
 have := (qt6 s i).toNat_lt
 unfold qz5
 omega
theorem zbj {o : Oper} {t : TypeId} {ti : TI} {x y : Operand} {s : List UInt8} {k : IntKind} {i : Int} (ho : o.op = .index t x y) (ht : E.types t = some ti) (hu : ti.under = .string) (hx : opd fr H x = some (.str s)) (hy : opd fr H y = some (.int k i)) (h0 : 0 ≤ i) (hb : i < s.length) : qn E o fr H = some (.val (.int .u8 (qz5 s i)), H) :=
 q4b ho ht hu hx hy h0 (qvv (by omega))
theorem qvx {P : Program} {sp : Nat → Option (List V → Heap → Option (CR × Heap))} (hm : P.follows .mixedOrders = true) (hok : qcd P = true) (hsp : ∀ f s, sp f = some s → k6 P f s) {f : FuncId} {g : Func} {c : Code} (hf : P.funcs[f]? = some g) (hname : (g.name == "runtime.NumGoroutine") = false) (hb : g.body = some c)
  {args : List V} {rargs : Array Value} {G : qd} {W : World} {R : V → Heap → Prop} (hs : Sim H G W) (hr : qh G W args rargs.toList) (h : qau (qp P sp) (.func f) args H R) :
  Calls P f rargs W fun e w' => ∃ v H' x G', R v H' ∧ e = .returned x ∧ Rel G' w' v x ∧ Step H G W H' G' w' := by
 obtain ⟨v, H', ⟨k0, h1⟩, h2⟩ := h
 have hc : qao P (zz (qp P sp) k0) := kc hm (q0a hok) (qow hok) hsp k0
 refine (hc.calls hf hname hb (h1 k0 (Nat.le_refl _)) hs hr).mono fun e w' ⟨G', st, se⟩ => ?_
 obtain ⟨x, rfl, hx⟩ := se
 exact ⟨v, H', x, G', h2, rfl, hx, st⟩
theorem q5x {P : Program} {Hd : Type} {enc : TypeId × Value → Hd} {g : Func} {s : Go.ChangeSpec} {apart fresh handsOn : Bool} {W w' : World} {args : Array Value} {ds gs : List (DataW Hd)} {before : List MemPlace} {t : TypeId}
  (hW : DataW.Whole enc P g.params.toList s.vars apart W args.toList ds gs before) (hv : s.vars = []) (ht : g.resultTypes = #[t]) (hu : P.underlying t = some .bool)
  (hfn : s.fn Hd ds = { results := [.lit (.bool true)], args := ds }) (hargs : ∀ sp : Nat → Bool, ∃ pa, DataW.TrodAll enc P w' 0 sp true g.params.toList args.toList ds pa) (hk : ∀ may, W.keptBut w' may) :
  s.post enc P g apart fresh handsOn false W args (.bool true) w' := by
 have hW' := hW
 obtain ⟨p, q, hA, hV, rfl, _, _⟩ := hW
 rw [hv] at hV
 obtain ⟨rfl, rfl⟩ := Go.ChangeShapes.trodVars_none hV
 obtain ⟨pa, hpa⟩ := hargs (fun b => decide (b < W.heap.size))
 refine ⟨ds, [], p ++ [], [], pa, [], hW', ?_, ?_, ?_, hk _, fun h => by cases h⟩
 ·rw [ht, List.append_nil, hfn]
  exact Go.ChangeShapes.trodAll_mk1 (Go.RowKit.shut_bool hu true)
 ·rw [List.append_nil, hfn]
  exact hpa
 ·rw [hv, List.append_nil, hfn]
  rfl
theorem qsj {args : List V} {n : Nat} {ds : List Dfr} {i : Nat} {v : V} (h : args[i]? = some v) : ({ tmps := qb0 args, n := n, defers := ds } : Fr).tmp i = some v := by
 simp only [Fr.tmp, qb0, Tree.qkg, h]
theorem zcw {s : List UInt8} (h : (s == []) = true) : s.length = 0 := by
 rw [eq_of_beq h]; rfl
theorem zcv {s : List UInt8} (h : (s == []) = false) : s.length ≠ 0 := by
 intro h0
 rw [List.length_eq_zero_iff.1 h0] at h
 cases h
theorem zeq {s : List UInt8} (h : (!(s == [])) = true) : s.length ≠ 0 := zcv (zcz h)
theorem zep {s : List UInt8} (h : (!(s == [])) = false) : s.length = 0 := zcw (zcy h)
def WpD (E : Env) (all : Array Oper) (b : Array Nat) (i : Nat) (l : List Oper) (done : List Done) (fr : Fr) (H : Heap) (Q : Ex → Fr → Heap → Prop) : Prop :=
 ∃ x : Fr × Heap, (∃ k0, ∀ k, k0 ≤ k → jw E (zz E k) all b i l done fr H = some x) ∧ Q .normal x.1 x.2
theorem qxy {id : Nat} {ops : Array Oper} (h : WpD E ops (Region.before ops) 0 ops.toList [] fr H Q) : Wp E fn round (.region id ops true) fr H Q := by
 obtain ⟨x, ⟨k0, h1⟩, h2⟩ := h
 exact ⟨(.normal, x.1, x.2), ⟨k0, fun k hk => by simp only [qt, cond_true, h1 k hk, Option.map_some]⟩, h2⟩
section
variable {b : Array Nat} {i : Nat} {l : List Oper} {done : List Done} {o : Oper}
theorem q00 (h : Q .normal fr H) : WpD E all b i [] done fr H Q := ⟨(fr, H), ⟨0, fun _ _ => rfl⟩, h⟩
theorem jr {fp : FP} {out : Out} {v : V} {K : Heap} (hw : ku o all fr = some true) (hfp : qcp E o fr = fp) (hnc : fp ≠ .call) (hcl : ((qy b i done).any fun d => j4 d ((qy b i done).flatMap Done.names) fp) = false)
  (hev : qn E o { fr with tmps := zf fr.tmps (o.looksAt all) .nil } (qw H fp ((qy b i done).flatMap Done.names)) = some (out, K)) (hout : out = .val v ∨ (out = .skip ∧ v = z1)) (hlt : H.next ≤ K.next)
  (k : WpD E all b (i + 1) l (⟨i, fp, H.next, K.next, (qy b i done).flatMap Done.names⟩ :: done) (fr.put o.dst v) (jk H K fp ((qy b i done).flatMap Done.names)) Q) : WpD E all b i (o :: l) done fr H Q := by
 obtain ⟨x, ⟨k0, h1⟩, h2⟩ := k
 refine ⟨x, ⟨k0, fun k hk => ?_⟩, h2⟩
 have hb : Nat.blt K.next H.next = false := by
  rw [← Bool.not_eq_true, Nat.blt_eq]
  omega
 have hr : jo E (zz E k) all o { fr with tmps := zf fr.tmps (o.looksAt all) .nil } (qw H fp ((qy b i done).flatMap Done.names)) = some (.ret v, K) := by
  rcases hout with rfl | ⟨rfl, rfl⟩ <;> simp only [jo, qgk, hw, hev]
 have hcl' : ((done.filter fun d => !(b.getD i 0).testBit d.i).any fun d => j4 d ((done.filter fun d => !(b.getD i 0).testBit d.i).flatMap Done.names) fp) = false := hcl
 have hr' : jo E (zz E k) all o { fr with tmps := zf fr.tmps (o.looksAt all) .nil } (qw H fp ((done.filter fun d => !(b.getD i 0).testBit d.i).flatMap Done.names)) = some (.ret v, K) := hr
 have h1' := h1 k hk
 simp only [qy] at h1'
 simp only [jw, hw, Option.bind_some, cond_true, hfp]
 cases fp with
 | call => exact absurd rfl hnc
 | _ => simp only [hcl', cond_false, hr', hb]; exact h1'
theorem q6k (hw : ku o all fr = some false) (k : WpD E all b (i + 1) l (⟨i, .none, H.next, H.next, (qy b i done).flatMap Done.names⟩ :: done) (fr.put o.dst z1) H Q) : WpD E all b i (o :: l) done fr H Q := by
 obtain ⟨x, ⟨k0, h1⟩, h2⟩ := k
 refine ⟨x, ⟨k0, fun k hk => ?_⟩, h2⟩
 have hany : ∀ (l : List Done) (dels : List Nat), (l.any fun d => j4 d dels .none) = false := by
  intro l dels
  rw [← Bool.not_eq_true, List.any_eq_true]
  rintro ⟨d, _, hc⟩
  rw [qhl] at hc
  cases hc
 have hb : Nat.blt H.next H.next = false := by
  rw [← Bool.not_eq_true, Nat.blt_eq]
  omega
 have hnx : ∀ dels, (qw H .none dels).next = H.next := fun dels => rfl
 simp only [jw, hw, Option.bind_some, cond_false, hany, jo, qgk, qbw, hnx, hb]
 exact h1 k hk
def Calm (B : Nat) (done : List Done) : Prop := ∀ d ∈ done, (d.fp = .none ∨ ∃ l, d.fp = .reads l) ∧ B ≤ d.lo
theorem q32 {B : Nat} : Calm B [] := fun d h => by cases h
theorem qjl {B : Nat} {d : Done} (h : d.fp = .none ∨ ∃ l, d.fp = .reads l) (hb : B ≤ d.lo) (hd : Calm B done) : Calm B (d :: done) := by
 intro x hx
 rcases List.mem_cons.1 hx with rfl | hx
 ·exact ⟨h, hb⟩
 ·exact hd x hx
theorem qf2 {B : Nat} (hc : Calm B done) {fp : FP} (hf : fp = .none ∨ ∃ l, fp = .reads l) {dels : List Nat} : ((qy b i done).any fun d => j4 d dels fp) = false := by
 rw [← Bool.not_eq_true, List.any_eq_true]
 rintro ⟨d, hd, h⟩
 have hm := (hc d (List.mem_filter.1 hd).1).1
 obtain ⟨di, dfp, dlo, dhi, dd⟩ := d
 simp only at hm
 rcases hm with hm | ⟨l, hm⟩ <;> rcases hf with rfl | ⟨l', rfl⟩ <;> subst hm <;> cases h
theorem qsf {B nm : Nat} (hc : Calm B done) (h : nm < B) : nm ∉ (qy b i done).flatMap Done.names := by
 intro hm
 obtain ⟨d, hd, hn⟩ := List.mem_flatMap.1 hm
 have h1 := (hc d (List.mem_filter.1 hd).1).2
 have h2 := (List.mem_range'_1.1 hn).1
 omega
theorem zdl {v : V} {B : Nat} (hc : Calm B done) (hB : B ≤ H.next) (hf : qe0 o.op = true) (ht : zb E o.op = false) (harr : match o.op with | .slice t .. => ∀ ti, E.types t = some ti → ∀ n e, ti.under ≠ .array n e | _ => True)
  (hw : ku o all fr = some true) (h : qn E o fr H = some (.val v, H)) (k : ∀ done', Calm B done' → WpD E all b (i + 1) l done' (fr.put o.dst v) H Q) : WpD E all b i (o :: l) done fr H Q := by
 have hops : ∀ dels, ∀ x ∈ o.op.operands.toList, opd { fr with tmps := zf fr.tmps (o.looksAt all) .nil } (qw H .none dels) x = opd fr H x := by
  intro dels x hx
  have h1 := hf
  unfold qe0 at h1
  simp only [Bool.and_eq_true] at h1
  exact qs7 h1.1 hx
 refine jr (fp := .none) (K := qw H .none _) hw (by simp only [qcp, ht, Bool.not_false, cond_true]) (by simp) (qf2 hc (.inl rfl)) (qmm hf (hops _) h harr).2 (.inl rfl) (Nat.le_refl _) ?_
 rw [qbw]
 exact k _ (qjl (.inl rfl) hB hc)
theorem qg0 {l : List Nat} {dels : List Nat} {nm : Nat} (hl : nm ∈ l) (hn : nm < H.next) (hd : nm ∉ dels) : (qw H (.reads l) dels).get nm = H.get nm := by
 have hok : (Nat.blt nm H.next && !dels.any fun m => Nat.beq nm m) = true := qkr hn hd
 simp only [qw, Heap.get, z2]
 rw [if_pos (List.mem_filter.2 ⟨hl, hok⟩)]
theorem qgv {l dels : List Nat} : jk H (qw H (.reads l) dels) (.reads l) dels = H := by
 simp only [jk, qw, Nat.sub_self, List.range'_zero, zf]
theorem zdm {t : TypeId} {ti : TI} {d nm g off lim : Nat} {v : V} {B : Nat} (hc : Calm B done) (hB : B ≤ H.next) (ho : o.op = .load t (.tmp d)) (ht : E.types t = some ti) (hp : fr.tmp d = some (.ptr nm g off lim)) (hnm : nm < B) (hw : ku o all fr = some true) (h : qbr H ti (.ptr nm g off lim) = some v)
  (k : ∀ done', Calm B done' → WpD E all b (i + 1) l done' (fr.put o.dst v) H Q) : WpD E all b i (o :: l) done fr H Q := by
 have hfp : qcp E o fr = .reads [nm] := by
  simp only [qcp, ho, zb, Bool.not_true, cond_false, jf, Op.operands, List.flatMap_cons, List.flatMap_nil, qkq, hp, V.nm, List.append_nil]
 have hd : d ∈ o.looksAt all := by simp [Oper.looksAt, ho, Op.operands]
 refine jr (fp := .reads [nm]) (out := .val v) (K := qw H (.reads [nm]) ((qy b i done).flatMap Done.names)) hw hfp (by simp) (qf2 hc (.inr ⟨_, rfl⟩)) ?_ (.inl rfl) (Nat.le_refl _) ?_
 ·have hg := qg0 (H := H) (l := [nm]) (dels := (qy b i done).flatMap Done.names) (List.mem_singleton.2 rfl) (by omega) (qsf hc hnm)
  have hl : qbr (qw H (.reads [nm]) ((qy b i done).flatMap Done.names)) ti (.ptr nm g off lim) = some v := by
   rw [← h]
   simp only [qbr, zu, hg]
  simp only [qn, ho, ht, Option.bind_some, opd, jz hd, hp, hl, Option.map_some]
 ·rw [qgv]
  exact k _ (qjl (.inr ⟨_, rfl⟩) hB hc)
end
section
variable {o : Oper}
theorem zdz {t : TypeId} {ti : TI} {x : Operand} {p v : V} (ho : o.op = .load t x) (ht : E.types t = some ti) (hx : opd fr H x = some p) (h : qbr H ti p = some v) : qn E o fr H = some (.val v, H) := by
 simp only [qn, ho, ht, hx, Option.bind_some, h, Option.map_some]
theorem zcl {t : TypeId} {ti : TI} {x y : Operand} {p v : V} {H' : Heap} (ho : o.op = .store t x y) (ht : E.types t = some ti) (hx : opd fr H x = some p) (hy : opd fr H y = some v) (h : qdn H ti p v = some H') : qn E o fr H = some (.skip, H') := by
 simp only [qn, ho, ht, hx, hy, Option.bind_some, h, Option.map_some]
theorem zch {t : TypeId} {ti : TI} (ho : o.op = .alloc t) (ht : E.types t = some ti) : qn E o fr H = some (.val (.ptr H.next 0 0 ti.zero.cells.length), j8 H ti.zero.cells t) := by
 simp only [qn, ho, ht, Option.map_some]
theorem zej {t : TypeId} {x : Operand} {v : V} (ho : o.op = .box t x) (hx : opd fr H x = some v) : qn E o fr H = some (.val (.ptr H.next 0 0 v.cells.length), j8 H v.cells t) := by
 simp only [qn, ho, hx, Option.bind_some]
theorem qll {t : TypeId} {ti fi : TI} {x : Operand} {k nm g off lim : Nat} {f : Field} (ho : o.op = .fieldAddr t x k) (ht : E.types t = some ti) (hf : qcn ti k = some f) (hfi : E.types f.type = some fi) (hz : Nat.beq fi.size 0 = false) (hx : opd fr H x = some (.ptr nm g off lim)) : qn E o fr H = some (.val (.ptr nm g (off + f.offset) lim), H) := by
 simp only [qn, ho, ht, hf, hfi, hz, hx, Option.bind_some, cond_false]
theorem zcj {t : TypeId} {ti fi : TI} {x : Operand} {k : Nat} {f : Field} {cs : List V} {v : V} (ho : o.op = .field t x k) (ht : E.types t = some ti) (hf : qcn ti k = some f) (hfi : E.types f.type = some fi) (hx : opd fr H x = some (.agg cs)) (h : qge fi cs f.offset = some v) : qn E o fr H = some (.val v, H) := by
 simp only [qn, ho, ht, hf, hfi, hx, Option.bind_some, h, Option.map_some]
theorem q39 {t : TypeId} {ti : TI} {parts : Array (Nat × Operand)} {fs : Array Field} {vs cs : List V} (ho : o.op = .build t parts) (ht : E.types t = some ti) (hu : ti.under = .struct fs) (hp : ky fr H (parts.toList.map (·.2)) = some vs) (hall : fs.toList.all (fun f => (E.types f.type).isSome) = true)
  (h : qc0 (fun i => (fs[i]?).bind fun f => (E.types f.type).map fun fi => (f.offset, fi.size)) ti.zero.cells ((parts.toList.map (·.1)).zip vs) = some cs) : qn E o fr H = some (.val (.agg cs), H) := by
 simp only [qn, ho, ht, hp, Option.bind_some, hu, hall, Bool.not_true, cond_false, h, Option.map_some]
theorem q6p {t e : TypeId} {ti ei : TI} {len : Nat} {parts : Array (Nat × Operand)} {vs cs : List V} (ho : o.op = .buildSlice t len parts) (ht : E.types t = some ti) (hu : ti.under = .slice e) (he : E.types e = some ei) (hp : ky fr H (parts.toList.map (·.2)) = some vs) (hb : Nat.ble (len * ei.size) 16777216 = true)
  (h : qc0 (fun i => some (i * ei.size, ei.size)) (List.replicate len ei.zero.cells).flatten ((parts.toList.map (·.1)).zip vs) = some cs) : qn E o fr H = some (.val (.slice H.next 0 0 len ei.size (some len)), j8 H cs e) := by
 simp only [qn, ho, ht, hp, Option.bind_some, hu, he, hb, cond_true, h, Option.map_some]
theorem q7i {t e : TypeId} {ti ei : TI} {x y : Operand} {xv iv v : V} (ho : o.op = .indexAddr t x y) (ht : E.types t = some ti) (hu : ti.under = .slice e) (he : E.types e = some ei) (hx : opd fr H x = some xv) (hy : opd fr H y = some iv) (h : qcr ei.size xv iv = some v) : qn E o fr H = some (.val v, H) := by
 simp only [qn, ho, ht, hx, hy, Option.bind_some, hu, he, h, Option.map_some]
theorem zck {c : Go.Call} {x : Operand} {t e : TypeId} {ti : TI} {nm g off len sz : Nat} {cap : Option Nat} (ho : o.op = .call c) (hc : c.callee = .builtin .len) (ha : c.args.toList = [x]) (hat : c.argTypes.toList = [t]) (ht : E.types t = some ti) (hu : ti.under = .slice e) (hx : opd fr H x = some (.slice nm g off len sz cap)) : qn E o fr H = some (.val (.int .i64 len), H) := by
 simp only [qn, ho, ha, hc, hat, ky, hx, Option.bind_some, Option.map_some, zt, ht, hu, qag]
theorem zbk {c : Go.Call} {x : Operand} {t e : TypeId} {ti : TI} (ho : o.op = .call c) (hc : c.callee = .builtin .len) (ha : c.args.toList = [x]) (hat : c.argTypes.toList = [t]) (ht : E.types t = some ti) (hu : ti.under = .slice e) (hx : opd fr H x = some .nils) : qn E o fr H = some (.val (.int .i64 0), H) := by
 simp only [qn, ho, ha, hc, hat, ky, hx, Option.bind_some, Option.map_some, zt, ht, hu, qag]
 rfl
theorem zbi {c : Go.Call} {x y : Operand} {t u e e' : TypeId} {ti ui ei : TI} {s z : V} {r : V × Heap} (ho : o.op = .call c) (hc : c.callee = .builtin .append) (ha : c.args.toList = [x, y]) (hat : c.argTypes.toList = [t, u]) (ht : E.types t = some ti) (hu : ti.under = .slice e) (hut : E.types u = some ui) (huu : ui.under = .slice e') (he : E.types e = some ei)
  (hx : opd fr H x = some s) (hy : opd fr H y = some z) (h : js H e ei.size ei.bytes s z = some r) : qn E o fr H = some (.val r.1, r.2) := by
 simp only [qn, ho, ha, hc, hat, ky, hx, hy, Option.bind_some, Option.map_some, zt, ht, hu, hut, huu, he, h]
theorem q8z {f : FuncId} {first captured : Array Operand} {a c : List V} (ho : o.op = .makeFunc (.func f) first captured) (ha : ky fr H first.toList = some a) (hc : ky fr H captured.toList = some c) : qn E o fr H = some (.val (.func (.func f) a c), H) := by
 simp only [qn, ho, ha, hc, Option.bind_some, Option.map_some]
end
theorem ju {x : O} : (H.new x).get H.next = some x := by
 obtain ⟨t, n, r, g⟩ := H
 simp only [Heap.new, Heap.get, Tree.zm, if_true]
theorem qaw {x : O} {nm : Nat} (h : nm < H.next) : (H.new x).get nm = H.get nm := by
 obtain ⟨t, n, r, g⟩ := H
 have : ¬ nm = n := by simp only at h; omega
 simp only [Heap.new, Heap.get, Tree.zm, if_neg this]
theorem ql {x : O} : (H.new x).next = H.next + 1 := by cases H; rfl
theorem qrq {x : O} : (H.new x).glob = H.glob := by cases H; rfl
theorem qwq {x : O} : (H.new x).ro = H.ro := by cases H; rfl
def Heap.put (H : Heap) (nm : Nat) (x : O) : Heap := { H with objs := H.objs.set nm x }
theorem qaq {nm : Nat} {x : O} (h : H.ro ≤ nm) : H.upd nm x = some (H.put nm x) := by
 obtain ⟨t, n, r, g⟩ := H
 have hb : Nat.blt nm r = false := by
  rw [← Bool.not_eq_true, Nat.blt_eq]
  simp only at h
  omega
 simp only [Heap.upd, hb, cond_false, Heap.put]
theorem jv {nm : Nat} {x : O} : (H.put nm x).get nm = some x := by simp only [Heap.put, Heap.get, Tree.zm, if_true]
theorem qad {nm m : Nat} {x : O} (h : m ≠ nm) : (H.put nm x).get m = H.get m := by simp only [Heap.put, Heap.get, Tree.zm, if_neg h]
theorem q6s {nm : Nat} {x : O} : (H.put nm x).next = H.next := rfl
theorem q6r {nm : Nat} {x : O} : (H.put nm x).glob = H.glob := rfl
theorem q82 {nm : Nat} {x : O} : (H.put nm x).ro = H.ro := rfl
structure Keeps (H H' : Heap) : Prop where
 next : H.next ≤ H'.next
 ro : H'.ro = H.ro
 glob : H'.glob = H.glob
 old : ∀ nm, nm < H.next → H'.get nm = H.get nm
theorem Keeps.refl (H : Heap) : Keeps H H := ⟨Nat.le_refl _, rfl, rfl, fun _ _ => rfl⟩
theorem Keeps.trans {H H' H'' : Heap} (h : Keeps H H') (h' : Keeps H' H'') : Keeps H H'' :=
 ⟨Nat.le_trans h.next h'.next, h'.ro.trans h.ro, h'.glob.trans h.glob, fun nm hn => (h'.old nm (Nat.lt_of_lt_of_le hn h.next)).trans (h.old nm hn)⟩
theorem Keeps.new {H H' : Heap} (h : Keeps H H') (x : O) : Keeps H (H'.new x) :=
 ⟨by rw [ql]; have := h.next; omega, by rw [qwq]; exact h.ro, by rw [qrq]; exact h.glob, fun nm hn => by rw [qaw (Nat.lt_of_lt_of_le hn h.next)]; exact h.old nm hn⟩
theorem Keeps.put {H H' : Heap} (h : Keeps H H') {nm : Nat} (hn : H.next ≤ nm) (x : O) : Keeps H (H'.put nm x) :=
 ⟨h.next, h.ro, h.glob, fun m hm => by rw [qad (by omega)]; exact h.old m hm⟩
def qzz (H : Heap) (nm g : Nat) (cells : List V) : Prop := ∃ elem floor frz exact, H.get nm = some (.row cells elem g floor frz exact) ∧ floor ≤ g ∧ frz = 0
theorem zbq {cells : List V} {e : TypeId} {ex : Bool} : qzz (H.new (.row cells e 0 0 0 ex)) H.next 0 cells := ⟨_, _, _, _, ju, Nat.le_refl _, rfl⟩
theorem qxc {nm g off lim n : Nat} {cells : List V} (h : qzz H nm g cells) (hno : cells.any isHole = false) (h1 : off + n ≤ lim) (h2 : lim ≤ cells.length) : zu H n (.ptr nm g off lim) = some ((cells.drop off).take n) := by
 obtain ⟨elem, floor, frz, ex, hg, hf, _⟩ := h
 have b1 : Nat.ble floor g = true := by rw [Nat.ble_eq]; exact hf
 have b2 : Nat.ble (off + n) lim = true := by rw [Nat.ble_eq]; exact h1
 have b3 : Nat.ble lim cells.length = true := by rw [Nat.ble_eq]; exact h2
 simp only [zu, hg, b1, b2, b3, Bool.and_self, cond_true, qw1 hno]
theorem zcq {nm g off lim : Nat} {cells : List V} {ti : TI} (h : qzz H nm g cells) (hno : cells.any isHole = false) (ha : ti.isAgg = true) (h1 : off + ti.size ≤ lim) (h2 : lim ≤ cells.length) : qbr H ti (.ptr nm g off lim) = some (.agg ((cells.drop off).take ti.size)) := by
 simp only [qbr, qxc h hno h1 h2, Option.bind_some, ha, cond_true]
theorem zcr {nm g off lim : Nat} {cells : List V} {ti : TI} {v : V} (h : qzz H nm g cells) (hno : cells.any isHole = false) (ha : ti.isAgg = false) (hs : ti.size = 1) (h1 : off + 1 ≤ lim) (h2 : lim ≤ cells.length) (hv : cells[off]? = some v) : qbr H ti (.ptr nm g off lim) = some v := by
 have hd : (cells.drop off).take 1 = [v] := by
  obtain ⟨hlt, he⟩ := List.getElem?_eq_some_iff.1 hv
  rw [List.drop_eq_getElem_cons hlt, he]
  rfl
 simp only [qbr, hs, qxc h hno h1 h2, Option.bind_some, ha, cond_false, hd]
def qto (P : Program) (l : List Fact) (n f : Nat) (args : List V) (H : Heap) : Bool :=
 match zz (qp P (qq4 l)) n (.func f) args H with
 | some (.ret (.bool b), _) => b
 | _ => false
theorem q3i {P : Program} (hm : P.follows .mixedOrders = true) (hok : qcd P = true) {l : List Fact} (hl : ∀ F ∈ l, k6 P F.f F.qma) {f : FuncId} {g : Func} {c : Code} (hf : P.funcs[f]? = some g) (hname : (g.name == "runtime.NumGoroutine") = false) (hb : g.body = some c) {k : Nat} {G : qd} {W : World}
  {args : List V} {rargs : Array Value} (hs : Sim H G W) (hr : qh G W args rargs.toList) (h : qto P l k f args H = true) : Calls P f rargs W fun e w' => e = .returned (.bool true) ∧ ∃ G', Ext H.ro G W G' w' := by
 unfold qto at h
 split at h
 ·rename_i b H' hrun
  subst h
  refine ((qjn hm hok hl k).calls hf hname hb hrun hs hr).mono fun e w' ⟨G', st, se⟩ => ?_
  obtain ⟨v, rfl, hv⟩ := se
  simp only [Rel] at hv
  subst hv
  exact ⟨rfl, G', st.ext⟩
 ·cases h
theorem open_pair {P : Program} {Hd : Type} {enc : TypeId × Value → Hd} {W : World} {base : Nat} {r : Reach} {b0 : Nat} {sp : Nat → Bool} {held : Bool} {t : TypeId} {f0 f1 : Field} {k : IntKind} {v : Value} {d : DataW Hd} {ps : List MemPlace} (ht : P.underlying t = some (.struct #[f0, f1])) (hc : P.cellsOf t = 2) (h0 : P.underlying f0.type = some (.int k)) (h1 : P.underlying f1.type = some (.int k))
  (c0 : P.cellsOf f0.type = 1) (c1 : P.cellsOf f1.type = 1) (o0 : f0.offset = 0) (o1 : f1.offset = 1) (hval : Value.okWide P W r b0 t v) (hd : DataW.Trod enc P W base sp held t v d ps) :
  ∃ n m, v = .agg #[.int k n, .int k m] ∧ d = .agg [.lit (.int k n), .lit (.int k m)] ∧ (Lit.int k n).wf = true ∧ (Lit.int k m).wf = true := by
 obtain ⟨cs, rfl, hsz⟩ := Go.WideShapes.okWide_struct ht hval
 obtain ⟨fuel, hf⟩ := hd
 obtain ⟨y0, y1, n, hx, hl, q0, q1⟩ := Go.ChangeShapes.trod_struct2 ht hf
 rw [hc] at hsz
 have hcs : ∃ a b, cs = #[a, b] := by
  obtain ⟨l⟩ := cs
  match l, hsz with
  | [a, b], _ => exact ⟨a, b, rfl⟩
 obtain ⟨a, b, rfl⟩ := hcs
 simp only [Value.cells, o0, o1, c0, c1] at q0 q1
 obtain ⟨n0, e0, hx0, w0⟩ := DataW.trod_int h0 q0
 obtain ⟨n1, e1, hx1, w1⟩ := DataW.trod_int h1 q1
 simp at e0 e1
 subst e0; subst e1
 simp only [Prod.mk.injEq] at hx
 refine ⟨n0, n1, rfl, ?_, w0, w1⟩
 rw [hx.1, hx0, hx1]
theorem shut_pair {P : Program} {Hd : Type} {enc : TypeId × Value → Hd} {W : World} {base : Nat} {sp : Nat → Bool} {held : Bool} {t : TypeId} {f0 f1 : Field} {k : IntKind} {n m : Int} (ht : P.underlying t = some (.struct #[f0, f1])) (hc : P.cellsOf t = 2) (h0 : P.underlying f0.type = some (.int k)) (h1 : P.underlying f1.type = some (.int k))
  (c0 : P.cellsOf f0.type = 1) (c1 : P.cellsOf f1.type = 1) (o0 : f0.offset = 0) (o1 : f1.offset = 1) (w0 : (Lit.int k n).wf = true) (w1 : (Lit.int k m).wf = true) :
  DataW.Trod enc P W base sp held t (.agg #[.int k n, .int k m]) (.agg [.lit (.int k n), .lit (.int k m)]) ([] ++ []) := by
 refine ⟨2, ?_⟩
 have q0 := Go.ChangeShapes.trod_int_mk (enc := enc) (w := W) (base := base) (spare := sp) (held := held) (P := P) 0 h0 w0
 have q1 := Go.ChangeShapes.trod_int_mk (enc := enc) (w := W) (base := base) (spare := sp) (held := held) (P := P) 0 h1 w1
 exact Go.ChangeShapes.trod_struct2_mk (n := 1) (cs := [.int k n, .int k m]) (y0 := (.lit (.int k n), [])) (y1 := (.lit (.int k m), [])) ht (by simp [hc]) (by simpa [o0, c0] using q0) (by simpa [o1, c1] using q1)
section
variable {b : Array Nat} {i : Nat} {l : List Oper} {done : List Done} {o : Oper}
theorem qsw {x : O} {dels : List Nat} : jk H ((qw H .none dels).new x) .none dels = H.new x := by
 obtain ⟨t, n, r, g⟩ := H
 have h1 : (Tree.nil.set n x : Tree O).get n = some x := by rw [Tree.zm, if_pos rfl]
 simp only [jk, qw, Heap.new, Nat.add_sub_cancel_left, List.range'_one, zf, h1]
theorem qr5 {t : TypeId} (ho : o.op = .alloc t) : zb E o.op = false := by
 rw [ho]
 simp [zb, Op.operands]
theorem zb3 {t : TypeId} {ti : TI} {B : Nat} (hc : Calm B done) (hB : B ≤ H.next) (ho : o.op = .alloc t) (ht : E.types t = some ti) (hw : ku o all fr = some true)
  (k : ∀ done', Calm B done' → WpD E all b (i + 1) l done' (fr.put o.dst (.ptr H.next 0 0 ti.zero.cells.length)) (j8 H ti.zero.cells t) Q) : WpD E all b i (o :: l) done fr H Q := by
 refine jr (fp := .none) (out := .val (.ptr H.next 0 0 ti.zero.cells.length)) (K := j8 (qw H .none ((qy b i done).flatMap Done.names)) ti.zero.cells t) hw (by simp only [qcp, qr5 ho, Bool.not_false, cond_true]) (by simp) (qf2 hc (.inl rfl)) ?_ (.inl rfl) ?_ ?_
 ·simp only [qn, ho, ht, Option.map_some]
  rfl
 ·unfold j8
  rw [ql]
  exact Nat.le_succ _
 ·unfold j8 at k ⊢
  rw [qsw]
  exact k _ (qjl (.inl rfl) hB hc)
theorem qh5 {l : List Nat} {dels : List Nat} {nm : Nat} (hl : nm ∈ l) (hn : nm < H.next) (hd : nm ∉ dels) : (qw H (.writes l) dels).get nm = H.get nm := by
 have hok : (Nat.blt nm H.next && !dels.any fun m => Nat.beq nm m) = true := qkr hn hd
 simp only [qw, Heap.get, z2]
 rw [if_pos (List.mem_filter.2 ⟨hl, hok⟩)]
theorem zb4 {t : TypeId} {ti : TI} {d nm g off lim : Nat} {x : Operand} {v : V} {H' : Heap} (hfree : qy b i done = []) (ho : o.op = .store t (.tmp d) x) (hgl : qiw x = []) (ht : E.types t = some ti) (hp : fr.tmp d = some (.ptr nm g off lim)) (hx : opd fr H x = some v)
  (hxr : ∀ H0, opd { fr with tmps := zf fr.tmps (o.looksAt all) .nil } H0 x = some v) (hnm : nm < H.next) (hw : ku o all fr = some true) (h : qdn H ti (.ptr nm g off lim) v = some H')
  (k : ∀ d' dl, WpD E all b (i + 1) l (⟨i, .writes [nm], d', d', dl⟩ :: done) (fr.put o.dst z1) H' Q) : WpD E all b i (o :: l) done fr H Q := by
 have hfp : qcp E o fr = .writes [nm] := by
  simp only [qcp, ho, zb, Bool.not_true, cond_false, qkq, hp, V.nm, hgl, List.append_nil]
 have hd : d ∈ o.looksAt all := by simp [Oper.looksAt, ho, Op.operands]
 have hg := qh5 (H := H) (l := [nm]) (dels := []) (List.mem_singleton.2 rfl) hnm (by simp)
 have key : ∃ K, qdn (qw H (.writes [nm]) []) ti (.ptr nm g off lim) v = some K ∧ K.next = H.next ∧ jk H K (.writes [nm]) [] = H' := by
  simp only [qdn, z6, cond_eq_ite] at h ⊢
  split at h
  ·rename_i h1
   rw [if_pos h1, hg]
   split at h
   ·rename_i cells elem gen floor frz ex hget
    split at h
    ·rename_i h2
     rw [if_pos h2]
     obtain ⟨u1, rfl⟩ := qck h
     have hro : (qw H (.writes [nm]) []).ro = H.ro := rfl
     rw [qaq (by rw [hro]; exact u1)]
     refine ⟨_, rfl, rfl, ?_⟩
     have hok : (Nat.blt nm H.next && !([] : List Nat).any fun m => Nat.beq nm m) = true := qkr hnm (by simp)
     obtain ⟨tt, nn, rr, gg⟩ := H
     simp only [jk, Heap.put, qw, Nat.sub_self, List.range'_zero, List.append_nil]
     simp only [List.filter_cons, List.filter_nil]
     simp only at hok
     rw [if_pos hok]
     simp only [zf, Tree.zm, if_true]
    ·cases h
   ·cases h
  ·cases h
 obtain ⟨K, h1, h2, h3⟩ := key
 refine jr (fp := .writes [nm]) (out := .skip) (v := z1) (K := K) hw hfp (by simp) (by rw [hfree]; rfl) ?_ (.inr ⟨rfl, rfl⟩) (by omega) ?_
 ·rw [hfree]
  simp only [List.flatMap_nil]
  have hop : opd { fr with tmps := zf fr.tmps (o.looksAt all) .nil } (qw H (.writes [nm]) []) (.tmp d) = some (.ptr nm g off lim) := by
   simp only [opd, jz hd, hp]
  simp only [qn, ho, ht, Option.bind_some, hop, hxr, h1, Option.map_some]
 ·rw [hfree]
  simp only [List.flatMap_nil, h3, h2]
  exact k _ _
end
end
end Go.E2
