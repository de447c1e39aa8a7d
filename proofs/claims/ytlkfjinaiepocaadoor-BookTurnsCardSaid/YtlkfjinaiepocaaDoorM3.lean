/- A VERIFIED EVALUATOR, texts E2y in one. -/
import Derived.Test.YtlkfjinaiepocaaDoorM2
/- E2: RUNS OF E2's THAT NEED SO MUCH AND NO MORE: rules for code, one after the other, for proofs about whatever arguments. -/
namespace Go.E2
open Go
def zc9 (E : Env) (t : Tgt) (args : List V) (H : Heap) (y : CR × Heap) : Prop := ∃ k0, ∀ k, k0 ≤ k → jk E k t args H = some y
def qck (E : Env) (t : Tgt) (args : List V) (H : Heap) (Q : V → Heap → Prop) : Prop := ∃ v H', zc9 E t args H (.ret v, H') ∧ Q v H'
def Wp (E : Env) (fn : FuncId) (round : Option Nat) (c : Code) (fr : Fr) (H : Heap) (Q : Ex → Fr → Heap → Prop) : Prop :=
 ∃ x, (∃ k0, ∀ k, k0 ≤ k → zd E (jk E k) fn round (k + 1) c fr H = some x) ∧ Q x.1 x.2.1 x.2.2
def WpO (E : Env) (nd : Bool) (all : Array Oper) (l : List Oper) (fr : Fr) (H : Heap) (Q : Ex → Fr → Heap → Prop) : Prop :=
 ∃ x, (∃ k0, ∀ k, k0 ≤ k → qcz E (jk E k) nd all l fr H = some x) ∧ Q x.1 x.2.1 x.2.2
section
variable {E : Env} {fn : FuncId} {round : Option Nat} {nd : Bool} {all : Array Oper} {fr : Fr} {H : Heap} {Q : Ex → Fr → Heap → Prop}
theorem qck.mono {t : Tgt} {args : List V} {Q Q' : V → Heap → Prop} (h : qck E t args H Q) (hq : ∀ v H', Q v H' → Q' v H') : qck E t args H Q' := by
 obtain ⟨v, H', h1, h2⟩ := h
 exact ⟨v, H', h1, hq _ _ h2⟩
theorem Wp.mono {c : Code} {Q' : Ex → Fr → Heap → Prop} (h : Wp E fn round c fr H Q) (hq : ∀ ex fr' H', Q ex fr' H' → Q' ex fr' H') : Wp E fn round c fr H Q' := by
 obtain ⟨x, h1, h2⟩ := h
 exact ⟨x, h1, hq _ _ _ h2⟩
theorem WpO.mono {l : List Oper} {Q' : Ex → Fr → Heap → Prop} (h : WpO E nd all l fr H Q) (hq : ∀ ex fr' H', Q ex fr' H' → Q' ex fr' H') : WpO E nd all l fr H Q' := by
 obtain ⟨x, h1, h2⟩ := h
 exact ⟨x, h1, hq _ _ _ h2⟩
theorem za5 (h : Q .normal fr H) : Wp E fn round .skip fr H Q := ⟨(.normal, fr, H), ⟨0, fun _ _ => rfl⟩, h⟩
theorem q8d {l : Nat} (h : Q .normal fr H) : Wp E fn round (.label l) fr H Q := ⟨(.normal, fr, H), ⟨0, fun _ _ => rfl⟩, h⟩
theorem zc7 (h : Q .ret fr H) : Wp E fn round .ret fr H Q := ⟨(.ret, fr, H), ⟨0, fun _ _ => rfl⟩, h⟩
theorem za3 {id : Nat} (h : Q (.exit id) fr H) : Wp E fn round (.exit id) fr H Q := ⟨(.exit id, fr, H), ⟨0, fun _ _ => rfl⟩, h⟩
def qy9 (next : Fr → Heap → Prop) (Q : Ex → Fr → Heap → Prop) : Ex → Fr → Heap → Prop
 | .normal, fr, H => next fr H
 | e, fr, H => Q e fr H
theorem q8g {a b : Code} (h : Wp E fn round a fr H (qy9 (fun fr' H' => Wp E fn round b fr' H' Q) Q)) : Wp E fn round (.seq a b) fr H Q := by
 obtain ⟨⟨e, fr', H'⟩, ⟨k0, h1⟩, h2⟩ := h
 cases e with
 | normal =>
  obtain ⟨x, ⟨k1, h3⟩, h4⟩ := h2
  exact ⟨x, ⟨max k0 k1, fun k hk => by simp only [zd, h1 k (by omega), h3 k (by omega)]⟩, h4⟩
 | _ => exact ⟨_, ⟨k0, fun k hk => by simp only [zd, h1 k hk]⟩, h2⟩
theorem za2 {c : Operand} {a b : Code} {t : Bool} (hc : opd fr H c = some (.bool t)) (h : Wp E fn round (if t then a else b) fr H Q) : Wp E fn round (.cond c a b) fr H Q := by
 obtain ⟨x, ⟨k0, h1⟩, h2⟩ := h
 refine ⟨x, ⟨k0, fun k hk => ?_⟩, h2⟩
 have := h1 k hk
 cases t <;> simp only [zd, hc] <;> exact this
def qlq (id : Nat) (Q : Ex → Fr → Heap → Prop) : Ex → Fr → Heap → Prop
 | .exit id', fr, H => if id' = id then Q .normal fr H else Q (.exit id') fr H
 | e, fr, H => Q e fr H
theorem q8b {id : Nat} {c : Code} (h : Wp E fn round c fr H (qlq id Q)) : Wp E fn round (.block id c) fr H Q := by
 obtain ⟨⟨e, fr', H'⟩, ⟨k0, h1⟩, h2⟩ := h
 cases e with
 | exit id' =>
  simp only [qlq] at h2
  by_cases hid : id' = id
  ·rw [if_pos hid] at h2
   subst hid
   have hb : Nat.beq id' id' = true := by rw [Nat.beq_eq]
   exact ⟨(.normal, fr', H'), ⟨k0, fun k hk => by simp only [zd, h1 k hk, hb, cond_true]⟩, h2⟩
  ·rw [if_neg hid] at h2
   have hb : Nat.beq id' id = false := by
    cases hq : Nat.beq id' id with
    | false => rfl
    | true => exact absurd (Nat.eq_of_beq_eq_true hq) hid
   exact ⟨(.exit id', fr', H'), ⟨k0, fun k hk => by simp only [zd, h1 k hk, hb, cond_false]⟩, h2⟩
 | _ => exact ⟨_, ⟨k0, fun k hk => by simp only [zd, h1 k hk]⟩, h2⟩
theorem q8f {c : Code} (h : Wp E fn round c fr H (fun e fr' H' => (∀ l, e ≠ .goto l) ∧ Q e fr' H')) : Wp E fn round (.scope c) fr H Q := by
 obtain ⟨⟨e, fr', H'⟩, ⟨k0, h1⟩, h2, h3⟩ := h
 refine ⟨(e, fr', H'), ⟨k0, fun k hk => ?_⟩, h3⟩
 simp only [zd, h1 k hk]
 all_goals first
  | rfl
  | (cases e with
   | goto l => exact absurd rfl (h2 l)
   | _ => rfl)
theorem qqn {c : Code} (Inv : Nat → Fr → Heap → Prop) {m : Nat} (h0 : Inv m fr H)
  (h : ∀ m fr H, Inv m fr H → Wp E fn round c fr H (qy9 (fun fr' H' => ∃ m', m' < m ∧ Inv m' fr' H') Q)) : Wp E fn round (.loop c) fr H Q := by
 have key : ∀ (m : Nat) (fr : Fr) (H : Heap) (s0 : Ex), Inv m fr H → ∃ x, (∃ k0 r, ∀ k, k0 ≤ k → ∀ f, r < f → iter (fun (s : Ex × Fr × Heap) => match zd E (jk E k) fn round (k + 1) c s.2.1 s.2.2 with
   | some (.normal, fr', H') => some (true, .normal, fr', H')
   | some r => some (false, r)
   | none => none) f (s0, fr, H) = some x) ∧ Q x.1 x.2.1 x.2.2 := by
  intro m
  induction m using Nat.strongRecOn with
  | _ m ih =>
   intro fr H s0 hi
   obtain ⟨⟨e, fr', H'⟩, ⟨k0, h1⟩, h2⟩ := h m fr H hi
   cases e with
   | normal =>
    obtain ⟨m', hm, hi'⟩ := h2
    obtain ⟨x, ⟨k1, r, h3⟩, h4⟩ := ih m' hm fr' H' .normal hi'
    refine ⟨x, ⟨max k0 k1, r + 1, fun k hk f hf => ?_⟩, h4⟩
    obtain ⟨f, rfl⟩ : ∃ g, f = g + 1 := ⟨f - 1, by omega⟩
    simp only [iter, h1 k (by omega)]
    exact h3 k (by omega) f (by omega)
   | _ =>
    refine ⟨_, ⟨k0, 0, fun k hk f hf => ?_⟩, h2⟩
    obtain ⟨f, rfl⟩ : ∃ g, f = g + 1 := ⟨f - 1, by omega⟩
    simp only [iter, h1 k hk]
 obtain ⟨x, ⟨k0, r, h1⟩, h2⟩ := key m fr H .normal h0
 exact ⟨x, ⟨max k0 r, fun k hk => by simp only [zd]; exact h1 k (by omega) (k + 1) (by omega)⟩, h2⟩
theorem q4r {id : Nat} {ops : Array Oper} (h : WpO E round.isNone ops ops.toList fr H Q) : Wp E fn round (.region id ops false) fr H Q := by
 obtain ⟨x, ⟨k0, h1⟩, h2⟩ := h
 exact ⟨x, ⟨k0, fun k hk => by simp only [zd, cond_false]; exact h1 k hk⟩, h2⟩
theorem za7 (h : Q .normal fr H) : WpO E nd all [] fr H Q := ⟨(.normal, fr, H), ⟨0, fun _ _ => rfl⟩, h⟩
def qi6 (o : Oper) : Bool := match o.op with | .defer _ => true | _ => false
theorem qk1 {call : Call} {o : Oper} {l : List Oper} (hd : qi6 o = false) : qcz E call nd all (o :: l) fr H = match qdh E call all o fr H with
   | some (.ret v, H') => qcz E call nd all l (fr.put o.dst v) H'
   | some (.panic ch, H') => some (.panic ch, fr, H')
   | none => none := by
 simp only [qcz]
 split
 ·rename_i c ho
  simp [qi6, ho] at hd
 ·rfl
theorem qk6 {o : Oper} {l : List Oper} {v : V} {H' : Heap} (hd : qi6 o = false) (hw : qb2 o all fr = some true) (h : kq E o fr H = some (.val v, H')) (k : WpO E nd all l (fr.put o.dst v) H' Q) : WpO E nd all (o :: l) fr H Q := by
 obtain ⟨x, ⟨k0, h1⟩, h2⟩ := k
 exact ⟨x, ⟨k0, fun k hk => by rw [qk1 hd]; simp only [qdh, hw, h]; exact h1 k hk⟩, h2⟩
theorem q8m {o : Oper} {l : List Oper} {H' : Heap} (hd : qi6 o = false) (hw : qb2 o all fr = some true) (h : kq E o fr H = some (.skip, H')) (k : WpO E nd all l (fr.put o.dst k4) H' Q) : WpO E nd all (o :: l) fr H Q := by
 obtain ⟨x, ⟨k0, h1⟩, h2⟩ := k
 exact ⟨x, ⟨k0, fun k hk => by rw [qk1 hd]; simp only [qdh, hw, h]; exact h1 k hk⟩, h2⟩
theorem za8 {o : Oper} {l : List Oper} (hd : qi6 o = false) (hw : qb2 o all fr = some false) (k : WpO E nd all l (fr.put o.dst k4) H Q) : WpO E nd all (o :: l) fr H Q := by
 obtain ⟨x, ⟨k0, h1⟩, h2⟩ := k
 exact ⟨x, ⟨k0, fun k hk => by rw [qk1 hd]; simp only [qdh, hw]; exact h1 k hk⟩, h2⟩
theorem q8l {o : Oper} {l : List Oper} {t : Tgt} {args : List V} {H1 : Heap} (hd : qi6 o = false) (hw : qb2 o all fr = some true) (h : kq E o fr H = some (.call t args, H1))
  (k : qck E t args H1 fun v H' => WpO E nd all l (fr.put o.dst v) H' Q) : WpO E nd all (o :: l) fr H Q := by
 obtain ⟨v, H', ⟨k1, h3⟩, ⟨x, ⟨k0, h1⟩, h2⟩⟩ := k
 refine ⟨x, ⟨max k0 k1, fun k hk => ?_⟩, h2⟩
 rw [qk1 hd]
 simp only [qdh, hw, h, h3 k (by omega)]
 exact h1 k (by omega)
theorem qzv {f : Nat} {args : List V} {s : List V → Heap → Option (CR × Heap)} {v : V} {H' : Heap} {Q : V → Heap → Prop} (hs : E.spec f = some s) (h : s args H = some (.ret v, H')) (hq : Q v H') : qck E (.func f) args H Q :=
 ⟨v, H', ⟨1, fun k hk => by
  obtain ⟨k, rfl⟩ : ∃ g, k = g + 1 := ⟨k - 1, by omega⟩
  simp only [jk, hs, h]⟩, hq⟩
def qcg : List Dfr → Heap → Option Heap
 | [], H => some H
 | .mark nm :: ds, H => match H.get nm with
  | some .dfr => (H.upd nm .gone).bind fun H' => qcg ds H'
  | _ => none
 | .call _ :: _, _ => none
theorem qpm {call : Call} {fuel : Nat} {md : Md} : ∀ {ds : List Dfr} {H H' : Heap}, qcg ds H = some H' → leave E call fuel ds md H = some (md, H')
 | [], H, H', h => by simp only [qcg, Option.some.injEq] at h; simp [leave, h]
 | .mark nm :: ds, H, H', h => by
  simp only [qcg] at h
  simp only [leave]
  split at h
  ·rename_i ho
   rw [ho]
   simp only [Option.bind_eq_some_iff] at h ⊢
   obtain ⟨H1, h1, h2⟩ := h
   exact ⟨H1, h1, qpm h2⟩
  ·cases h
 | .call d :: ds, H, H', h => by simp [qcg] at h
theorem qzu {f : Nat} {fi : FI} {c : Code} {args : List V} {Q : V → Heap → Prop} (hs : E.spec f = none) (hf : E.funcs f = some fi) (hb : fi.body = some c)
  (h : Wp E f none c { tmps := qd1 args, n := max args.length fi.ntmps, defers := [] } H fun e fr' H' => (e = .normal ∨ e = .ret) ∧ ∃ H'', qcg fr'.defers H' = some H'' ∧ ∃ vs, kr E fr' H'' fi.results = some vs ∧ Q (oneOf vs) H'') : qck E (.func f) args H Q := by
 obtain ⟨⟨e, fr', H'⟩, ⟨k0, h1⟩, h2, H'', h3, vs, h4, h5⟩ := h
 refine ⟨oneOf vs, H'', ⟨k0 + 1, fun k hk => ?_⟩, h5⟩
 obtain ⟨k, rfl⟩ : ∃ g, k = g + 1 := ⟨k - 1, by omega⟩
 have hwo : qwq E (jk E k) (k + 1) (e, fr', H') = some (.returning, fr', H'') := by
  have hl := qpm (E := E) (call := jk E k) (fuel := k + 1) (md := .returning) h3
  rcases h2 with rfl | rfl <;> simp [qwq, hl]
 simp only [jk, hs, hf, hb, Option.bind_some, h1 k (by omega), hwo, qj9, h4, Option.map_some]
theorem q29 {f : Nat} {fi : FI} {args : List V} {v : V} {Q : V → Heap → Prop} (hs : E.spec f = none) (hf : E.funcs f = some fi) (hb : fi.body = none) (h : q54 fi.ext args = some v) (hq : Q v H) : qck E (.func f) args H Q :=
 ⟨v, H, ⟨1, fun k hk => by
  obtain ⟨k, rfl⟩ : ∃ g, k = g + 1 := ⟨k - 1, by omega⟩
  simp only [jk, hs, hf, hb, Option.bind_some, h, Option.map_some]⟩, hq⟩
structure Upd (fr : Fr) (d : Nat) (v : V) (fr' : Fr) : Prop where
 get : fr'.tmp d = some v
 other : ∀ j, Nat.beq j d = false → fr'.tmp j = fr.tmp j
 n : fr'.n = fr.n
 ds : fr'.defers = fr.defers
theorem Upd.ne {d j : Nat} {v : V} {fr' : Fr} {x : Option V} (u : Upd fr d v fr') (h : fr.tmp j = x) (hb : Nat.beq j d = false := by rfl) : fr'.tmp j = x := (u.other j hb).trans h
theorem q4s {o : Oper} (hg : o.guard = none) : qb2 o all fr = some true := by simp only [qb2, hg]
theorem q2n {o : Oper} {j d : Nat} {want b : Bool} (hg : o.guard = some (j, want)) (hj : (all[j]?).bind (·.dst) = some d) (hv : fr.tmp d = some (.bool b)) : qb2 o all fr = some (b == want) := by
 simp only [qb2, hg, hj, hv]
theorem q01 {o : Oper} {j d : Nat} {want : Bool} (hg : o.guard = some (j, want)) (hj : (all[j]?).bind (·.dst) = some d) (hv : fr.tmp d = some k4) : qb2 o all fr = some false := by
 simp only [qb2, hg, hj, hv, k4]
theorem q7c : qa4 fr H [] = some [] := rfl
theorem qor {x : Operand} {l : List Operand} {v : V} {vs : List V} (h : opd fr H x = some v) (h' : qa4 fr H l = some vs) : qa4 fr H (x :: l) = some (v :: vs) := by
 simp only [qa4, h, h', Option.bind_some, Option.map_some]
section
variable {o : Oper}
theorem q35 {x : Operand} {v : V} (h : opd fr H x = some v) : qh6 fr H (some x) = some (some v) := by simp only [qh6, h, Option.map_some]
theorem qxb {lo hi d : Nat} {k : IntKind} {i : Int} (h : (lo : Int) ≤ i ∧ i ≤ hi) : ja lo hi (some (.int k i)) d = some i.toNat := by simp only [ja, h, and_self, if_true]
end
theorem ends {rs : List ResultVar} {vs : List V} {R : V → Heap → Prop} (hd : fr.defers = []) (hr : kr E fr H rs = some vs) (h : R (oneOf vs) H) : ∃ H'', qcg fr.defers H = some H'' ∧ ∃ vs, kr E fr H'' rs = some vs ∧ R (oneOf vs) H'' :=
 ⟨H, by rw [hd]; rfl, vs, hr, h⟩
theorem qxa {id id' : Nat} (hn : ¬ id' = id) (h : Q (.exit id') fr H) : qlq id Q (.exit id') fr H := by
 simp only [qlq, if_neg hn]
 exact h
theorem qzs {id : Nat} (h : Q .normal fr H) : qlq id Q (.exit id) fr H := by
 simp only [qlq, if_true]
 exact h
theorem qim {t : Nat} {l : List Nat} (h : t ∈ l) : ({ fr with tmps := z6 fr.tmps l .nil } : Fr).tmp t = fr.tmp t := by
 simp only [Fr.tmp, ko, h, if_true]
theorem qmf {o : Oper} : qb2 o all { fr with tmps := z6 fr.tmps (o.looksAt all) .nil } = qb2 o all fr := by
 unfold qb2
 split
 ·rfl
 ·rename_i j want hg
  split
  ·rfl
  ·rename_i d hd
   rw [qim]
   simp [Oper.looksAt, hg, hd]
def zs (b : Array Nat) (i : Nat) (done : List Done) : List Done := done.filter fun d => !(b.getD i 0).testBit d.i
theorem qrb {d : Done} {l : List Nat} : qa6 d l .none = false := by
 obtain ⟨i, fp, lo, hi, ds⟩ := d
 cases fp <;> rfl
theorem ql4 {dels : List Nat} : qbp H (z3 H .none dels) .none dels = H := by
 simp only [qbp, z3, Nat.sub_self, List.range'_zero, z6]
theorem qxd {P : Program} {sp : Nat → Option (List V → Heap → Option (CR × Heap))} (hm : P.follows .mixedOrders = true) (hok : qjg P = true) (hsp : ∀ f s, sp f = some s → j8 P f s) {f : FuncId} {g : Func} {c : Code} (hf : P.funcs[f]? = some g) (hname : (g.name == "runtime.NumGoroutine") = false) (hb : g.body = some c)
  {args : List V} {rargs : Array Value} {G : qf} {W : World} {R : V → Heap → Prop} (hs : Sim H G W) (hr : qi G W args rargs.toList) (h : qck (qx P sp) (.func f) args H R) :
  Calls P f rargs W fun e w' => ∃ v H' x G', R v H' ∧ e = .returned x ∧ Rel G' w' v x ∧ Step H G W H' G' w' := by
 obtain ⟨v, H', ⟨k0, h1⟩, h2⟩ := h
 have hc : qcm P (jk (qx P sp) k0) := jz hm (zbd hok) (q1e hok) hsp k0
 refine (hc.calls hf hname hb (h1 k0 (Nat.le_refl _)) hs hr).mono fun e w' ⟨G', st, se⟩ => ?_
 obtain ⟨x, rfl, hx⟩ := se
 exact ⟨v, H', x, G', h2, rfl, hx, st⟩
theorem q3f {args : List V} {n : Nat} {ds : List Dfr} {i : Nat} {v : V} (h : args[i]? = some v) : ({ tmps := qd1 args, n := n, defers := ds } : Fr).tmp i = some v := by
 simp only [Fr.tmp, qd1, Tree.qly, h]
def WpD (E : Env) (all : Array Oper) (b : Array Nat) (i : Nat) (l : List Oper) (done : List Done) (fr : Fr) (H : Heap) (Q : Ex → Fr → Heap → Prop) : Prop :=
 ∃ x : Fr × Heap, (∃ k0, ∀ k, k0 ≤ k → qbl E (jk E k) all b i l done fr H = some x) ∧ Q .normal x.1 x.2
theorem q8c {id : Nat} {ops : Array Oper} (h : WpD E ops (Region.before ops) 0 ops.toList [] fr H Q) : Wp E fn round (.region id ops true) fr H Q := by
 obtain ⟨x, ⟨k0, h1⟩, h2⟩ := h
 exact ⟨(.normal, x.1, x.2), ⟨k0, fun k hk => by simp only [zd, cond_true, h1 k hk, Option.map_some]⟩, h2⟩
section
variable {b : Array Nat} {i : Nat} {l : List Oper} {done : List Done} {o : Oper}
theorem za6 (h : Q .normal fr H) : WpD E all b i [] done fr H Q := ⟨(fr, H), ⟨0, fun _ _ => rfl⟩, h⟩
theorem qfv {fp : FP} {out : Out} {v : V} {K : Heap} (hw : qb2 o all fr = some true) (hfp : qjp E o fr = fp) (hnc : fp ≠ .call) (hcl : ((zs b i done).any fun d => qa6 d ((zs b i done).flatMap Done.names) fp) = false)
  (hev : kq E o { fr with tmps := z6 fr.tmps (o.looksAt all) .nil } (z3 H fp ((zs b i done).flatMap Done.names)) = some (out, K)) (hout : out = .val v ∨ (out = .skip ∧ v = k4)) (hlt : H.next ≤ K.next)
  (k : WpD E all b (i + 1) l (⟨i, fp, H.next, K.next, (zs b i done).flatMap Done.names⟩ :: done) (fr.put o.dst v) (qbp H K fp ((zs b i done).flatMap Done.names)) Q) : WpD E all b i (o :: l) done fr H Q := by
 obtain ⟨x, ⟨k0, h1⟩, h2⟩ := k
 refine ⟨x, ⟨k0, fun k hk => ?_⟩, h2⟩
 have hb : Nat.blt K.next H.next = false := by
  rw [← Bool.not_eq_true, Nat.blt_eq]
  omega
 have hr : qdh E (jk E k) all o { fr with tmps := z6 fr.tmps (o.looksAt all) .nil } (z3 H fp ((zs b i done).flatMap Done.names)) = some (.ret v, K) := by
  rcases hout with rfl | ⟨rfl, rfl⟩ <;> simp only [qdh, qmf, hw, hev]
 have hcl' : ((done.filter fun d => !(b.getD i 0).testBit d.i).any fun d => qa6 d ((done.filter fun d => !(b.getD i 0).testBit d.i).flatMap Done.names) fp) = false := hcl
 have hr' : qdh E (jk E k) all o { fr with tmps := z6 fr.tmps (o.looksAt all) .nil } (z3 H fp ((done.filter fun d => !(b.getD i 0).testBit d.i).flatMap Done.names)) = some (.ret v, K) := hr
 have h1' := h1 k hk
 simp only [zs] at h1'
 simp only [qbl, hw, Option.bind_some, cond_true, hfp]
 cases fp with
 | call => exact absurd rfl hnc
 | _ => simp only [hcl', cond_false, hr', hb]; exact h1'
theorem q8k (hw : qb2 o all fr = some false) (k : WpD E all b (i + 1) l (⟨i, .none, H.next, H.next, (zs b i done).flatMap Done.names⟩ :: done) (fr.put o.dst k4) H Q) : WpD E all b i (o :: l) done fr H Q := by
 obtain ⟨x, ⟨k0, h1⟩, h2⟩ := k
 refine ⟨x, ⟨k0, fun k hk => ?_⟩, h2⟩
 have hany : ∀ (l : List Done) (dels : List Nat), (l.any fun d => qa6 d dels .none) = false := by
  intro l dels
  rw [← Bool.not_eq_true, List.any_eq_true]
  rintro ⟨d, _, hc⟩
  rw [qrb] at hc
  cases hc
 have hb : Nat.blt H.next H.next = false := by
  rw [← Bool.not_eq_true, Nat.blt_eq]
  omega
 have hnx : ∀ dels, (z3 H .none dels).next = H.next := fun dels => rfl
 simp only [qbl, hw, Option.bind_some, cond_false, hany, qdh, qmf, ql4, hnx, hb]
 exact h1 k hk
theorem qp7 {l : List Nat} {dels : List Nat} {nm : Nat} (hl : nm ∈ l) (hn : nm < H.next) (hd : nm ∉ dels) : (z3 H (.reads l) dels).get nm = H.get nm := by
 have hok : (Nat.blt nm H.next && !dels.any fun m => Nat.beq nm m) = true := qoo hn hd
 simp only [z3, Heap.get, ko]
 rw [if_pos (List.mem_filter.2 ⟨hl, hok⟩)]
theorem qpl {l dels : List Nat} : qbp H (z3 H (.reads l) dels) (.reads l) dels = H := by
 simp only [qbp, z3, Nat.sub_self, List.range'_zero, z6]
end
section
variable {o : Oper}
end
theorem qa7 {x : O} : (H.new x).get H.next = some x := by
 obtain ⟨t, n, r, g⟩ := H
 simp only [Heap.new, Heap.get, Tree.z7, if_true]
theorem qbx {x : O} {nm : Nat} (h : nm < H.next) : (H.new x).get nm = H.get nm := by
 obtain ⟨t, n, r, g⟩ := H
 have : ¬ nm = n := by simp only at h; omega
 simp only [Heap.new, Heap.get, Tree.z7, if_neg this]
theorem qt {x : O} : (H.new x).next = H.next + 1 := by cases H; rfl
theorem qtg {x : O} : (H.new x).ze = H.ze := by cases H; rfl
theorem qx9 {x : O} : (H.new x).ro = H.ro := by cases H; rfl
def Heap.put (H : Heap) (nm : Nat) (x : O) : Heap := { H with qap := H.qap.set nm x }
theorem qcv {nm : Nat} {x : O} (h : H.ro ≤ nm) : H.upd nm x = some (H.put nm x) := by
 obtain ⟨t, n, r, g⟩ := H
 have hb : Nat.blt nm r = false := by
  rw [← Bool.not_eq_true, Nat.blt_eq]
  simp only at h
  omega
 simp only [Heap.upd, hb, cond_false, Heap.put]
theorem qa8 {nm : Nat} {x : O} : (H.put nm x).get nm = some x := by simp only [Heap.put, Heap.get, Tree.z7, if_true]
theorem qa9 {nm m : Nat} {x : O} (h : m ≠ nm) : (H.put nm x).get m = H.get m := by simp only [Heap.put, Heap.get, Tree.z7, if_neg h]
structure Keeps (H H' : Heap) : Prop where
 next : H.next ≤ H'.next
 ro : H'.ro = H.ro
 ze : H'.ze = H.ze
 old : ∀ nm, nm < H.next → H'.get nm = H.get nm
theorem Keeps.refl (H : Heap) : Keeps H H := ⟨Nat.le_refl _, rfl, rfl, fun _ _ => rfl⟩
theorem Keeps.trans {H H' H'' : Heap} (h : Keeps H H') (h' : Keeps H' H'') : Keeps H H'' :=
 ⟨Nat.le_trans h.next h'.next, h'.ro.trans h.ro, h'.ze.trans h.ze, fun nm hn => (h'.old nm (Nat.lt_of_lt_of_le hn h.next)).trans (h.old nm hn)⟩
theorem Keeps.new {H H' : Heap} (h : Keeps H H') (x : O) : Keeps H (H'.new x) :=
 ⟨by rw [qt]; have := h.next; omega, by rw [qx9]; exact h.ro, by rw [qtg]; exact h.ze, fun nm hn => by rw [qbx (Nat.lt_of_lt_of_le hn h.next)]; exact h.old nm hn⟩
theorem Keeps.put {H H' : Heap} (h : Keeps H H') {nm : Nat} (hn : H.next ≤ nm) (x : O) : Keeps H (H'.put nm x) :=
 ⟨h.next, h.ro, h.ze, fun m hm => by rw [qa9 (by omega)]; exact h.old m hm⟩
section
variable {b : Array Nat} {i : Nat} {l : List Oper} {done : List Done} {o : Oper}
theorem q3o {x : O} {dels : List Nat} : qbp H ((z3 H .none dels).new x) .none dels = H.new x := by
 obtain ⟨t, n, r, g⟩ := H
 have h1 : (Tree.nil.set n x : Tree O).get n = some x := by rw [Tree.z7, if_pos rfl]
 simp only [qbp, z3, Heap.new, Nat.add_sub_cancel_left, List.range'_one, z6, h1]
theorem qnr {l : List Nat} {dels : List Nat} {nm : Nat} (hl : nm ∈ l) (hn : nm < H.next) (hd : nm ∉ dels) : (z3 H (.writes l) dels).get nm = H.get nm := by
 have hok : (Nat.blt nm H.next && !dels.any fun m => Nat.beq nm m) = true := qoo hn hd
 simp only [z3, Heap.get, ko]
 rw [if_pos (List.mem_filter.2 ⟨hl, hok⟩)]
end
end
end Go.E2
