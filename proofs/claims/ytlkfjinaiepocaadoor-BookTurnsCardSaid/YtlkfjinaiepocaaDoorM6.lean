/- A VERIFIED EVALUATOR, texts E3w, E3x, E3y, E3z, E3za, E3zb, L3a in one. -/
import Derived.Test.YtlkfjinaiepocaaDoorM5
import Derived.ChangeBook
import Derived.ChangeStays
import Derived.ChangeArms
import Derived.ChangeMaps5
import Derived.OpenShut
/- E3: FUNCTIONS against E2's: what the conditions of a function show. -/
namespace Go.E3
open Go Go.E2
variable {K : Nat → Type}
def kz : List (PV K) → List (PV K) → List (Nat × Nat)
 | .list _ _ (some (i, _)) :: ps, .list _ _ (some (j, _)) :: rs => (j, i) :: kz ps rs
 | _ :: ps, _ :: rs => kz ps rs
 | _, _ => []
def RT : PV K → Prop
 | .sb id _ b pt pf => id = 0 ∧ (pt ↔ b = true) ∧ (pf ↔ b = false)
 | .int _ l _ => l = none
 | .list _ _ (some (_, s)) => s = 0
 | _ => True
section
variable {X : Codecs K} {sz : Nat → Nat} {C : Cfg Int Bool (List UInt8) Prop (fun c => List (K c))} {base H : Heap} {st : StV K} {w : Wd}
variable {tbl : Tbl K} {inv : Nat → List (NV K) → Prop} {meas : Nat → List (NV K) → Nat} {inl : Inl Int Bool (List UInt8) Prop (fun c => List (K c))}
theorem qhd {fr : Fr} (R : RelH X sz C base st H w) (F : qw3 X sz w st.tmps fr) : ∀ {rs : List ResultVar} {ps : List (PV K)}, qfu (qu X tbl inv meas) C st rs = some ps → ∃ vs, kr C.E fr H rs = some vs ∧ qp X sz w ps vs
 | [], ps, h => by
  simp only [qfu, Option.some.injEq] at h
  subst h
  exact ⟨[], rfl, .nil⟩
 | .tmp t :: rs, ps, h => by
  simp only [qfu] at h
  obtain ⟨p, h1, h2⟩ := Option.bind_eq_some_iff.1 h
  obtain ⟨qs, h3, rfl⟩ := Option.map_eq_some_iff.1 h2
  obtain ⟨v, e1, r1⟩ := F t p h1
  obtain ⟨vs, e2, r2⟩ := qhd R F h3
  exact ⟨v :: vs, by simp only [kr, e1, Option.bind_some, e2, Option.map_some], .cons r1 r2⟩
 | .cell a t :: rs, ps, h => by
  simp only [qfu] at h
  obtain ⟨ti, h0, h1⟩ := Option.bind_eq_some_iff.1 h
  obtain ⟨pa, h2, h3⟩ := Option.bind_eq_some_iff.1 h1
  obtain ⟨p, h4, h5⟩ := Option.bind_eq_some_iff.1 h3
  obtain ⟨qs, h6, rfl⟩ := Option.map_eq_some_iff.1 h5
  obtain ⟨va, e1, r1⟩ := F a pa h2
  obtain ⟨nm, gn, off, lim, rfl, _, hl, _⟩ := qg8 R r1 h4
  obtain ⟨u, hu, ru⟩ := hl H rfl
  obtain ⟨vs, e2, r2⟩ := qhd R F h6
  exact ⟨u :: vs, by simp only [kr, h0, e1, hu, Option.bind_some, e2, Option.map_some], .cons ru r2⟩
theorem q33 {ps : List (PV K)} {vs : List V} (r : qp X sz w ps vs) : Rep X sz w (q0e ps) (oneOf vs) := by
 match ps, r with
 | [], r => rw [r.z5]; exact .undef
 | [p], r =>
  obtain ⟨v, vs', rfl, r1, r2⟩ := r.zt
  have := r2.z5; subst this
  exact r1
 | p :: q :: ps, r =>
  obtain ⟨v, vs', rfl, r1, r2⟩ := r.zt
  obtain ⟨u, vs'', rfl, r3, r4⟩ := r2.zt
  exact .tuple' (.cons r1 (.cons r3 r4))
theorem qmd (ok : CfgOk X sz C) {base H : Heap} : ∀ {ps : List (PV K)} {vs : List V} {st : StV K} {w : Wd} {k : List (PV K) → StV K → Prop}, RelH X sz C base st H w → qp X sz w ps vs → q0z (qu X tbl inv meas) ps st k →
  ∃ qs st' w', k qs st' ∧ RelH X sz C base st' H w' ∧ Le w w' ∧ qp X sz w' qs vs
 | [], vs, st, w, k, R, r, h => ⟨[], st, w, h, R, .refl w, r⟩
 | p :: ps, vs, st, w, k, R, r, h => by
  obtain ⟨v, vs', rfl, r1, r2⟩ := r.zt
  by_cases hmm : ∃ id c n, p = .mlist id c n
  ·obtain ⟨id, c, n, rfl⟩ := hmm
   simp only [q0z] at h
   obtain ⟨l, hl, hn, h⟩ := qe h
   have hn : n = (l.length : Int) := hn
   have hl := qe3 hl
   cases r1 with
   | mlist hi h0 hz =>
    obtain ⟨w1, R1, hle1, hn1, hg1, hrep⟩ := qm0 ok R hl hz
    have hB : Bump { st with cells := j9 st.cells id } { st with cells := j9 st.cells id, owns := (st.next, 0) :: st.owns, next := st.next + 1 } st.next 0 := by
     have hnone : look st.owns st.next = none := by
      cases hl : look st.owns st.next with
      | none => rfl
      | some g => have := R.ownn _ _ hl; omega
     exact ⟨rfl, rfl, rfl, rfl, fun j => qae, Nat.le_succ _, Nat.lt_succ_self _, fun g hg => (by have hg : look st.owns st.next = some g := hg; rw [hnone] at hg; cases hg), fun _ => Nat.le_refl _⟩
    obtain ⟨w2, R2, hle2, ow, et, hn2, _⟩ := qmb (named := false) ok R1 hB (by simp)
    have rl := (hrep none trivial).mono ok.len hle2
    have ho : qiq w2 sz c (some (st.next, 0)) (.slice (w.c id) 0 0 l.length (sz c) (some l.length)) :=
     ⟨by rw [hn2]; exact Nat.lt_succ_self _, fun cur hc' => (by rw [ow] at hc'; cases hc'; exact Nat.le_refl _), fun _ => .inl rfl, fun h => by cases h⟩
    have rl2 : Rep X sz w2 (.list c l (some (st.next, 0))) (.slice (w.c id) 0 0 l.length (sz c) (some l.length)) := by
     cases rl with
     | list hg hf hM hlen hb hz hcap hc _ => exact .list hg hf hM hlen hb hz hcap hc ho
    have hnn : n.toNat = l.length := by omega
    obtain ⟨qs, st', w', a1, a2, a3, a4⟩ := qmd ok R2 ((r2.mono ok.len hle1).mono ok.len hle2) h
    refine ⟨_, st', w', a1, a2, (hle1.trans hle2).trans a3, .cons ?_ a4⟩
    rw [hnn]
    exact rl2.mono ok.len a3
  ·have hml' : ∀ id c n, p = .mlist id c n → False := fun id c n he => hmm ⟨id, c, n, he⟩
   simp only [q0z] at h
   obtain ⟨qs, st', w', a1, a2, a3, a4⟩ := qmd ok R r2 h
   exact ⟨_, st', w', a1, a2, a3, .cons (r1.mono ok.len a3) a4⟩
theorem q5x {X : Codecs K} : (X.u8 ▸ ([] : List (K 0)) : List UInt8) = [] := by
 rw [qkt]
 rfl
theorem qyv (ok : CfgOk X sz C) (pok : q5h C) {f : Nat} (hf : C.prim f = true) {args : List (PV K)} {st : StV K} {k : PV K → StV K → Prop} (h : q7x (qu X tbl inv meas) args st k) {base H : Heap} {w : Wd} {vs : List V}
  (R : RelH X sz C base st H w) (ra : qp X sz w args vs) : qck C.E (.func f) vs H fun v H' => ∃ p st' w', k p st' ∧ st'.tmps = st.tmps ∧ st'.n = st.n ∧ RelH X sz C base st' H' w' ∧ Le w w' ∧ Rep X sz w' p v := by
 unfold q7x at h
 split at h
 ·rename_i id off lim
  obtain ⟨a, us, rfl, r1, r2⟩ := ra.zt
  have := r2.z5; subst this
  obtain ⟨cs, hcs, h1⟩ := qe h
  clear h
  obtain ⟨hcl, hMc, vs, e, ex, hg, _, hr⟩ := R.cells id _ (qd3 hcs)
  have hr : qp X sz w cs vs := hr
  cases r1 with
  | cell hid =>
   obtain ⟨hb, h2⟩ := cond_prop h1
   clear h1
   simp only [Bool.and_eq_true, Nat.ble_eq] at hb
   obtain ⟨hb1, hb2⟩ := hb
   have hb2' : lim ≤ vs.length := by rw [← hr.1]; exact hb2
   obtain ⟨pk1, pk2⟩ := pok f hf H (w.c id) off lim vs e ex R.wf hg hb1 hb2'
   have hget : ∀ q, cs[off + 1]? = some q → ∃ u, vs[off + 1]? = some u ∧ Rep X sz w q u := fun q hq => hr.get hq
   split at h2
   ·rename_i hq
    obtain ⟨u, hu, ru⟩ := hget _ hq
    cases ru
    refine (pk1 hu).mono fun v H' hA => ?_
    obtain ⟨rfl, rfl⟩ := hA
    exact ⟨_, st, w, h2, rfl, rfl, R, .refl w, .str⟩
   ·rename_i c l i s hq
    split at h2
    ·rename_i hc
     subst hc
     obtain ⟨ho, h3, h4⟩ := cond_prop h2
     clear h2
     simp only [Bool.and_eq_true] at ho
     have hodd := Nat.eq_of_beq_eq_true ho.2
     have hlook := qr0 R.owns ho.1
     obtain ⟨u, hu, ru⟩ := hget _ hq
     have hlk : look st.owns i = some s := by rw [← R.owns]; exact hlook
     have hs1 : sz 0 = 1 := by rw [← ok.len 0 (X.dflt 0), ok.u8]; rfl
     obtain ⟨ru0, ro⟩ := ru.q79
     have hnb := ro.2.2.2 hodd
     have hov := ro.2.2.1 hlook
     rcases ku ru with ⟨rfl, rfl⟩ | ⟨nm, gn, o2, cap, cells, el, gen, floor, frz, eb, rfl, hgn, hf2, hM2, hlen, _, hcap, hcell, _⟩
     ·refine (pk1 hu).mono fun v H' hA => ?_
      obtain ⟨rfl, rfl⟩ := hA
      have e0 : (qu X tbl inv meas).bstr ([] : List (K 0)) = [] := q5x (X := X)
      have h4' : k (.str ((qu X tbl inv meas).bstr ([] : List (K 0)))) { st with owns := j9 st.owns i } := h4
      rw [e0] at h4'
      obtain ⟨w', R', hle⟩ := qz0 ok R i
      exact ⟨_, _, w', h4', rfl, rfl, R', hle, .str⟩
     ·obtain ⟨rfl, rfl, hpos⟩ := hnb
      simp only [qp9] at hov
      rcases hov with hov | ⟨_, het, cells', el', floor', frz', eb', hg', htop, hfrz, hce⟩
      ·cases hov
      ·rw [hgn] at hg'
       cases hg'
       rw [R.g] at hgn
       rw [hs1] at htop hlen hu
       obtain ⟨hbase, hnext, hnM⟩ := R.eta i s nm hlk het
       obtain ⟨ecs, ee1, ee2⟩ := qfl ok.len R.g ru0 (by rw [hs1]; exact Nat.one_pos)
       rw [hs1] at ee1
       have hecs : ecs = cells := by
        have b1 : Nat.ble floor gn = true := by rw [Nat.ble_eq]; exact hf2
        have b2 : Nat.ble (0 + l.length * 1) (0 + l.length * 1) = true := by rw [Nat.ble_eq]; exact Nat.le_refl _
        have b3 : Nat.ble (0 + l.length * 1) cells.length = true := by rw [Nat.ble_eq]; exact hlen
        simp only [zu, Nat.beq_refl, cond_true, qaf, hgn, b1, b2, b3, Bool.and_self, Option.map_eq_some_iff, Prod.mk.injEq, true_and] at ee1
        obtain ⟨_, ee1, rfl⟩ := ee1
        obtain ⟨rfl, _⟩ := qjb ee1
        rw [List.drop_zero, List.take_of_length_le]
        omega
       subst hecs
       have hbytes := qjy ok ee2
       have hle' : l.length ≤ 140737488355328 := by
        have : (l.length : Int) ≤ 140737488355328 := h3
        omega
       refine (pk2 nm gn l.length ecs el floor frz eb _ hu hgn (by omega) hf2 hpos hle' (by rw [← R.ce]; exact hce) hbytes ee2.qsb (by rw [R.keeps.ro]; exact Nat.le_trans R.rob.1 hbase) (fun he => hnM (by rw [he]; exact hMc))).mono fun v H' hA => ?_
       obtain ⟨rfl, rfl⟩ := hA
       obtain ⟨w', R', hle⟩ := q0r ok R hlk het (max frz l.length) hgn
       exact ⟨_, _, w', h4, rfl, rfl, R', hle, .str⟩
    ·exact h2.elim
   ·exact h2.elim
 ·exact h.elim
theorem LeB.qjo (w : Wd) (x : Nat) : LeB w { w with fl := x } :=
 have h := LeB.refl w
 ⟨h.n, h.mem, h.c, h.nu, h.o1, h.o2, h.o3, h.ce, h.cl, h.nx, h.b, h.Mu, h.lp⟩
theorem RelH.qjo (ok : CfgOk X sz C) (R : RelH X sz C base st H w) (x : Nat) : RelH X sz C base st H { w with fl := x } :=
 ⟨R.wf, R.rob, R.g, R.nx, R.b, R.Mlt, R.n, R.one, R.keeps, R.cl, R.cinj, fun id ct h => by
  obtain ⟨a, b, c⟩ := R.cells id ct h
  exact ⟨a, b, c.qdc ok.len (LeB.qjo w x) (by rw [R.n]; exact (R.cl id a).1)⟩, R.owns, R.ownn, R.eta, R.einj, R.ce, R.known, fun gn ps h => by
  obtain ⟨q0, vs', e', fl, fz, ex', q1, q2, q3⟩ := R.globs gn ps h
  exact ⟨q0, vs', e', fl, fz, ex', q1, q2, q3.qdc ok.len (LeB.qjo w x)⟩⟩
theorem qpr (ok : CfgOk X sz C) {F : Nat} : ∀ {ds : List Dfr} {H : Heap} {w : Wd}, RelH X sz C base st H w → (∀ x ∈ ds, ∃ m, x = .mark m ∧ base.next ≤ m ∧ F ≤ m ∧ w.g m = some .dfr) → ds.Nodup →
  ∃ H'' w2, qcg ds H = some H'' ∧ RelH X sz C base st H'' w2 ∧ LeB w w2 ∧ w2.fl = w.fl ∧ ∀ m, m < F → w2.g m = w.g m
 | [], H, w, R, _, _ => ⟨H, w, rfl, R, .refl w, rfl, fun _ _ => rfl⟩
 | x :: ds, H, w, R, hd, hn => by
  obtain ⟨m, rfl, hb, hF, hg⟩ := hd x List.mem_cons_self
  rw [List.nodup_cons] at hn
  let H1 := H.put m .gone
  let w1 : Wd := { w with g := H1.get }
  have hgH : H.get m = some .dfr := by rw [← R.g]; exact hg
  have hget : ∀ nm, nm ≠ m → H1.get nm = H.get nm := fun nm hn => qa9 hn
  have hlt : m < H.next := by
   by_cases h : m < H.next
   ·exact h
   ·rw [R.wf m (by omega)] at hgH; cases hgH
  have hle : LeB w w1 := by
   refine ⟨Nat.le_refl _, fun nm cs e gen floor frz ex h hM' => ⟨hM', [], gen, frz, ex, ?_⟩, fun _ _ => rfl, fun _ _ => rfl, fun _ _ h => h, fun _ _ _ _ h h' => (by rw [h] at h'; cases h'; exact Nat.le_refl _), fun i s hi ho _ => ⟨rfl, fun nm hn hne => ?_⟩, rfl, fun _ _ => .rfl, Nat.le_refl _, rfl, fun _ _ h => h, fun _ _ => rfl⟩
   ·rw [List.append_nil]
    show H1.get nm = _
    rw [hget nm (by intro he; subst he; rw [hg] at h; cases h), ← R.g]
    exact h
   ·show H1.get nm = w.g nm
    rw [hget nm (by intro he; subst he; exact hne hg), R.g]
  have R1 : RelH X sz C base st H1 w1 := by
   refine ⟨fun n hn => ?_, R.rob, rfl, R.nx, R.b, R.Mlt, R.n, R.one, R.keeps.put hb _, R.cl, R.cinj, fun id' ps' h' => ?_, R.owns, R.ownn, R.eta, R.einj, R.ce, R.known, fun gn ps' h' => ?_⟩
   ·have hn' : H.next ≤ n := hn
    rw [hget n (by omega)]
    exact R.wf n hn'
   ·obtain ⟨q1, q2, q5⟩ := R.cells id' ps' h'
    refine ⟨q1, q2, ?_⟩
    show qai X sz w1 id' _ (H1.get (w.c id'))
    rw [hget _ (by intro he; rw [he] at q5; exact q5.some.1 hgH)]
    exact q5.qdc ok.len hle (by rw [R.n]; exact (R.cl id' q1).1)
   ·obtain ⟨q0, vs', e', fl, fz, ex', q1, q2, q3⟩ := R.globs gn ps' h'
    exact ⟨q0, vs', e', fl, fz, ex', q1, q2, q3.qdc ok.len hle⟩
  obtain ⟨H'', w2, a1, a2, a3, a4, a5⟩ := qpr ok R1 (fun x hx => by
   obtain ⟨m', h1, h2, h3, h4⟩ := hd x (List.mem_cons_of_mem _ hx)
   refine ⟨m', h1, h2, h3, ?_⟩
   show H1.get m' = _
   rw [hget m' (by intro he; subst he; subst h1; exact hn.1 hx), ← R.g]
   exact h4) hn.2
  refine ⟨H'', w2, ?_, a2, hle.trans a3, a4, fun m' hm' => ?_⟩
  ·simp only [qcg, hgH, qcv (show H.ro ≤ m by rw [R.keeps.ro]; exact Nat.le_trans R.rob.1 hb), Option.bind_some]
   exact a1
  ·rw [a5 m' hm']
   show H1.get m' = w.g m'
   rw [hget m' (by omega), R.g]
theorem Le.leave {w w1 w2 w3 : Wd} (hwf : ∀ n, w.nx ≤ n → w.g n = none) (h1 : Le { w with fl := w.nx } w1) (h2 : LeB w1 w2) (hold : ∀ m, m < w.nx → w2.g m = w1.g m) (h3 : Le w2 w3) : Le w { w3 with fl := w.fl } := by
 have h := h1.toLeB.trans (h2.trans h3.toLeB)
 refine ⟨⟨h.n, h.mem, h.c, h.nu, h.o1, h.o2, h.o3, h.ce, h.cl, h.nx, h.b, h.Mu, h.lp⟩, fun m hm => ?_, rfl⟩
 have hlt : m < w.nx := by
  by_cases hlt : m < w.nx
  ·exact hlt
  ·rw [hwf m (by omega)] at hm; cases hm
 refine h3.df m ?_
 rw [hold m hlt]
 exact h1.df m hm
theorem qca {n : Nat} : ∀ {ps : List Tmp} {args : List (PV K)} {vs : List V} {t t' : Tree (PV K)} {lt : Tree V}, qp X sz w args vs → (∀ i p, t.get i = some p → ∃ v, lt.get i = some v ∧ Rep X sz w p v) → qdy n ps args t = some t' →
  ∃ lt', qch n ps vs lt = some lt' ∧ ∀ i p, t'.get i = some p → ∃ v, lt'.get i = some v ∧ Rep X sz w p v
 | [], [], vs, t, t', lt, r, ht, h => by
  have := r.z5; subst this
  simp only [qdy, Option.some.injEq] at h
  subst h
  exact ⟨lt, rfl, ht⟩
 | [], _ :: _, vs, t, t', lt, r, ht, h => by simp [qdy] at h
 | _ :: _, [], vs, t, t', lt, r, ht, h => by simp [qdy] at h
 | p :: ps, a :: args, vs, t, t', lt, r, ht, h => by
  obtain ⟨v, vs', rfl, r1, r2⟩ := r.zt
  simp only [qdy] at h
  rcases km h with ⟨_, h1⟩ | ⟨hb, h1⟩
  ·cases h1
  ·obtain ⟨lt', e1, e2⟩ := qca (lt := lt.set p v) r2 (fun i q hq => by
    rw [Tree.z7] at hq ⊢
    by_cases hi : i = p
    ·rw [if_pos hi] at hq ⊢
     cases hq
     exact ⟨v, rfl, r1⟩
    ·rw [if_neg hi] at hq ⊢
     exact ht i q hq) h1
   refine ⟨lt', ?_, e2⟩
   simp only [qch, hb, cond_true]
   exact e1
theorem qxe {E : Env} {l : Nat} {args : List V} {H : Heap} {Q : V → Heap → Prop} {st : LoopState} {p : Option Code} {lt t : Tree V} {ln ld : Nat} {lp : List Tmp} {la lb : Code} (hl : H.get l = some (.loop st p lt ln lp la lb ld)) (hp : qch ln lp args lt = some t)
  (h : Wp E 0 (some l) la { tmps := t, n := ln, defers := [] } H fun ex fr H1 => ex = .normal ∧ ∃ H2, qq4 H1 l = some H2 ∧ Wp E 0 (some l) lb fr H2 fun ex' fr' H3 => ∃ v H4, qkl l (ex', fr', H3) = some (.ret v, H4) ∧ Q v H4) : qck E (.round l) args H Q := by
 obtain ⟨⟨ex, fr, H1⟩, ⟨k0, h1⟩, h0, H2, hb, ⟨x, ⟨k1, h2⟩, v, H4, h3, h4⟩⟩ := h
 simp only at h0
 subst h0
 refine ⟨v, H4, ⟨max k0 k1 + 1, fun k hk => ?_⟩, h4⟩
 obtain ⟨k, rfl⟩ : ∃ g, k = g + 1 := ⟨k - 1, by omega⟩
 simp only [jk, hl, hp, Option.bind_some, h1 k (by omega)]
 simp only at hb
 rw [hb]
 simp only [Option.bind_some]
 simp only at h2
 rw [h2 k (by omega)]
 simp only [Option.bind_some]
 exact h3
theorem qts (ok : CfgOk X sz C) (ok2 : CfgOk2 X C) (tok : qgv X sz C tbl) (iok : qjs X sz C inl) {id : Nat} {args : List (PV K)} {st : StV K} {k : PV K → StV K → Prop} (h : qws (qu X tbl inv meas) C inl id args st k) {base H : Heap} {w : Wd} {vs : List V}
  (R : RelH X sz C base st H w) (ra : qp X sz w args vs) : qck C.E (.round (w.c id)) vs H fun v H' => ∃ p st' w', k p st' ∧ st'.tmps = st.tmps ∧ st'.n = st.n ∧ RelH X sz C base st' H' w' ∧ Le w w' ∧ Rep X sz w' p v := by
 unfold qws at h
 split at h
 ·rename_i r hl
  split at h
  ·rename_i hm
   obtain ⟨t, ht, h1⟩ := qe h
   obtain ⟨hcl, hM, g, p1, p2, p3, p4, p5, p6, p7⟩ := R.cells id _ hl
   obtain ⟨hid, hnext, hbase⟩ := R.cl id hcl
   have hidn : id < w.n := by rw [R.n]; exact hid
   rw [hm] at p2
   let w0 : Wd := { w with fl := w.nx }
   have R0 : RelH X sz C base st H w0 := R.qjo ok w.nx
   have ra0 : qp X sz w0 args vs := ra.qdc ok.len (LeB.qjo w w.nx)
   rw [p3, p4] at ht
   obtain ⟨lt', e1, e2⟩ := qca (lt := g.lt) ra0 (fun i p hp => by
    obtain ⟨v, a, b⟩ := p7 i p hp
    exact ⟨v, a, b.qdc ok.len (LeB.qjo w w.nx)⟩) ht
   have F0 : Rel X sz C base { st with tmps := t, n := r.n } { tmps := lt', n := g.ln, defers := [] } H w0 := ⟨R0.alike rfl rfl rfl rfl, e2, p3.symm, .nil (Nat.le_refl _)⟩
   have hrd : qw2 w0 (some id) (some (w.c id)) := ⟨hidn, rfl⟩
   refine qxe (l := w.c id) (t := lt') (by rw [p2]; rfl) e1 ?_
   rw [← p5]
   refine (z9 (fnE := 0) ok ok2 tok iok hrd F0 h1).mono fun ex fr1 H1 hA => ?_
   obtain ⟨_, st1, w1, hk, F1, hle1⟩ := hA
   cases ex with
   | normal =>
    refine ⟨rfl, ?_⟩
    simp only at hk
    split at hk
    ·rename_i r1 hl1
     split at hk
     ·rename_i hm1
      obtain ⟨hcl1, hM1, g1, q1, q2, _⟩ := F1.h.cells id _ hl1
      have hc1 : w1.c id = w.c id := hle1.c id hidn
      have hg1 : g1 = g := by
       have : w1.lp id = w.lp id := hle1.lp id hidn
       rw [this, p1] at q1
       exact (Option.some.inj q1).symm
      subst hg1
      rw [hc1, hm1] at q2
      have hro1 : H1.ro ≤ w.c id := by rw [F1.h.keeps.ro, ← hc1]; exact Nat.le_trans F1.h.rob.1 (F1.h.cl _ hcl1).2.2
      have hT1 : ∀ i p, r.tmps.get i = some p → ∃ v, g1.lt.get i = some v ∧ Rep X sz w1 p v := fun i p hp => by
       obtain ⟨v, a, b⟩ := p7 i p hp
       exact ⟨v, a, (b.qdc ok.len (LeB.qjo w w.nx)).mono ok.len hle1⟩
      obtain ⟨w2, R2, hle2⟩ := ql8 ok F1.h (ct' := .lp { r with mode := .busy }) (o := qel g1 .busy) hl1 ⟨g1, q1, rfl, p3, p4, p5, p6, hT1⟩
      rw [hc1] at R2
      have hle02 := hle1.trans hle2
      refine ⟨H1.put (w.c id) (qel g1 .busy), ?_, ?_⟩
      ·simp only [qq4, q2, qel]
       exact qcv hro1
      have F2 : Rel X sz C base { st1 with cells := qft st1.cells id (.lp { r with mode := .busy }) } fr1 (H1.put (w.c id) (qel g1 .busy)) w2 := ⟨R2, fun i p hp => by
       obtain ⟨x, a, b⟩ := F1.f i p hp
       exact ⟨x, a, b.mono ok.len hle2⟩, F1.n, F1.ds.mono hle2⟩
      rw [← p6]
      refine (z9 (fnE := 0) ok ok2 tok iok (hrd.mono hle02) F2 hk).mono fun ex fr3 H3 hB => ?_
      obtain ⟨_, st3, w3, hk3, F3, hle3⟩ := hB
      split at hk3
      ·rename_i r3 hl3
       obtain ⟨hcl3, hM3, g3, u1, u2, _⟩ := F3.h.cells id _ hl3
       have hle03 := hle02.trans hle3
       have hc3 : w3.c id = w.c id := hle03.c id hidn
       have hg3 : g3 = g1 := by
        have : w3.lp id = w.lp id := hle03.lp id hidn
        rw [this, p1] at u1
        exact (Option.some.inj u1).symm
       subst hg3
       rw [hc3] at u2
       have hro3 : H3.ro ≤ w.c id := by rw [F3.h.keeps.ro, ← hc3]; exact Nat.le_trans F3.h.rob.1 (F3.h.cl _ hcl3).2.2
       have hT3 : ∀ i p, r.tmps.get i = some p → ∃ v, g3.lt.get i = some v ∧ Rep X sz w3 p v := fun i p hp => by
        obtain ⟨v, a, b⟩ := hT1 i p hp
        exact ⟨v, a, (b.mono ok.len hle2).mono ok.len hle3⟩
       have hend : ∀ (jump : Option Code), qex H3 (w.c id) jump = some (.ret (.bool jump.isNone), H3.put (w.c id) (.loop (if jump.isNone then .ready else .done) jump g3.lt g3.ln g3.lp g3.la g3.lb g3.ld)) := by
        intro jump
        simp only [qex, u2]
        cases r3.mode with
        | done x => cases x <;> simp only [qel, qcv hro3, Option.map_some]
        | _ => simp only [qel, qcv hro3, Option.map_some]
       have fin : ∀ (md : LMode) (b : Bool) (ex : Ex), qkl (w.c id) (ex, fr3, H3) = some (.ret (.bool b), H3.put (w.c id) (qel g3 md)) → k (.lit b) { st3 with cells := qft st3.cells id (.lp { r with mode := md }), tmps := st.tmps, n := st.n } →
         ∃ v H4, qkl (w.c id) (ex, fr3, H3) = some (.ret v, H4) ∧ ∃ p st' w', k p st' ∧ st'.tmps = st.tmps ∧ st'.n = st.n ∧ RelH X sz C base st' H4 w' ∧ Le w w' ∧ Rep X sz w' p v := by
        intro md b ex he hk
        obtain ⟨w4, R4, hle4⟩ := ql8 ok F3.h (ct' := .lp { r with mode := md }) (o := qel g3 md) hl3 ⟨g3, u1, rfl, p3, p4, p5, p6, hT3⟩
        rw [hc3] at R4
        have hfin : Le w { w4 with fl := w.fl } := Le.leave (fun n hn => by rw [R.g]; exact R.wf n (by rw [← R.nx]; exact hn)) (hle03.trans hle4) (.refl w4) (fun _ _ => rfl) (.refl w4)
        exact ⟨_, _, he, _, _, { w4 with fl := w.fl }, hk, rfl, rfl, (R4.qjo ok w.fl).alike rfl rfl rfl rfl, hfin, .lit⟩
       cases ex with
       | normal => exact fin .ready true .normal (hend none) hk3
       | ret => exact fin (.done none) false .ret (hend (some .ret)) hk3
       | exit i => exact fin (.done (some i)) false (.exit i) (hend (some (.exit i))) hk3
       | _ => exact (show False from hk3).elim
      ·exact (show False from hk3).elim
     ·exact (show False from hk).elim
    ·exact (show False from hk).elim
   | _ => exact (show False from hk).elim
  ·exact (show False from h).elim
 ·exact (show False from h).elim
theorem qnx (ok : CfgOk X sz C) (ok2 : CfgOk2 X C) (tok : qgv X sz C tbl) (hq : zn C) (iok : qjs X sz C inl) {f : Nat} {args : List (PV K)} {st : StV K} {k : PV K → StV K → Prop} (h : qwr (qu X tbl inv meas) C inl f args st k) {base H : Heap} {w : Wd} {vs : List V}
  (R : RelH X sz C base st H w) (ra : qp X sz w args vs) : qck C.E (.func f) vs H fun v H' => ∃ p st' w', k p st' ∧ st'.tmps = st.tmps ∧ st'.n = st.n ∧ RelH X sz C base st' H' w' ∧ Le w w' ∧ Rep X sz w' p v := by
 unfold qwr at h
 cases hans : C.ans f with
 | true => rw [hans] at h; exact absurd h id
 | false =>
  rw [hans] at h
  simp only [cond_false] at h
  have hs := hq.1 f hans
  cases hprim : C.prim f with
  | true =>
   rw [hprim] at h
   simp only [cond_true] at h
   exact qyv ok hq.2 hprim h R ra
  | false =>
  rw [hprim] at h
  simp only [cond_false] at h
  split at h
  ·rename_i fi hfi
   split at h
   ·rename_i c hc
    have ra0 : qp X sz { w with fl := w.nx } args vs := ra.qdc ok.len (LeB.qjo w w.nx)
    have R1 : Rel X sz C base { st with tmps := Tree.ofList args, n := max args.length fi.ntmps } { tmps := qd1 vs, n := max vs.length fi.ntmps, defers := [] } H { w with fl := w.nx } := by
     refine ⟨(R.qjo ok w.nx).alike rfl rfl rfl rfl, fun i p hp => ?_, by rw [ra.1], .nil (Nat.le_refl _)⟩
     have hp' : (Tree.ofList args).get i = some p := hp
     rw [Tree.qly] at hp'
     obtain ⟨v, h1, h2⟩ := ra0.get hp'
     exact ⟨v, q3f h1, h2⟩
    refine qzu hs hfi hc ((z9 (rd := none) (round := none) ok ok2 tok iok trivial R1 h).mono fun ex fr' H' hA => ?_)
    obtain ⟨_, st1, w1, hk, R2, hle⟩ := hA
    have key : onS False (qfu (qu X tbl inv meas) C st1 fi.results) (fun vs => q0z (qu X tbl inv meas) vs st1 fun vs st2 => k (q0e vs) { st2 with tmps := st.tmps, n := st.n }) → ∃ H'', qcg fr'.defers H' = some H'' ∧ ∃ vs, kr C.E fr' H'' fi.results = some vs ∧ ∃ p st' w', k p st' ∧ st'.tmps = st.tmps ∧ st'.n = st.n ∧ RelH X sz C base st' H'' w' ∧ Le w w' ∧ Rep X sz w' p (oneOf vs) := by
     intro hm
     obtain ⟨qs, hps, hm⟩ := qe hm
     obtain ⟨H'', w2, hmk, R3, hB, hfl, hold⟩ := qpr ok R2.h (F := w.nx) (fun x hx => by
      obtain ⟨m, a1, a2, a3, a4⟩ := R2.ds.1 x hx
      exact ⟨m, a1, a2, by rw [hle.fl] at a3; exact a3, a4⟩) R2.ds.2.1
     obtain ⟨us, e1, e2⟩ := qhd (fr := fr') R3 (fun i p hp => by
      obtain ⟨v, h1, h2⟩ := R2.f i p hp
      exact ⟨v, h1, h2.qdc ok.len hB⟩) hps
     obtain ⟨qs', st2, w3, hm, R4, hle3, e3⟩ := qmd ok R3 e2 hm
     have hfin : Le w { w3 with fl := w.fl } := Le.leave (fun n hn => by rw [R.g]; exact R.wf n (by rw [← R.nx]; exact hn)) hle hB hold hle3
     exact ⟨H'', hmk, us, e1, _, _, { w3 with fl := w.fl }, hm, rfl, rfl, (R4.qjo ok w.fl).alike rfl rfl rfl rfl, hfin, q33 (e3.qdc ok.len (LeB.qjo w3 w.fl))⟩
    cases ex with
    | normal => exact ⟨.inl rfl, key hk⟩
    | ret => exact ⟨.inr rfl, key hk⟩
    | _ => exact absurd hk id
   ·rename_i hc
    split at h
    ·rename_i x hext
     obtain ⟨v, vs', rfl, r1, r2⟩ := ra.zt
     have := r2.z5; subst this
     exact q29 hs hfi hc (v := v) (by simp only [hext, q54]) ⟨x, st, w, h, rfl, rfl, R, .refl w, r1⟩
    ·exact absurd h id
  ·exact absurd h id
theorem qs8 (ok : CfgOk X sz C) (ok2 : CfgOk2 X C) (tok : qgv X sz C tbl) (hq : zn C) : ∀ n, qjs X sz C (q2o (qu X tbl inv meas) C n)
 | 0 => fun g args st k h => absurd h id
 | n + 1 => fun t args st k h base H w vs R ra => match t, h with
  | .func f, h => qnx ok ok2 tok hq (qs8 ok ok2 tok hq n) h R ra
  | .round id, h => qts ok ok2 tok (qs8 ok ok2 tok hq n) h R ra
theorem qgi : ∀ {ps rs : List (PV K)} {obs : List Prop}, qi9 (qu X tbl inv meas) st ps rs = some obs → ∀ j i, (j, i) ∈ kz ps rs → ∃ s, look st.owns i = some s
 | [], rs, obs, h, j, i, hm => by cases rs <;> simp [kz] at hm
 | _ :: _, [], obs, h, j, i, hm => by simp [qi9] at h
 | p :: ps, r :: rs, obs, h, j, i, hm => by
  simp only [qi9] at h
  obtain ⟨x, h1, h2⟩ := Option.bind_eq_some_iff.1 h
  obtain ⟨y, h3, _⟩ := Option.map_eq_some_iff.1 h2
  have ih := qgi h3 j i
  cases p with
  | list c l o =>
   cases o with
   | none => cases r <;> exact ih hm
   | some a =>
    obtain ⟨i', s'⟩ := a
    cases r with
    | list c' l' o' =>
     cases o' with
     | none => exact ih hm
     | some b =>
      obtain ⟨j', s2⟩ := b
      simp only [kz, List.mem_cons] at hm
      rcases hm with hm | hm
      ·cases hm
       simp only [meets, Option.isSome_some, Bool.true_and] at h1
       rcases km h1 with ⟨hb, _⟩ | ⟨_, hb⟩
       ·simp only [Bool.not_eq_false', qcl] at hb
        split at hb
        ·rename_i s3 hs3; exact ⟨s3, hs3⟩
        ·cases hb
       ·cases hb
      ·exact ih hm
    | _ => exact ih hm
  | _ => cases r <;> exact ih hm
theorem qnj : ∀ {ps rs : List (PV K)}, (kz ps rs).map (·.2) = qhb ps rs
 | [], rs => by cases rs <;> simp [kz, qhb]
 | p :: ps, [] => by cases p <;> simp [kz, qhb]
 | p :: ps, r :: rs => by
  have ih := qnj (ps := ps) (rs := rs)
  cases p with
  | list c l o =>
   cases o with
   | none => cases r <;> simp only [kz, qhb, ih]
   | some a =>
    cases r with
    | list c' l' o' =>
     cases o' with
     | none => simp only [kz, qhb, ih]
     | some b => simp only [kz, qhb, List.map_cons, ih]
    | _ => simp only [kz, qhb, ih]
  | _ => cases r <;> simp only [kz, qhb, ih]
theorem qni : ∀ {ps rs : List (PV K)}, ((kz ps rs).map (·.1)).Sublist (qa5 rs)
 | [], rs => by cases rs <;> simp [kz]
 | p :: ps, [] => by cases p <;> simp [kz]
 | p :: ps, r :: rs => by
  have ih := qni (ps := ps) (rs := rs)
  cases r with
  | list c' l' o' =>
   cases o' with
   | none => cases p with
    | list c l o => cases o <;> exact ih
    | _ => exact ih
   | some b =>
    cases p with
    | list c l o =>
     cases o with
     | none => exact ih.trans (List.sublist_cons_self _ _)
     | some a => exact ih.cons_cons _
    | _ => exact ih.trans (List.sublist_cons_self _ _)
  | _ => cases p with
   | list c l o => cases o <;> exact ih
   | _ => exact ih
theorem qpp : ∀ {l : List (Nat × Nat)} {j i : Nat}, (l.map (·.1)).Nodup → (j, i) ∈ l → look l j = some i
 | [], j, i, _, h => by cases h
 | (a, b) :: l, j, i, hn, h => by
  simp only [List.map_cons, List.nodup_cons] at hn
  simp only [look, cond_eq_ite, Nat.beq_eq]
  rcases List.mem_cons.1 h with h | h
  ·cases h
   rw [if_pos rfl]
  ·rw [if_neg]
   ·exact qpp hn.2 h
   ·intro he
    subst he
    exact hn.1 (List.mem_map.2 ⟨_, h, rfl⟩)
theorem qnd (ok2 : CfgOk2 X C) (R : RelH X sz C base st H w) {w' : Wd} (hg : w'.g = w.g) (hM' : ∀ nm x, w.g nm = some x → ¬ w.M nm → ¬ w'.M nm) (hce : w'.ce = w.ce) (ho : ∀ i, w'.owns i = some 0) : ∀ {ps rs : List (PV K)} {obs : List Prop} {vs : List V},
  qi9 (qu X tbl inv meas) st ps rs = some obs → (∀ q ∈ obs, q) → qp X sz w ps vs → (∀ r ∈ rs, RT r) → (∀ j i, (j, i) ∈ kz ps rs → w'.eta j = w.eta i) → (∀ j ∈ qa5 rs, j < w'.n) → qp X sz w' rs vs
 | [], [], obs, vs, h, hq, r, ht, he, hn => by rw [r.z5]; exact .nil
 | [], _ :: _, obs, vs, h, hq, r, ht, he, hn => by simp [qi9] at h
 | _ :: _, [], obs, vs, h, hq, r, ht, he, hn => by simp [qi9] at h
 | p :: ps, q :: rs, obs, vs, h, hq, r, ht, he, hn => by
  obtain ⟨v, vs', rfl, r1, r2⟩ := r.zt
  simp only [qi9] at h
  obtain ⟨x, h1, h2⟩ := Option.bind_eq_some_iff.1 h
  obtain ⟨y, h3, rfl⟩ := Option.map_eq_some_iff.1 h2
  have hsubP : ∀ j i, (j, i) ∈ kz ps rs → (j, i) ∈ kz (p :: ps) (q :: rs) := by
   intro j i hm
   cases p with
   | list c l o =>
    cases o with
    | none => cases q <;> exact hm
    | some a =>
     cases q with
     | list c' l' o' =>
      cases o' with
      | none => exact hm
      | some b => exact List.mem_cons_of_mem _ hm
     | _ => exact hm
   | _ => cases q <;> exact hm
  have hsubI : ∀ j ∈ qa5 rs, j ∈ qa5 (q :: rs) := by
   intro j hm
   cases q with
   | list c' l' o' =>
    cases o' with
    | none => exact hm
    | some b => exact List.mem_cons_of_mem _ hm
   | _ => exact hm
  have ih := qnd ok2 R hg hM' hce ho h3 (fun q hq' => hq q (List.mem_append_right _ hq')) r2 (fun r hr => ht r (List.mem_cons_of_mem _ hr)) (fun j i hm => he j i (hsubP j i hm)) (fun j hj => hn j (hsubI j hj))
  refine .cons ?_ ih
  have hx : ∀ a ∈ x, a := fun a ha => hq a (List.mem_append_left _ ha)
  have hT := ht q List.mem_cons_self
  cases q with
  | int k' l' b =>
   cases p with
   | int k l a =>
    simp only [meets] at h1
    split at h1
    ·rename_i hk
     subst hk
     cases h1
     have : a = b := hx _ List.mem_cons_self
     subst this
     cases r1
     have : l' = none := hT
     subst this
     exact .int fun m hm => by cases hm
    ·cases h1
   | _ => simp [meets] at h1
  | sb id neg b pt pf =>
   obtain ⟨t1, t2, t3⟩ : id = 0 ∧ (pt ↔ b = true) ∧ (pf ↔ b = false) := hT
   have : v = .bool b := by
    cases p with
    | lit a =>
     simp only [meets, Option.some.injEq] at h1
     subst h1
     have : a = b := hx _ List.mem_cons_self
     subst this
     cases r1
     rfl
    | sb id' neg' a pt' pf' =>
     simp only [meets, Option.some.injEq] at h1
     subst h1
     have : a = b := hx _ List.mem_cons_self
     subst this
     cases r1
     rfl
    | _ => simp [meets] at h1
   subst this
   exact .sb t2 t3 fun h0 => absurd t1 h0
  | str b =>
   cases p with
   | str a =>
    simp only [meets, Option.some.injEq] at h1
    subst h1
    have : a = b := hx _ List.mem_cons_self
    subst this
    cases r1
    exact .str
   | _ => simp [meets] at h1
  | list c l o =>
   have hm : ∃ l', asL (qu X tbl inv meas) c p = some l' ∧ l' = l ∧ (o.isSome = true → qcl st p = true) := by
    have e : meets (qu X tbl inv meas) st p (.list c l o) = (bif o.isSome && !qcl st p then none else (asL (qu X tbl inv meas) c p).map fun l' => [(qu X tbl inv meas).eqL c l' l]) := by
     cases p <;> rfl
    rw [e] at h1
    rcases km h1 with ⟨hb, h4⟩ | ⟨_, hb⟩
    ·obtain ⟨l', hl, rfl⟩ := Option.map_eq_some_iff.1 h4
     refine ⟨l', hl, hx _ List.mem_cons_self, fun hs => ?_⟩
     rw [hs] at hb
     simpa using hb
    ·cases hb
   obtain ⟨l', hl, rfl, hown⟩ := hm
   have rl := qce r1 hl
   have rp := rl.plain ok2.plain hg hM' .list
   cases o with
   | none => exact rp
   | some b =>
    obtain ⟨j, s⟩ := b
    have hs0 : s = 0 := hT
    subst hs0
    have hown := hown rfl
    have hj : j < w'.n := hn j (by simp [qa5])
    have hcur : ∀ cur, w'.owns j = some cur → 0 ≤ cur := fun _ _ => Nat.zero_le _
    rcases ku rp with ⟨rfl, rfl⟩ | ⟨nm, gn, off, cap, cs, e, gen, floor, frz, ex, rfl, hg', hf, hM2, hlen, hz, hcap, hcell, _⟩
    ·exact .nlist ⟨hj, hcur, fun _ => trivial, fun _ => trivial⟩
    ·refine .list hg' hf hM2 rfl hlen hz hcap hcell ⟨hj, hcur, fun _ => ?_, fun h => by cases h⟩
     cases p with
     | list c2 l2 o2 =>
      cases o2 with
      | none => simp [qcl] at hown
      | some a =>
       obtain ⟨i, s2⟩ := a
       have hcl : c2 = c := by
        unfold asL at hl
        simp only at hl
        split at hl
        ·assumption
        ·cases hl
       subst hcl
       have hls : look st.owns i = some s2 := by
        simp only [qcl] at hown
        split at hown
        ·rename_i s3 hs3
         rw [hs3, Nat.eq_of_beq_eq_true hown]
        ·cases hown
       have hll : l2.length = l'.length := by
        unfold asL at hl
        simp only at hl
        split at hl
        ·cases hl; rfl
        ·cases hl
       have hclaim : qp9 w sz i c2 (.slice nm gn off l'.length (sz c2) cap) := by
        rcases ku r1 with ⟨_, hh⟩ | ⟨nm3, gn3, off3, cap3, cs3, e3, gen3, floor3, frz3, ex3, hh, _, _, _, _, _, _, _, ho3⟩
        ·cases hh
        ·rw [hh]; exact ho3.2.2.1 (by rw [R.owns]; exact hls)
       have heta : w'.eta j = w.eta i := he j i (by simp [kz])
       simp only [qp9] at hclaim ⊢
       rcases hclaim with hc | ⟨hc1, hc2, cs4, e4, floor4, frz4, ex4, hg4, hr4⟩
       ·exact .inl hc
       ·exact .inr ⟨hc1, by rw [heta]; exact hc2, cs4, e4, floor4, frz4, ex4, by rw [hg]; exact hg4, hr4.1, hr4.2.1, by rw [hce]; exact hr4.2.2⟩
     | nils => cases r1
     | _ => simp [qcl] at hown
  | _ => cases p <;> simp [meets] at h1
theorem q3h {ps : List (PV K)} {vs : List V} (r : qp X sz w ps vs) : qp X sz w (ps.flatMap P.cellsOf) (vs.flatMap V.cells) := by
 induction ps generalizing vs with
 | nil => rw [r.z5]; exact .nil
 | cons p ps ih =>
  obtain ⟨v, vs', rfl, r1, r2⟩ := r.zt
  exact r1.cells.append (ih r2)
theorem qmj {w' : Wd} {p r : PV K} {v : V} {cs : List (PV K)} {us : List V} (ha : qir p r = true) (rp : Rep X sz w p v) (h : qp X sz w' (r.cellsOf ++ cs) (v.cells ++ us)) : Rep X sz w' r v ∧ qp X sz w' cs us := by
 have sp : ∀ {a : List (PV K)} {b : List V}, a.length = b.length → qp X sz w' (a ++ cs) (b ++ us) → qp X sz w' a b ∧ qp X sz w' cs us := by
  intro a b hl hr
  have h1 := hr.take a.length
  have h2 := hr.drop a.length
  rw [List.take_left' rfl] at h1
  rw [List.drop_left' rfl] at h2
  rw [hl, List.take_left' rfl] at h1
  rw [hl, List.drop_left' rfl] at h2
  exact ⟨h1, h2⟩
 cases p with
 | agg a =>
  obtain ⟨vs, rfl, rl⟩ := rp.qdp
  cases r with
  | agg b =>
   simp only [qir] at ha
   have hl := Nat.eq_of_beq_eq_true ha
   obtain ⟨q1, q2⟩ := sp (a := b) (b := vs) (by rw [← hl, rl.1]) h
   exact ⟨.qqa q1, q2⟩
  | _ => simp [qir] at ha
 | tuple a => cases r <;> simp [qir] at ha
 | _ =>
  have hv := rp.cellsOf (by intro ps hh; cases hh)
  cases r with
  | agg b => simp [qir] at ha
  | tuple b => simp [qir] at ha
  | _ =>
   obtain ⟨q1, q2⟩ := sp (a := P.cellsOf _) (b := v.cells) (by rw [hv.2]; rfl) h
   rw [hv.2] at q1
   obtain ⟨u, us', he, e1, e2⟩ := qp.zt q1
   simp only [List.cons.injEq] at he
   obtain ⟨rfl, rfl⟩ := he
   exact ⟨e1, q2⟩
theorem qqy {w' : Wd} : ∀ {ps rs : List (PV K)} {vs : List V}, qlp ps rs = true → qp X sz w ps vs → qp X sz w' (rs.flatMap P.cellsOf) (vs.flatMap V.cells) → qp X sz w' rs vs
 | [], [], vs, _, r, _ => by rw [r.z5]; exact .nil
 | [], _ :: _, vs, h, _, _ => by simp [qlp] at h
 | _ :: _, [], vs, h, _, _ => by simp [qlp] at h
 | p :: ps, q :: rs, vs, h, r, h2 => by
  obtain ⟨v, vs', rfl, r1, r2⟩ := r.zt
  simp only [qlp, Bool.and_eq_true] at h
  rw [List.flatMap_cons, List.flatMap_cons] at h2
  obtain ⟨a1, a2⟩ := qmj h.1 r1 h2
  exact .cons a1 (qqy h.2 r2 a2)
theorem qua {p : PV K} (h : ∀ ps, p ≠ .tuple ps) : p.flat = p.cellsOf := by
 cases p with
 | tuple ps => exact absurd rfl (h ps)
 | _ => rfl
theorem q4h {w' : Wd} {p r : PV K} {v : V} (hs : q2i p r = true) (rp : Rep X sz w p v) (h : ∀ us, qp X sz w p.flat us → qp X sz w' r.flat us) : Rep X sz w' r v := by
 by_cases hp : ∃ ps, p = .tuple ps
 ·obtain ⟨ps, rfl⟩ := hp
  obtain ⟨vs, rfl, rl⟩ := rp.qe8
  by_cases hr : ∃ rs, r = .tuple rs
  ·obtain ⟨rs, rfl⟩ := hr
   have hs' : qlp ps rs = true := hs
   exact .tuple' (qqy hs' rl (h _ (q3h rl)))
  ·exfalso
   cases r with
   | tuple rs => exact hr ⟨rs, rfl⟩
   | _ => cases hs
 ·by_cases hr : ∃ rs, r = .tuple rs
  ·exfalso
   obtain ⟨rs, rfl⟩ := hr
   cases p with
   | tuple ps => exact hp ⟨ps, rfl⟩
   | _ => cases hs
  ·have hs' : qir p r = true := by
    cases p with
    | tuple ps => exact absurd ⟨ps, rfl⟩ hp
    | _ => cases r with
     | tuple rs => exact absurd ⟨rs, rfl⟩ hr
     | _ => exact hs
   have h1 := h v.cells (by rw [qua (fun ps he => hp ⟨ps, he⟩)]; exact rp.cells)
   rw [qua (fun rs he => hr ⟨rs, he⟩)] at h1
   exact (qmj (cs := []) (us := []) hs' rp (by simpa using h1)).1
theorem q3i (ok : CfgOk X sz C) (ok2 : CfgOk2 X C) (tok : qgv X sz C tbl) (hq : zn C) {depth f : Nat} {args : List (PV K)} {r : PV K} (hpl : ∀ p ∈ args, Plain p) (hT : ∀ p ∈ r.flat, RT p) (h : qb3 (qu X tbl inv meas) C depth f args r) : qcn X sz C f args r := by
 intro H M vs S ra
 unfold qb3 at h
 have hle1 : Le (wd0 H M C.codec) { wd0 H M C.codec with n := 1 } := Le.ext (w := wd0 H M C.codec) (m := 1) (nu' := fun _ => false) (Nat.zero_le _) (fun _ _ => rfl)
 have ra1 := ra.mono ok.len hle1
 obtain ⟨nu', g1, g2, g3⟩ := qc4 ok.len ra1 (Nat.le_refl 1)
 let w0 : Wd := { wd0 H M C.codec with n := (jc args 1).2, nu := nu' }
 have hle0 : Le (wd0 H M C.codec) w0 := Le.ext (w := wd0 H M C.codec) (Nat.zero_le _) (fun id hi => by have : id < 0 := hi; omega)
 have R0 : RelH X sz C H { tmps := .nil, n := 0, cells := [], owns := [], next := (jc args 1).2, known := [] } H w0 := by
  refine ⟨S.wf, S.ro, rfl, rfl, rfl, S.Mlt, rfl, g2, .refl H, fun _ hc => False.elim hc, fun _ _ hc => False.elim hc, fun id ps hl => (by cases hl), fun _ => rfl, fun i s hl => (by cases hl), fun i s nm hl => (by cases hl), fun i j s s' nm hl => (by cases hl), rfl, fun id b hl => (by cases hl), fun gn ps hg => ?_⟩
  obtain ⟨q0, vs', e', fl, fz, ex', q1, q2, q3⟩ := S.globs gn ps hg
  exact ⟨q0, vs', e', fl, fz, ex', q1, q2, q3.mono ok.len hle0⟩
 refine (qnx ok ok2 tok hq (qs8 ok ok2 tok hq depth) h R0 g3).mono fun v H' hA => ?_
 obtain ⟨p, st', w', hk, _, _, R, hle, rp⟩ := hA
 unfold ends at hk
 obtain ⟨hb, hk⟩ := cond_prop hk
 simp only [Bool.and_eq_true] at hb
 split at hk
 ·rename_i l hl
  obtain ⟨hobs, _⟩ := qmk hk
  let pairs := kz p.flat r.flat
  have hnd : (pairs.map (·.1)).Nodup := (qef hb.2).sublist qni
  have hnd2 : (pairs.map (·.2)).Nodup := by rw [qnj]; exact qef hb.1.2
  let w2 : Wd := { g := H'.get, M := fun n => if n < H.next then M n else w'.M n, c := fun _ => 0, nu := fun _ => false, n := ql1 (qa5 r.flat), owns := fun _ => some 0, eta := fun j => (look pairs j).bind w'.eta, ce := C.codec, cl := fun _ => False, nx := H'.next, b := H.next, lp := fun _ => none, fl := 0 }
  have heta : ∀ j i, (j, i) ∈ pairs → w2.eta j = w'.eta i := by
   intro j i hm
   show (look pairs j).bind w'.eta = _
   rw [qpp hnd hm]
   rfl
  have hinv : ∀ j nm, w2.eta j = some nm → ∃ i, (j, i) ∈ pairs ∧ w'.eta i = some nm := by
   intro j nm he
   obtain ⟨i, h1, h2⟩ := Option.bind_eq_some_iff.1 he
   exact ⟨i, qfr h1, h2⟩
  have hold := R.keeps
  refine ⟨w2, R.keeps, R.wf, rfl, fun n hn => ?_, fun n hn => ?_, rfl, rfl, fun _ => rfl, fun j nm he => ?_, fun j1 j2 nm e1 e2 => ?_, ?_⟩
  ·show (if n < H.next then M n else w'.M n) ↔ M n
   rw [if_pos hn]
  ·have hn' : (if n < H.next then M n else w'.M n) := hn
   split at hn'
   ·rename_i hlt; exact Nat.lt_of_lt_of_le hlt R.keeps.next
   ·exact R.Mlt n hn'
  ·obtain ⟨i, h1, h2⟩ := hinv j nm he
   obtain ⟨s, hs⟩ := qgi hl j i h1
   obtain ⟨b1, b2, b3⟩ := R.eta i s nm hs h2
   refine ⟨b1, b2, ?_⟩
   show ¬ (if nm < H.next then M nm else w'.M nm)
   rw [if_neg (by omega)]
   exact b3
  ·obtain ⟨i1, a1, b1⟩ := hinv j1 nm e1
   obtain ⟨i2, a2, b2⟩ := hinv j2 nm e2
   obtain ⟨s1, hs1⟩ := qgi hl j1 i1 a1
   obtain ⟨s2, hs2⟩ := qgi hl j2 i2 a2
   have := R.einj i1 i2 s1 s2 nm hs1 hs2 b1 b2
   subst this
   have key : ∀ (l : List (Nat × Nat)), (l.map (·.2)).Nodup → (j1, i1) ∈ l → (j2, i1) ∈ l → j1 = j2 := by
    intro l
    induction l with
    | nil => intro _ h; cases h
    | cons x l ih =>
     intro hn h1 h2
     simp only [List.map_cons, List.nodup_cons] at hn
     rcases List.mem_cons.1 h1 with h1 | h1 <;> rcases List.mem_cons.1 h2 with h2 | h2
     ·rw [← h1] at h2; cases h2; rfl
     ·exact absurd (List.mem_map.2 ⟨_, h2, by rw [← h1]⟩) hn.1
     ·exact absurd (List.mem_map.2 ⟨_, h1, by rw [← h2]⟩) hn.1
     ·exact ih hn.2 h1 h2
   exact key pairs hnd2 a1 a2
  ·refine q4h hb.1.1 rp fun us hus => ?_
   exact qnd ok2 R (w' := w2) R.g.symm (fun nm x _ hm => by
    show ¬ (if nm < H.next then M nm else w'.M nm)
    split
    ·rename_i hlt; exact fun h0 => hm (hle.Mu nm hlt h0)
    ·exact hm) R.ce.symm (fun _ => rfl) hl hobs hus hT heta (fun j hj => (qoi _ 0).2 j hj)
 ·exact absurd hk id
end
end Go.E3
/- E3: TOOLS for claims: tables by lists, list elements of a claim's own types. -/
namespace Go.E3
open Go Go.E2
variable {K : Nat → Type}
def qbu : List (Nat × Nat × Ann) → Nat → Nat → Option Ann
 | [], _, _ => none
 | (f, p, a) :: l, g, q => bif Nat.beq f g && Nat.beq p q then some a else qbu l g q
abbrev Ct (K : Nat → Type) := List Sh × (List (NV K) → Option (Prop × PV K))
def qax : List (Nat × Ct K) → Tbl K
 | [], _ => none
 | (f, c) :: l, g => bif Nat.beq f g then some c else qax l g
section
variable {X : Codecs K} {sz : Nat → Nat} {C : Cfg Int Bool (List UInt8) Prop (fun c => List (K c))}
def qfw (X : Codecs K) (sz : Nat → Nat) (C : Cfg Int Bool (List UInt8) Prop (fun c => List (K c))) (f : Nat) (c : Ct K) : Prop :=
 ∀ ns pre r, c.2 ns = some (pre, r) → pre → ∃ args, qjz c.1 ns = some args ∧ qcn X sz C f args r ∧ Form r
theorem z2 : qgv X sz C (qax []) := fun f shs res ns pre r h => by cases h
theorem zi {f : Nat} {c : Ct K} {l : List (Nat × Ct K)} (h : qfw X sz C f c) (hl : qgv X sz C (qax l)) : qgv X sz C (qax ((f, c) :: l)) := by
 intro g shs res ns pre r h1 h2 h3
 simp only [qax, cond_eq_ite, Nat.beq_eq] at h1
 split at h1
 ·rename_i hf
  subst hf
  cases h1
  exact h ns pre r h2 h3
 ·exact hl g shs res ns pre r h1 h2 h3
theorem CfgOk.ann (h : CfgOk X sz C) (a : Nat → Nat → Option Ann) : CfgOk X sz { C with ann := a } := ⟨h.len, h.pos, h.size, h.inj, h.one, h.u8, h.pack⟩
theorem CfgOk2.ann (h : CfgOk2 X C) (a : Nat → Nat → Option Ann) : CfgOk2 X { C with ann := a } := ⟨h.plain, h.ze⟩
theorem qcn.ann {f : Nat} {args : List (PV K)} {r : PV K} (h : qcn X sz C f args r) (a : Nat → Nat → Option Ann) : qcn X sz { C with ann := a } f args r := by
 intro H M vs S ra
 refine (h H M vs ⟨S.wf, S.ro, S.Mlt, S.globs⟩ ra).mono fun v H' hA => ?_
 obtain ⟨w', b⟩ := hA
 exact ⟨w', b.keeps, b.wf, b.g, b.M, b.Mlt, b.ce, b.n, b.owns, b.eta, b.einj, b.rep⟩
theorem qcn.zd4 {f : Nat} {args : List (PV K)} {r : PV K} {a : Nat → Nat → Option Ann} (h : qcn X sz { C with ann := a } f args r) : qcn X sz C f args r := by
 intro H M vs S ra
 refine (h H M vs ⟨S.wf, S.ro, S.Mlt, S.globs⟩ ra).mono fun v H' hA => ?_
 obtain ⟨w', b⟩ := hA
 exact ⟨w', b.keeps, b.wf, b.g, b.M, b.Mlt, b.ce, b.n, b.owns, b.eta, b.einj, b.rep⟩
theorem qcp (ok : CfgOk X sz C) (ok2 : CfgOk2 X C) {l : List (Nat × Ct K)} (tok : qgv X sz C (qax l)) (hq : zn C) {inv : Nat → List (NV K) → Prop} {meas : Nat → List (NV K) → Nat} {ann : List (Nat × Nat × Ann)} {depth f : Nat} {args : List (PV K)} {r : PV K} {VC : Prop}
  (hpl : ∀ p ∈ args, Plain p) (hT : ∀ p ∈ r.flat, RT p) (hvc : qb3 (qu X (qax l) inv meas) { C with ann := qbu ann } depth f args r = VC) (h : VC) : qcn X sz C f args r :=
 q3i (C := { C with ann := qbu ann }) (tbl := qax l) (inv := inv) (meas := meas) (ok.ann _) (ok2.ann _) (fun f shs res ns pre r h1 h2 h3 => by
  obtain ⟨as, e1, e2, e3⟩ := tok f shs res ns pre r h1 h2 h3
  exact ⟨as, e1, e2.ann _, e3⟩) hq hpl hT (hvc.symm ▸ h) |>.zd4
def qwg : PV K → Bool
 | .int .. | .lit _ | .str _ | .nils | .nilp | .nilf | .nili => true
 | .sb 0 _ _ _ _ => true
 | .list _ _ none => true
 | .func _ [] [] => true
 | _ => false
def q0k : PV K → Bool
 | .agg ps => ps.all qwg
 | p => qwg p
theorem quz {p : PV K} (h : qwg p = true) : Plain p := by
 unfold qwg at h
 split at h <;> first | (cases h; done) | constructor
theorem q4a {p : PV K} (h : q0k p = true) : Plain p := by
 unfold q0k at h
 split at h
 ·exact .agg fun p hp => quz (List.all_eq_true.1 h p hp)
 ·exact quz h
theorem zk {ps : List (PV K)} (h : ps.all q0k = true) : ∀ p ∈ ps, Plain p := fun p hp => q4a (List.all_eq_true.1 h p hp)
def qql : PV K → Bool
 | .int .. | .lit _ | .str _ => true
 | .sb 0 _ _ _ _ => true
 | .list _ _ none => true
 | .list _ _ (some (_, 0)) => true
 | _ => false
def qvw : PV K → Bool
 | .agg ps => ps.all qql
 | p => qql p
def zbg : PV K → Bool
 | .tuple l => l.all qvw
 | p => qvw p
theorem qsx {p : PV K} (h : qql p = true) : Simple p := by
 unfold qql at h
 split at h <;> first | (cases h; done) | constructor
theorem qug {p : PV K} (h : qvw p = true) : Form1 p := by
 unfold qvw at h
 split at h
 ·exact .agg fun p hp => qsx (List.all_eq_true.1 h p hp)
 ·exact .one (qsx h)
theorem kj {p : PV K} (h : zbg p = true) : Form p := by
 unfold zbg at h
 split at h
 ·exact .tuple fun p hp => qug (List.all_eq_true.1 h p hp)
 ·exact .one (qug h)
def qh3 (k : IntKind) : PV K → Option Int
 | .int k' _ n => if k = k' then some n else none
 | _ => none
def qx4 : PV K → Option Bool
 | .lit b => some b
 | .sb _ _ b _ _ => some b
 | _ => none
def q9x (c : Nat) : PV K → Option (List (K c))
 | .nils => some []
 | .list c' l _ => if h : c' = c then some (h ▸ l) else none
 | _ => none
variable {w : Wd}
theorem jl {k : IntKind} {p : PV K} {n : Int} {v : V} (h : qh3 k p = some n) (r : Rep X sz w p v) : Rep X sz w (.int k none n) v := by
 unfold qh3 at h
 split at h
 ·split at h
  ·rename_i hk; subst hk; cases h; cases r; exact .int fun m hm => by cases hm
  ·cases h
 ·cases h
theorem qif {p : PV K} {b : Bool} {v : V} (h : qx4 p = some b) (r : Rep X sz w p v) : Rep X sz w (.sb 0 false b (b = true) (b = false)) v := by
 unfold qx4 at h
 split at h
 ·cases h; cases r; exact .sb .rfl .rfl fun h0 => absurd rfl h0
 ·cases h; cases r; exact .sb .rfl .rfl fun h0 => absurd rfl h0
 ·cases h
theorem q6d (tbl : Tbl K) (inv : Nat → List (NV K) → Prop) (meas : Nat → List (NV K) → Nat) {c : Nat} {p : PV K} {l : List (K c)} {v : V} (h : q9x c p = some l) (r : Rep X sz w p v) : Rep X sz w (.list c l none) v := by
 have : asL (qu X tbl inv meas) c p = some l := by
  cases p <;> exact h
 exact qce r this
theorem quh {c : Nat} {p : PV K} {l : List (K c)} {v : V} (h : q9x c p = some l) (r : Rep X sz w p v) : Rep X sz w (.list c l none) v := q6d (fun _ => none) (fun _ _ => True) (fun _ _ => 0) h r
theorem zz {p q : PV K} {ps qs : List (PV K)} {vs : List V} (h : ∀ v, Rep X sz w p v → Rep X sz w q v) (hl : ∀ us, qp X sz w ps us → qp X sz w qs us) (r : qp X sz w (p :: ps) vs) : qp X sz w (q :: qs) vs := by
 obtain ⟨v, vs', rfl, r1, r2⟩ := r.zt
 exact .cons (h v r1) (hl vs' r2)
end
end Go.E3
/- E3: FUNCTIONS WITHOUT A BODY as contracts. -/
namespace Go.E3
open Go Go.E2
variable {K : Nat → Type}
section
variable {X : Codecs K} {sz : Nat → Nat} {C : Cfg Int Bool (List UInt8) Prop (fun c => List (K c))}
theorem q59 (ok2 : CfgOk2 X C) {f : Nat} {r : PV K} {v : V} (hp : Plain r) (hr : qa5 r.flat = []) (h : ∀ H, H.ze = C.ng → (∀ gn o, C.gobj gn = some o → H.get gn = some o ∧ gn < H.next) → qck C.E (.func f) [] H fun u H' => u = v ∧ H' = H) (hv : ∀ H M, Rep X sz (wd0 H M C.codec) r v) : qcn X sz C f [] r := by
 intro H M vs S ra
 have := ra.z5; subst this
 refine (h H S.ro.2.1 S.ro.2.2).mono fun u H' hA => ?_
 obtain ⟨rfl, rfl⟩ := hA
 let w' : Wd := { wd0 H' M C.codec with owns := fun _ => some 0 }
 have rv' : Rep X sz w' r u := Rep.plain (w := wd0 H' M C.codec) (w' := w') ok2.plain rfl (fun _ _ _ h => h) (hv H' M) hp
 refine ⟨w', ?_⟩
 refine ⟨.refl H', S.wf, rfl, fun n _ => .rfl, S.Mlt, rfl, ?_, fun _ => rfl, fun i nm he => (by cases he), fun i j nm he => (by cases he), rv'⟩
 rw [hr]
 rfl
end
end Go.E3
/- E3: ARGUMENTS THAT LIE IN MEMORY: slices whose elements are numbers, conditions, texts, structs of such. -/
namespace Go.E3
open Go Go.E2
variable {K : Nat → Type}
def qf6 : Value → V
 | .int k n => .int k n
 | .bool b => .bool b
 | .string s => .str s.data.toList
 | _ => .tuple [.map 0]
theorem q5k (G : qf) (W : World) (x : Value) : isHole (qf6 x) = true ∨ Go.E2.Rel G W (qf6 x) x := by
 cases x with
 | int k n => right; simp [qf6, Go.E2.Rel]
 | bool b => right; simp [qf6, Go.E2.Rel]
 | string s => right; simp [qf6, Go.E2.Rel]
 | _ => exact .inl rfl
theorem qyx (G : qf) (W : World) : ∀ l : List Value, z4 G W (l.map qf6) l
 | [] => by simp [z4]
 | x :: l => by
  simp only [List.map_cons, z4]
  exact ⟨x, l, rfl, q5k G W x, qyx G W l⟩
def zag (W : World) (b : Nat) : Option (Nat × O) :=
 match W.heap[b]? with
 | some (.cells arr e fz) => some (b, .row (arr.toList.map qf6) e 0 0 fz.2 false)
 | _ => none
def q64 (W : World) : List (Nat × O) := (List.range W.heap.size).filterMap (zag W)
theorem q32 {W : World} {b : Nat} {x : Nat × O} (h : zag W b = some x) : ∃ arr e fz, W.heap[b]? = some (.cells arr e fz) ∧ x = (b, .row (arr.toList.map qf6) e 0 0 fz.2 false) := by
 unfold zag at h
 split at h
 ·rename_i arr e fz hb
  exact ⟨arr, e, fz, hb, (Option.some.inj h).symm⟩
 ·cases h
theorem qur {W : World} {b : Nat} {o : O} (h : (b, o) ∈ q64 W) : ∃ arr e fz, W.heap[b]? = some (.cells arr e fz) ∧ o = .row (arr.toList.map qf6) e 0 0 fz.2 false := by
 obtain ⟨b', _, h2⟩ := List.mem_filterMap.1 h
 obtain ⟨arr, e, fz, h3, h4⟩ := q32 h2
 cases h4
 exact ⟨arr, e, fz, h3, rfl⟩
def qd2 (W : World) (ng : Nat) : Heap := { qap := qdk (q64 W), next := W.heap.size, ro := W.heap.size, ze := ng }
theorem qog {W : World} {ng b : Nat} {arr : Array Value} {e : TypeId} {fz : Nat × Nat} (h : W.heap[b]? = some (.cells arr e fz)) : (qd2 W ng).get b = some (.row (arr.toList.map qf6) e 0 0 fz.2 false) := by
 have hm : (b, O.row (arr.toList.map qf6) e 0 0 fz.2 false) ∈ q64 W := by
  refine List.mem_filterMap.2 ⟨b, List.mem_range.2 (qg9 h), ?_⟩
  unfold zag
  rw [h]
 obtain ⟨o, ho⟩ := qj6 hm
 obtain ⟨arr', e', fz', h', rfl⟩ := qur (qba _ _ _ ho)
 rw [h] at h'
 cases h'
 exact ho
theorem qlz {W : World} {ng b : Nat} {o : O} (h : (qd2 W ng).get b = some o) : ∃ arr e fz, W.heap[b]? = some (.cells arr e fz) ∧ o = .row (arr.toList.map qf6) e 0 0 fz.2 false :=
 qur (qba _ _ _ h)
def qfz (W : World) : qf := fun nm g => if g = 0 then (match W.heap[nm]? with
 | some (.cells arr _ _) => some (nm, 0, arr.size)
 | _ => none) else none
theorem qcs {W : World} {nm g : Nat} {x : Nat × Nat × Nat} (h : qfz W nm g = some x) : g = 0 ∧ ∃ arr e fz, W.heap[nm]? = some (.cells arr e fz) ∧ x = (nm, 0, arr.size) := by
 unfold qfz at h
 split at h
 ·rename_i hg
  split at h
  ·rename_i arr e fz hb
   exact ⟨hg, arr, e, fz, hb, (Option.some.inj h).symm⟩
  ·cases h
 ·cases h
theorem qof {W : World} {b : Nat} {arr : Array Value} {e : TypeId} {fz : Nat × Nat} (h : W.heap[b]? = some (.cells arr e fz)) : qfz W b 0 = some (b, 0, arr.size) := by
 unfold qfz
 rw [if_pos rfl, h]
theorem zex {W : World} {ng : Nat} (hng : ng ≤ W.heap.size) : Sim (qd2 W ng) (qfz W) W := by
 refine ⟨fun nm g b sh n h => ?_, fun nm g b sh n nm' g' sh' n' h h' => ?_, fun nm o _ ho => ?_, Nat.le_refl _, hng, fun g o _ ho => ?_⟩
 ·obtain ⟨_, arr, e, fz, hb, hx⟩ := qcs h
  cases hx
  exact ⟨qg9 hb, qg9 hb⟩
 ·obtain ⟨_, _, _, _, _, hx⟩ := qcs h
  obtain ⟨_, _, _, _, _, hx'⟩ := qcs h'
  cases hx
  cases hx'
  exact ⟨rfl, rfl⟩
 ·obtain ⟨arr, e, fz, hb, rfl⟩ := qlz ho
  refine ⟨Nat.le_refl _, fun h => (by cases h), fun g b sh n hg => ?_⟩
  obtain ⟨rfl, arr', e', fz', hb', hx⟩ := qcs hg
  rw [hb] at hb'
  cases hb'
  cases hx
  refine ⟨Nat.le_refl _, Nat.zero_le _, by simp, fun _ => by simp, fun h => (by cases h), fun _ => ⟨arr, fz, hb, by simp, ?_, fun _ i h1 h2 => by omega, fun h => (by cases h)⟩⟩
  rw [List.drop_zero, Nat.sub_zero, List.take_of_length_le (by simp), List.take_of_length_le (by simp)]
  exact qyx _ _ _
 ·obtain ⟨arr, e, fz, hb, _⟩ := qlz ho
  exact ⟨_, qof hb⟩
theorem q3g {W w' : World} {G' : qf} (h : Ext W.heap.size (qfz W) W G' w') : ∀ b, b < W.heap.size → w'.heap[b]? = W.heap[b]? := by
 intro b hb
 cases hc : qfz W b 0 with
 | some x =>
  obtain ⟨_, arr, e, fz, _, rfl⟩ := qcs hc
  exact h.ro b 0 b 0 _ hb hc
 | none =>
  refine (h.frg b hb fun nm g sh n hg => ?_).1
  obtain ⟨rfl, arr, e, fz, hb', hx⟩ := qcs hg
  cases hx
  rw [qof hb'] at hc
  cases hc
inductive Leaf4 where
 | int (k : IntKind)
 | bool
 | str
 | list (c : Nat)
def Leaf4.flat : Leaf4 → Bool
 | .list _ => false
 | _ => true
def qs2 (P : Program) (g : TypeId → Option (List Leaf4)) : List Field → Nat → Option (List Leaf4)
 | [], _ => some []
 | f :: fs, off => (g f.type).bind fun l => bif Nat.beq f.offset off && Nat.beq l.length (P.cellsOf f.type) then (qs2 P g fs (off + l.length)).map fun r => l ++ r else none
def qza (P : Program) (cd : TypeId → Option Nat) : Nat → TypeId → Option (List Leaf4)
 | 0, _ => none
 | d + 1, t => match P.underlying t with
  | some (.int k) => some [.int k]
  | some .bool => some [.bool]
  | some .string => some [.str]
  | some (.slice e) => (cd e).map fun c => [.list c]
  | some (.struct fs) => (qs2 P (qza P cd d) fs.toList 0).bind fun l => bif Nat.beq l.length (P.cellsOf t) then some l else none
  | _ => none
section
variable {Hd : Type} {enc : TypeId × Value → Hd} {P : Program} {W : World} {cd : TypeId → Option Nat}
def qeb (enc : TypeId × Value → Hd) (P : Program) (W : World) (cd : TypeId → Option Nat) : Leaf4 → Value → Prop
 | .int k, x => ∃ n, x = .int k n ∧ (Lit.int k n).wf = true
 | .bool, x => ∃ b, x = .bool b
 | .str, x => ∃ s, x = .string s ∧ s.size ≤ maxLen
 | .list c, x => x = .slice none 0 0 ∨ ∃ e a len cap, cd e = some c ∧ x = .slice (some a) len cap ∧ len ≤ cap ∧ cap ≤ maxLen ∧
   ∀ i, i < cap → ∃ cs m r, W.cells? 0 (a.add (i * P.cellsOf e)) (P.cellsOf e) = some cs ∧ DataW.trod enc P W 0 (fun _ => true) true m e cs = some r
theorem qp6 {Q : Leaf4 → Value → Prop} {cs : List Value} {g : TypeId → Option (List Leaf4)} : ∀ {fs : List Field} {off : Nat} {ls : List Leaf4}, qs2 P g fs off = some ls →
  (∀ f ∈ fs, ∀ l, g f.type = some l → l.length = P.cellsOf f.type → ∀ (i : Nat) leaf x, l[i]? = some leaf → ((cs.drop f.offset).take (P.cellsOf f.type))[i]? = some x → Q leaf x) →
  ∀ (i : Nat) leaf x, ls[i]? = some leaf → cs[off + i]? = some x → Q leaf x
 | [], off, ls, h, _, i, leaf, x, hl, _ => by
  simp only [qs2, Option.some.injEq] at h
  subst h
  simp at hl
 | f :: fs, off, ls, h, hR, i, leaf, x, hl, hx => by
  simp only [qs2] at h
  obtain ⟨l, h1, h2⟩ := Option.bind_eq_some_iff.1 h
  rcases km h2 with ⟨_, h3⟩ | ⟨h3, h4⟩
  ·cases h3
  ·simp only [Bool.and_eq_true, Nat.beq_eq] at h3
   obtain ⟨rfl, hlen⟩ := h3
   obtain ⟨r, h5, rfl⟩ := Option.map_eq_some_iff.1 h4
   by_cases hi : i < l.length
   ·rw [List.getElem?_append_left hi] at hl
    refine hR f List.mem_cons_self l h1 hlen i leaf x hl ?_
    rw [List.getElem?_take_of_lt (by omega), List.getElem?_drop]
    exact hx
   ·rw [List.getElem?_append_right (by omega)] at hl
    refine qp6 h5 (fun f' hf' => hR f' (List.mem_cons_of_mem _ hf')) (i - l.length) leaf x hl ?_
    rw [show f.offset + l.length + (i - l.length) = f.offset + i by omega]
    exact hx
theorem qo0 : ∀ (d : Nat) {n : Nat} {t : TypeId} {cs : List Value} {r : DataW Hd × List MemPlace} {ls : List Leaf4}, DataW.trod enc P W 0 (fun _ => true) true n t cs = some r → qza P cd d t = some ls →
  cs.length = ls.length ∧ ∀ (i : Nat) leaf x, ls[i]? = some leaf → cs[i]? = some x → qeb enc P W cd leaf x
 | 0, n, t, cs, r, ls, h, ht => by cases ht
 | d + 1, n, t, cs, r, ls, h, ht => by
  have one : ∀ {leaf : Leaf4} {x : Value}, qeb enc P W cd leaf x → [x].length = [leaf].length ∧ ∀ (i : Nat) l y, [leaf][i]? = some l → [x][i]? = some y → qeb enc P W cd l y := by
   intro leaf x hr
   refine ⟨rfl, fun i l y h1 h2 => ?_⟩
   cases i with
   | zero => simp only [List.getElem?_cons_zero, Option.some.injEq] at h1 h2; subst h1; subst h2; exact hr
   | succ i => simp at h1
  simp only [qza] at ht
  split at ht
  ·rename_i k hu
   cases ht
   obtain ⟨m, rfl, _, hw⟩ := DataW.trod_int hu h
   exact one ⟨m, rfl, hw⟩
  ·rename_i hu
   cases ht
   obtain ⟨b, rfl, _⟩ := DataW.trod_bool hu h
   exact one ⟨b, rfl⟩
  ·rename_i hu
   cases ht
   obtain ⟨s, rfl, _, hs⟩ := DataW.trod_string hu h
   exact one ⟨s, rfl, hs⟩
  ·rename_i e hu
   obtain ⟨c, hc, rfl⟩ := Option.map_eq_some_iff.1 ht
   rcases DataW.trod_slice hu h with ⟨rfl, _⟩ | ⟨a, len, cap, elems, rest, m, _, rfl, _, _, hl, hm, hel, he1, he2, _⟩
   ·exact one (.inl rfl)
   ·refine one (.inr ⟨e, a, len, cap, hc, rfl, hl, hm, fun i hi => ?_⟩)
    obtain ⟨hr1, hr2⟩ := he2 rfl
    by_cases hil : i < len
    ·have := he1 i hil
     rw [List.getElem?_eq_getElem (by omega)] at this
     obtain ⟨cs', h1, h2⟩ := Option.bind_eq_some_iff.1 this
     exact ⟨cs', m, _, h1, h2⟩
    ·have := hr2 (i - len) (by omega)
     rw [List.getElem?_eq_getElem (by omega), show len + (i - len) = i by omega] at this
     obtain ⟨cs', h1, h2⟩ := Option.bind_eq_some_iff.1 this
     exact ⟨cs', m, _, h1, h2⟩
  ·rename_i fs hu
   obtain ⟨l, h1, h2⟩ := Option.bind_eq_some_iff.1 ht
   rcases km h2 with ⟨_, h3⟩ | ⟨h3, h4⟩
   ·cases h3
   ·cases h4
    have hlen := Nat.eq_of_beq_eq_true h3
    obtain ⟨xs, m, _, _, hl, hxs, hf⟩ := DataW.trod_struct hu h
    refine ⟨by omega, fun i leaf x hi hx => ?_⟩
    refine qp6 (Q := qeb enc P W cd) (off := 0) h1 (fun f hfm l' hg hgl j lf y hj hy => ?_) i leaf x hi (by simpa using hx)
    obtain ⟨q, hq, rfl⟩ := List.mem_iff_getElem.1 hfm
    have h5 := hf q fs.toList[q] (by simp at hq ⊢)
    rw [List.getElem?_eq_getElem (by simp at hq; omega)] at h5
    exact (qo0 d h5 hg).2 j lf y hj hy
  ·cases ht
def qwy (qig : ∀ c, K c → Prop) : Leaf4 → PV K → Prop
 | .int k, p => ∃ n, p = .int k none n ∧ k.min ≤ n ∧ n ≤ k.max
 | .bool, p => ∃ b, p = .sb 0 false b (b = true) (b = false)
 | .str, p => ∃ s : List UInt8, p = .str s ∧ s.length ≤ maxLen
 | .list c, p => ∃ l : List (K c), p = .list c l none ∧ l.length ≤ maxLen ∧ ∀ x ∈ l, qig c x
def qvg (qig : ∀ c, K c → Prop) : List Leaf4 → List (PV K) → Prop
 | [], ps => ps = []
 | l :: ls, ps => ∃ p qs, ps = p :: qs ∧ qwy qig l p ∧ qvg qig ls qs
variable {qig : ∀ c, K c → Prop}
variable {X : Codecs K} {sz : Nat → Nat} {w : Wd}
theorem qul {leaf : Leaf4} {x : Value} (hf : leaf.flat = true) (h : qeb enc P W cd leaf x) : ∃ p : PV K, qwy qig leaf p ∧ Rep X sz w p (qf6 x) := by
 cases leaf with
 | int k =>
  obtain ⟨n, rfl, hw⟩ := h
  simp only [Lit.wf, Bool.and_eq_true, decide_eq_true_eq] at hw
  exact ⟨_, ⟨n, rfl, hw⟩, .int fun m hm => by cases hm⟩
 | bool =>
  obtain ⟨b, rfl⟩ := h
  exact ⟨_, ⟨b, rfl⟩, .sb .rfl .rfl fun h0 => absurd rfl h0⟩
 | str =>
  obtain ⟨s, rfl, hs⟩ := h
  exact ⟨_, ⟨s.data.toList, rfl, by simpa using hs⟩, .str⟩
 | list c => cases hf
theorem qpn : ∀ {ls : List Leaf4} {cs : List Value}, ls.all Leaf4.flat = true → cs.length = ls.length → (∀ (i : Nat) leaf x, ls[i]? = some leaf → cs[i]? = some x → qeb enc P W cd leaf x) →
  ∃ ps : List (PV K), qvg qig ls ps ∧ qp X sz w ps (cs.map qf6)
 | [], [], _, _, _ => ⟨[], rfl, .nil⟩
 | [], _ :: _, _, h, _ => by simp at h
 | _ :: _, [], _, h, _ => by simp at h
 | l :: ls, x :: cs, hf, hl, hr => by
  simp only [List.all_cons, Bool.and_eq_true] at hf
  obtain ⟨p, h1, h2⟩ := qul (X := X) (sz := sz) (w := w) hf.1 (hr 0 l x rfl rfl)
  obtain ⟨ps, h3, h4⟩ := qpn (cs := cs) hf.2 (by simpa using hl) fun i leaf y h5 h6 => hr (i + 1) leaf y (by simpa using h5) (by simpa using h6)
  exact ⟨p :: ps, ⟨p, ps, rfl, h1, h3⟩, .cons h2 h4⟩
theorem qpo {α : Type} {Q : Nat → α → Prop} : ∀ {n : Nat}, (∀ i, i < n → ∃ x, Q i x) → ∃ l : List α, l.length = n ∧ ∀ (i : Nat) (h : i < l.length), Q i (l[i]'h)
 | 0, _ => ⟨[], rfl, fun i h => by simp at h⟩
 | n + 1, h => by
  obtain ⟨l, h1, h2⟩ := qpo (n := n) fun i hi => h i (by omega)
  obtain ⟨x, hx⟩ := h n (by omega)
  refine ⟨l ++ [x], by simp [h1], fun i hi => ?_⟩
  by_cases hin : i < l.length
  ·rw [List.getElem_append_left hin]; exact h2 i hin
  ·have : i = n := by simp at hi; omega
   subst this
   rw [List.getElem_append_right (by omega)]
   simpa [h1] using hx
theorem q4f {f : TypeId → Bool} : ∀ {d : Nat} {e : TypeId} {count off n : Nat}, rowAt P f d e count off n = true → off ≤ count * P.cellsOf e
 | 0, _, _, _, _, h => by simp [rowAt] at h
 | d + 1, e, count, off, n, h => by
  unfold rowAt at h
  by_cases hs : P.cellsOf e = 0
  ·simp [hs] at h
  ·simp only [hs, if_false, Bool.or_eq_true, Bool.and_eq_true, beq_iff_eq, decide_eq_true_eq] at h
   have hd := Nat.div_add_mod off (P.cellsOf e)
   have hm := Nat.mod_lt off (Nat.pos_of_ne_zero hs)
   rcases h with ⟨⟨h1, h2⟩, _⟩ | ⟨h1, _⟩
   ·have := Nat.mul_le_mul_right (P.cellsOf e) (show off / P.cellsOf e ≤ count by omega)
    rw [Nat.mul_comm] at hd
    omega
   ·have := Nat.mul_le_mul_right (P.cellsOf e) (show off / P.cellsOf e + 1 ≤ count by omega)
    rw [Nat.add_mul, Nat.one_mul] at this
    rw [Nat.mul_comm] at hd
    omega
theorem qr4 : ∀ {d : Nat} {e : TypeId} {count off : Nat} {u : TypeId} {n : Nat}, liesAt P d e count off u n = true → off ≤ count * P.cellsOf e
 | 0, _, _, _, _, _, h => by simp [liesAt] at h
 | d + 1, e, count, off, u, n, h => by
  unfold liesAt at h
  simp only [Bool.or_eq_true] at h
  rcases h with h | h
  ·exact q4f h
  ·split at h
   ·exact qr4 h
   ·cases h
theorem q72 {base : Nat} {u : TypeId} {a : Addr} {len cap : Nat} (h : Cell.okWide P W .any base u (.slice (some a) len cap)) :
  a.spot = none ∧ ∃ arr e fz, W.heap[a.block]? = some (.cells arr e fz) ∧ a.off ≤ arr.size := by
 have h' : Cell.ok P W .any base u (.slice (some a) len cap) := by
  unfold Cell.okWide at h
  split at h <;> first | exact h | (rename_i hx; cases hx)
 unfold Cell.ok at h'
 split at h' <;> try (first | exact h'.elim | (rename_i hx; cases hx; done))
 rename_i e a' len' cap' _ hx
 cases hx
 obtain ⟨_, _, _, h1, row, cells, h2, h3⟩ := h'
 refine ⟨h1, ?_⟩
 simp only [World.shape?] at h2
 split at h2
 ·rename_i arr el fz hb
  cases h2
  refine ⟨arr, _, fz, hb, Nat.le_trans (qr4 h3) ?_⟩
  exact Nat.div_mul_le_self _ _
 ·cases h2
structure ArgOk (qig : ∀ c, K c → Prop) (X : Codecs K) (sz : Nat → Nat) (P : Program) (cd : TypeId → Option Nat) (depth : Nat) : Prop where
 elem : ∀ e c, cd e = some c → ∃ ls, qza P cd depth e = some ls ∧ ls.all Leaf4.flat = true ∧ ls.length = sz c ∧ P.cellsOf e = sz c ∧ 0 < sz c ∧ ∀ ps : List (PV K), qvg qig ls ps → ∃ pre x, X.pack c ps = some (pre, x) ∧ pre ∧ qig c x
theorem q3u {C : Cfg Int Bool (List UInt8) Prop (fun c => List (K c))} (ok : CfgOk X sz C) {depth ng : Nat} (ao : ArgOk qig X sz P cd depth) {base : Nat} {u : TypeId} {c : Nat} {x : Value} {M : Nat → Prop} (hM : ∀ n, ¬ M n) (hc : Cell.okWide P W .any base u x) (h : qeb enc P W cd (.list c) x) :
  ∃ (p : PV K) (v : V), qwy qig (.list c) p ∧ Rep X sz (wd0 (qd2 W ng) M C.codec) p v ∧ Go.E2.Rel (qfz W) W v x := by
 rcases h with rfl | ⟨e, a, len, cap, he, rfl, hl, hcap, hr⟩
 ·exact ⟨.list c [] none, .nils, ⟨[], rfl, Nat.zero_le _, fun x hx => by cases hx⟩, .nlist trivial, by simp [Go.E2.Rel]⟩
 ·obtain ⟨hsp, arr, el, fz, hb, hoff⟩ := q72 hc
  obtain ⟨b, off, spot⟩ := a
  simp only at hsp hb hoff
  subst hsp
  obtain ⟨ls, h1, h2, h3, h4, h5, h6⟩ := ao.elem e c he
  rw [h4] at hr
  have hcell : ∀ i, i < cap → ∃ cs : List Value, cs.length = sz c ∧ (∀ j, j < sz c → arr[off + i * sz c + j]? = cs[j]?) ∧ ∃ y : K c, qig c y ∧ qp X sz (wd0 (qd2 W ng) M C.codec) (X.cells c y) (cs.map qf6) := by
   intro i hi
   obtain ⟨cs, m, r, h7, h8⟩ := hr i hi
   obtain ⟨_, h9, h10⟩ := World.cells?_some h7
   obtain ⟨h11, h12⟩ := qo0 depth h8 h1
   obtain ⟨ps, h13, h14⟩ := qpn (X := X) (sz := sz) (w := wd0 (qd2 W ng) M C.codec) h2 h11 h12
   obtain ⟨pre, y, h15, h16, h17⟩ := h6 ps h13
   refine ⟨cs, h9, fun j hj => ?_, y, h17, ok.pack c ps pre y h15 h16 _ _ h14⟩
   have hadd : ((⟨b, off, none⟩ : Addr).add (i * sz c)).add j = ⟨b, off + i * sz c + j, none⟩ := by
    unfold Addr.add
    by_cases h0 : i * sz c = 0
    ·rw [if_pos h0, h0]
     by_cases hj0 : j = 0
     ·rw [if_pos hj0, hj0]; simp
     ·rw [if_neg hj0]; simp
    ·rw [if_neg h0]
     by_cases hj0 : j = 0
     ·rw [if_pos hj0, hj0]; simp
     ·rw [if_neg hj0]
   have := h10 j hj
   rw [hadd] at this
   simp only [World.cell?, hb] at this
   simpa using this
  have hsz : off + cap * sz c ≤ arr.size := by
   cases cap with
   | zero => simpa using hoff
   | succ q =>
    obtain ⟨cs, g1, g2, _⟩ := hcell q (Nat.lt_succ_self q)
    have := g2 (sz c - 1) (by omega)
    rw [List.getElem?_eq_getElem (by omega)] at this
    have := (Array.getElem?_eq_some_iff.1 this).1
    rw [Nat.add_mul, Nat.one_mul]
    omega
  have hlm : len * sz c ≤ cap * sz c := Nat.mul_le_mul_right _ hl
  obtain ⟨l, g1, g2⟩ := qpo (Q := fun i (y : K c) => ∃ cs : List Value, cs.length = sz c ∧ (∀ j, j < sz c → arr[off + i * sz c + j]? = cs[j]?) ∧ qig c y ∧ qp X sz (wd0 (qd2 W ng) M C.codec) (X.cells c y) (cs.map qf6)) (n := len) fun i hi => by
   obtain ⟨cs, q1, q2, y, q4, q3⟩ := hcell i (by omega)
   exact ⟨y, cs, q1, q2, q4, q3⟩
  refine ⟨.list c l none, .slice b 0 off len (sz c) (some cap), ⟨l, rfl, by omega, fun y hy => ?_⟩, ?_, ?_⟩
  ·obtain ⟨i, hi, rfl⟩ := List.mem_iff_getElem.1 hy
   obtain ⟨cs, q1, q2, q4, q3⟩ := g2 i hi
   exact q4
  ·refine .list (qog hb) (Nat.le_refl _) (hM b) g1.symm (by simp; omega) h5 (fun k hk => by cases hk; exact hl) (fun i hi j p hp => ?_) trivial
   obtain ⟨cs, q1, q2, q4, q3⟩ := g2 i hi
   have hj : j < sz c := by rw [← ok.len c (l[i]'hi)]; exact (List.getElem?_eq_some_iff.1 hp).1
   have := q3.2 j p hp
   rw [List.getD_eq_getElem?_getD, List.getElem?_map] at this ⊢
   rw [Array.getElem?_toList, q2 j hj]
   exact this
  ·simp only [Go.E2.Rel]
   exact ⟨b, 0, arr.size, off, cap, el, arr.size, qof hb, rfl, hl, Nat.zero_le _, by omega, .inl rfl, fun k hk => by cases hk; exact ⟨rfl, hsz⟩, by simp only [World.shape?, hb], hsz⟩
theorem q58 {leaf : Leaf4} {x : Value} (hf : leaf.flat = true) (h : qeb enc P W cd leaf x) (G : qf) : Go.E2.Rel G W (qf6 x) x := by
 cases leaf with
 | int k => obtain ⟨n, rfl, _⟩ := h; simp [qf6, Go.E2.Rel]
 | bool => obtain ⟨b, rfl⟩ := h; simp [qf6, Go.E2.Rel]
 | str => obtain ⟨s, rfl, _⟩ := h; simp [qf6, Go.E2.Rel]
 | list c => cases hf
theorem q3s {C : Cfg Int Bool (List UInt8) Prop (fun c => List (K c))} (ok : CfgOk X sz C) {depth ng : Nat} (ao : ArgOk qig X sz P cd depth) {base : Nat} {u : TypeId} {leaf : Leaf4} {x : Value} {M : Nat → Prop} (hM : ∀ n, ¬ M n) (hc : Cell.okWide P W .any base u x) (h : qeb enc P W cd leaf x) :
  ∃ (p : PV K) (v : V), qwy qig leaf p ∧ Rep X sz (wd0 (qd2 W ng) M C.codec) p v ∧ Go.E2.Rel (qfz W) W v x := by
 cases hf : leaf.flat with
 | true =>
  obtain ⟨p, h1, h2⟩ := qul (X := X) (sz := sz) (w := wd0 (qd2 W ng) M C.codec) hf h
  exact ⟨p, qf6 x, h1, h2, q58 hf h _⟩
 | false =>
  cases leaf with
  | list c => exact q3u ok ao hM hc h
  | _ => cases hf
theorem qvj {C : Cfg Int Bool (List UInt8) Prop (fun c => List (K c))} (ok : CfgOk X sz C) {depth ng : Nat} (ao : ArgOk qig X sz P cd depth) {base : Nat} {M : Nat → Prop} (hM : ∀ n, ¬ M n) {t : TypeId} {v : Value} {d : DataW Hd} {ps : List MemPlace} {leaf : Leaf4}
  (ht : (match P.underlying t with | some (.struct _) | some (.array _ _) => false | _ => true) = true) (hl : qza P cd depth t = some [leaf]) (hv : Value.okWide P W .any base t v) (hd : DataW.Trod enc P W 0 (fun _ => true) true t v d ps) :
  ∃ (p : PV K) (u : V), qwy qig leaf p ∧ Rep X sz (wd0 (qd2 W ng) M C.codec) p u ∧ Go.E2.Rel (qfz W) W u v := by
 obtain ⟨n, hn⟩ := hd
 obtain ⟨h1, h2⟩ := qo0 depth hn hl
 have hcell : Cell.okWide P W .any base t v := by
  unfold Value.okWide at hv
  split at hv
  ·rename_i h; simp [h] at ht
  ·rename_i h; simp [h] at ht
  ·exact hv
 have hcs : v.cells.toList = [v] := by
  cases v with
  | agg cs =>
   exfalso
   unfold Cell.okWide at hcell
   split at hcell <;> first | (rename_i hx; cases hx; done) | skip
   unfold Cell.ok at hcell
   split at hcell <;> first | (rename_i hx; cases hx; done) | exact hcell
  | _ => rfl
 exact q3s ok ao hM hcell (h2 0 leaf v rfl (by rw [hcs]; rfl))
theorem q1x {p : MemPlace} (h : Go.Good W p) : p.block < W.heap.size := by
 cases p with
 | cell b off =>
  obtain ⟨v, hv, _⟩ := h
  simp only [World.cell?] at hv
  split at hv
  ·rename_i hb; exact qg9 hb
  ·cases hv
 | map b =>
  obtain ⟨es, clock, hb⟩ := h
  exact qg9 hb
theorem qme {w' : World} {t : TypeId} {v : Value} {d : DataW Hd} {ps : List MemPlace} (hlaid : laidOutB P = true) (hrec : P.readableRec t = true) (hrow : t < P.types.size) (h : DataW.Trod enc P W 0 (fun _ => true) true t v d ps) (hs : ∀ b, b < W.heap.size → w'.heap[b]? = W.heap[b]?)
  (sp : Nat → Bool) (hsp : ∀ b, b < W.heap.size → sp b = true) : DataW.Trod enc P w' 0 sp true t v d ps := by
 obtain ⟨n, hn⟩ := h
 have K := kids_book hlaid hrec
 have hgood := DataW.trod_good K (fun h => by cases h) n t _ _ ⟨hrow, book_self t⟩ hn
 refine ⟨n, DataW.trod_stays K (book_sized hrec) (fun h => by cases h) ⟨hrow, book_self t⟩ hn (fun p hp => ?_) (fun p hp => hsp _ ?_)⟩
 ·have hlt : p.block < W.heap.size := q1x (hgood p hp)
  cases p with
  | cell b off => simp only [World.sameAt, World.cell?, hs b hlt]
  | map b => exact hs b hlt
 ·exact q1x (hgood p hp)
end
end Go.E3
/- E3: (*strings.Builder).String, BY ITS TEXT: a check of the body, and what the body does. -/
namespace Go.E3
open Go Go.E2
section
variable {E : Env} {fn : FuncId} {round : Option Nat} {all : Array Oper} {b : Array Nat} {i : Nat} {l : List Oper} {done : List Done} {o : Oper} {fr : Fr} {H : Heap} {Q : Ex → Fr → Heap → Prop} {B : Nat}
end
section
variable {E : Env} {F tB tS tQ tI tU : Nat}
end
theorem qtm {P : Program} {Hd : Type} {enc : TypeId × Value → Hd} {g : Func} {s : Go.ChangeSpec} {apart fresh handsOn : Bool} {W w' : World} {args : Array Value} {ds gs : List (DataW Hd)} {before : List MemPlace} {t : TypeId}
  (hW : DataW.Whole enc P g.params.toList s.vars apart W args.toList ds gs before) (hv : s.vars = []) (ht : g.resultTypes = #[t]) (hu : P.underlying t = some .bool)
  (hfn : s.fn Hd ds = { results := [.lit (.bool true)], args := ds }) (hargs : ∃ pa, DataW.TrodAll enc P w' 0 (fun b => decide (b < W.heap.size)) true g.params.toList args.toList ds pa) (hk : ∀ may, W.keptBut w' may) :
  s.post enc P g apart fresh handsOn false W args (.bool true) w' := by
 have hW' := hW
 obtain ⟨p, q, hA, hV, rfl, _, _⟩ := hW
 rw [hv] at hV
 obtain ⟨rfl, rfl⟩ := Go.ChangeShapes.trodVars_none hV
 obtain ⟨pa, hpa⟩ := hargs
 refine ⟨ds, [], p ++ [], [], pa, [], hW', ?_, ?_, ?_, hk _, fun h => by cases h⟩
 ·rw [ht, List.append_nil, hfn]
  exact Go.ChangeShapes.trodAll_mk1 (Go.RowKit.shut_bool hu true)
 ·rw [List.append_nil, hfn]
  exact hpa
 ·rw [hv, List.append_nil, hfn]
  rfl
end Go.E3
/- E3: A CLOSED CALL that looks at listed variables, as a contract. -/
namespace Go.E2
open Go
def Fact.qrd (F : Fact) : Bool :=
 F.args.isEmpty && (F.pre.all fun x => match assoc (F.pre.map fun x => (x.1, x.1)) x.1, qwj (assoc (F.pre.map fun x => (x.1, x.1))) x.2 with
  | some k, some o => Nat.beq k x.1 && qxq o x.2
  | _, _ => false) && qki (F.pre.map fun x => (x.1, x.1)) && (F.pre.all fun x => Nat.blt x.1 F.next) && Nat.beq F.ro F.next && qiy F.ret ((qeq (fun _ => none) F.ret).getD (.tuple [.nilp]))
theorem zax {F : Fact} {H : Heap} (hc : F.qrd = true) (hg : H.ze = F.ze) (ho : ∀ x ∈ F.pre, H.get x.1 = some x.2 ∧ x.1 < H.next) : F.qzc [] H = some (.ret F.ret, H) := by
 simp only [Fact.qrd, Bool.and_eq_true] at hc
 obtain ⟨⟨⟨⟨⟨c1, c2⟩, c3⟩, c4⟩, c5⟩, c6⟩ := hc
 have ha : F.args = [] := List.isEmpty_iff.1 c1
 have hfit : F.fits (F.pre.map fun x => (x.1, x.1)) [] H = true := by
  simp only [Fact.fits, Bool.and_eq_true]
  refine ⟨⟨⟨⟨?_, ?_⟩, ?_⟩, c3⟩, ?_⟩
  ·rw [ha]; rfl
  ·rw [hg]; exact Nat.beq_refl _
  ·unfold qv1
   rw [List.all_eq_true]
   intro x hx
   have := List.all_eq_true.1 c2 x hx
   split at this
   ·rename_i k o h1 h2
    simp only [Bool.and_eq_true] at this
    have hk := Nat.eq_of_beq_eq_true this.1
    subst hk
    simp only [h1, h2, (ho x hx).1]
    exact this.2
   ·cases this
  ·rw [List.all_eq_true]
   intro x hx
   obtain ⟨y, hy, rfl⟩ := List.mem_map.1 hx
   have h1 := List.all_eq_true.1 c4 y hy
   have h2 : Nat.blt y.1 H.next = true := by rw [Nat.blt_eq]; exact (ho y hy).2
   have h3 : Nat.ble F.ro y.1 = false := by
    rw [← Bool.not_eq_true, Nat.ble_eq, Nat.eq_of_beq_eq_true c5]
    rw [Nat.blt_eq] at h1
    omega
   simp only [h1, h2, h3, Nat.beq_refl, Bool.and_true, Bool.or_true, Bool.not_false, Bool.true_or]
 simp only [Fact.qzc, hfit, c5, c6, Bool.and_true, cond_true]
end Go.E2
namespace Go.E3
open Go Go.E2
theorem qlf {α : Type} : ∀ {l : List (Nat × α)}, distinct (l.map (·.1)) = true → ∀ {x : Nat × α}, x ∈ l → look l x.1 = some x.2
 | [], _, x, hx => by cases hx
 | y :: l, h, x, hx => by
  simp only [List.map_cons, distinct, Bool.and_eq_true, Bool.not_eq_true'] at h
  simp only [look, cond_eq_ite, Nat.beq_eq]
  rcases List.mem_cons.1 hx with rfl | hx
  ·rw [if_pos rfl]
  ·rw [if_neg]
   ·exact qlf h.2 hx
   ·intro he
    have h1 := h.1
    rw [← Bool.not_eq_true, List.any_eq_true] at h1
    exact h1 ⟨x.1, List.mem_map.2 ⟨x, hx, rfl⟩, by rw [he]; exact Nat.beq_refl _⟩
end Go.E3
/- PLAIN LEAN FOR CONDITIONS: elements, bytes, parts of lists by numbers; places up to which something holds; cuts at a byte. No program in sight. -/
namespace Go.E3
theorem qz9 {α : Type} [Inhabited α] {l : List α} {i : Nat} (h : i < l.length) : ix l (i : Int) = l[i] := by
 simp [ix, List.getD_eq_getElem?_getD, h]
theorem qm6 {α : Type} [Inhabited α] {a : α} {l : List α} {i : Int} (h : 0 ≤ i) : ix (a :: l) (i + 1) = ix l i := by
 have : (i + 1).toNat = i.toNat + 1 := by omega
 simp [ix, this]
theorem qeh {α : Type} (l : List α) : fr l 0 = l := rfl
theorem qbt {α : Type} (l : List α) : upto l 0 = [] := rfl
theorem qfy {α : Type} {l : List α} {i : Int} (h : ln l ≤ i) : fr l i = [] := by
 apply List.drop_of_length_le; simp only [ln] at h; omega
theorem qet {α : Type} {l : List α} {i : Int} (h : ln l ≤ i) : upto l i = l := by
 apply List.take_of_length_le; simp only [ln] at h; omega
theorem qa0 {α : Type} [Inhabited α] {l : List α} {i : Int} (h0 : 0 ≤ i) (h : i < ln l) : fr l i = ix l i :: fr l (i + 1) := by
 have hi : i.toNat < l.length := by simp only [ln] at h; omega
 have e : (i + 1).toNat = i.toNat + 1 := by omega
 unfold fr ix
 rw [List.drop_eq_getElem_cons hi, e, List.getD_eq_getElem?_getD, List.getElem?_eq_getElem hi]
 rfl
theorem qah {α : Type} [Inhabited α] {l : List α} {i : Int} (h0 : 0 ≤ i) (h : i < ln l) : upto l (i + 1) = upto l i ++ [ix l i] := by
 have hi : i.toNat < l.length := by simp only [ln] at h; omega
 have e : (i + 1).toNat = i.toNat + 1 := by omega
 unfold upto ix
 rw [e, List.take_add_one, List.getD_eq_getElem?_getD, List.getElem?_eq_getElem hi]
 rfl
theorem qf4 {α : Type} {l : List α} {i : Int} (h0 : 0 ≤ i) (h : i ≤ ln l) : ln (fr l i) = ln l - i := by
 simp only [ln, fr, List.length_drop] at *; omega
theorem qhu {α : Type} {l : List α} {i : Int} (h0 : 0 ≤ i) (h : i ≤ ln l) : ln (upto l i) = i := by
 simp only [ln, upto, List.length_take] at *; omega
theorem q6s {α : Type} {l : List α} {i j : Int} (h0 : 0 ≤ i) (h1 : i ≤ j) (h : j ≤ ln l) : ln (sub l i j) = j - i := by
 simp only [ln, sub, List.length_drop, List.length_take] at *; omega
theorem qo {α : Type} (l : List α) : 0 ≤ ln l := Int.natCast_nonneg _
theorem qbq {α : Type} (l m : List α) : ln (l ++ m) = ln l + ln m := by simp [ln]
theorem qek {α : Type} (a : α) (l : List α) : ln (a :: l) = ln l + 1 := by simp [ln]
theorem qv4 {α : Type} : ln ([] : List α) = 0 := rfl
theorem q15 {α : Type} {l : List α} (h : ln l ≤ 0) : l = [] := by
 cases l with
 | nil => rfl
 | cons a l => simp only [ln, List.length_cons] at h; omega
theorem qgr {α : Type} {l m : List α} (h : ln l + ln m ≤ 1000000000) : ka (l.length + m.length) := by simp only [ln, ka] at *; omega
theorem qhf {α : Type} {l : List α} {a : α} (h : ln l + 1 ≤ 1000000000) : ka (l.length + [a].length) := by simp only [ln, ka, List.length_cons, List.length_nil] at *; omega
theorem qas {α : Type} (l : List α) (a : α) : ln (l ++ [a]) = ln l + 1 := by simp [ln]
theorem qkp {α : Type} {l : List α} {i j : Int} (h0 : 0 ≤ i) (h1 : i ≤ j) : sub l i j = upto (fr l i) (j - i) := by
 simp only [sub, fr, upto]
 rw [List.take_drop]
 have : i.toNat + (j - i).toNat = j.toNat := by omega
 rw [this]
theorem q6b {α : Type} {l : List α} {i j : Int} (h0 : 0 ≤ i) (h1 : 0 ≤ j) : fr (fr l i) j = fr l (i + j) := by
 simp only [fr, List.drop_drop]
 have : i.toNat + j.toNat = (i + j).toNat := by omega
 rw [this]
theorem q13 {α : Type} [Inhabited α] {s : List α} {i j : Int} (h0 : 0 ≤ i) (h1 : 0 ≤ j) : ix (fr s i) j = ix s (i + j) := by
 have : i.toNat + j.toNat = (i + j).toNat := by omega
 simp only [ix, fr, List.getD_eq_getElem?_getD, List.getElem?_drop, this]
theorem zcs {α : Type} [Inhabited α] {l : List α} {a : α} (h : a ∈ l) : ∃ i : Int, 0 ≤ i ∧ i < ln l ∧ ix l i = a := by
 obtain ⟨i, hi, rfl⟩ := List.mem_iff_getElem.1 h
 exact ⟨i, by omega, by simp only [ln]; omega, qz9 hi⟩
theorem qbd {α : Type} [Inhabited α] {l : List α} {i : Int} (h0 : 0 ≤ i) (h : i < ln l) : ix l i ∈ l := by
 have hi : i.toNat < l.length := by simp only [ln] at h; omega
 have : ix l i = l[i.toNat] := by simp [ix, List.getD_eq_getElem?_getD, hi]
 rw [this]; exact List.getElem_mem hi
end Go.E3
