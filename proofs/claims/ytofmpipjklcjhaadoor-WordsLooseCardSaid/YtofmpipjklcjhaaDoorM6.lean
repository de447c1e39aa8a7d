/- A VERIFIED EVALUATOR, texts E3w, E3x, E3y, E3z, E3za, E3zb, L3a in one. -/
import Derived.Test.YtofmpipjklcjhaaDoorM5
import Derived.ChangeBook
import Derived.ChangeStays
import Derived.ChangeArms
import Derived.ChangeMaps5
import Derived.OpenShut
/- E3: FUNCTIONS against E2's: what the conditions of a function show. -/
namespace Go.E3
open Go Go.E2
variable {K : Nat → Type}
def ownPairs : List (PV K) → List (PV K) → List (Nat × Nat)
  | .list _ _ (some (i, _)) :: ps, .list _ _ (some (j, _)) :: rs => (j, i) :: ownPairs ps rs
  | _ :: ps, _ :: rs => ownPairs ps rs
  | _, _ => []
def RT : PV K → Prop
  | .sb id _ b pt pf => id = 0 ∧ (pt ↔ b = true) ∧ (pf ↔ b = false)
  | .int _ l _ => l = none
  | .list _ _ (some (_, s)) => s = 0
  | _ => True
section
variable {X : Codecs K} {sz : Nat → Nat} {C : Cfg Int Bool (List UInt8) Prop (fun c => List (K c))} {base H : Heap} {st : StV K} {w : Wd}
variable {tbl : Tbl K} {inv : Nat → List (NV K) → Prop} {meas : Nat → List (NV K) → Nat} {inl : Inl Int Bool (List UInt8) Prop (fun c => List (K c))}
theorem resultsP_sound {fr : Fr} (R : RelH X sz C base st H w) (F : RelF X sz w st.tmps fr) : ∀ {rs : List ResultVar} {ps : List (PV K)}, resultsP (stdA X tbl inv meas) C st rs = some ps → ∃ vs, resultsV C.E fr H rs = some vs ∧ RepL X sz w ps vs
  | [], ps, h => by
    simp only [resultsP, Option.some.injEq] at h
    subst h
    exact ⟨[], rfl, .nil⟩
  | .tmp t :: rs, ps, h => by
    simp only [resultsP] at h
    obtain ⟨p, h1, h2⟩ := Option.bind_eq_some_iff.1 h
    obtain ⟨qs, h3, rfl⟩ := Option.map_eq_some_iff.1 h2
    obtain ⟨v, e1, r1⟩ := F t p h1
    obtain ⟨vs, e2, r2⟩ := resultsP_sound R F h3
    exact ⟨v :: vs, by simp only [resultsV, e1, Option.bind_some, e2, Option.map_some], .cons r1 r2⟩
  | .cell a t :: rs, ps, h => by
    simp only [resultsP] at h
    obtain ⟨ti, h0, h1⟩ := Option.bind_eq_some_iff.1 h
    obtain ⟨pa, h2, h3⟩ := Option.bind_eq_some_iff.1 h1
    obtain ⟨p, h4, h5⟩ := Option.bind_eq_some_iff.1 h3
    obtain ⟨qs, h6, rfl⟩ := Option.map_eq_some_iff.1 h5
    obtain ⟨va, e1, r1⟩ := F a pa h2
    obtain ⟨nm, gn, off, lim, rfl, _, hl, _⟩ := load_sound R r1 h4
    obtain ⟨u, hu, ru⟩ := hl H rfl
    obtain ⟨vs, e2, r2⟩ := resultsP_sound R F h6
    exact ⟨u :: vs, by simp only [resultsV, h0, e1, hu, Option.bind_some, e2, Option.map_some], .cons ru r2⟩
theorem oneOf_rep {ps : List (PV K)} {vs : List V} (r : RepL X sz w ps vs) : Rep X sz w (oneOfP ps) (oneOf vs) := by
  match ps, r with
  | [], r => rw [r.nil_iff]; exact .undef
  | [p], r =>
    obtain ⟨v, vs', rfl, r1, r2⟩ := r.uncons
    have := r2.nil_iff; subst this
    exact r1
  | p :: q :: ps, r =>
    obtain ⟨v, vs', rfl, r1, r2⟩ := r.uncons
    obtain ⟨u, vs'', rfl, r3, r4⟩ := r2.uncons
    exact .tuple' (.cons r1 (.cons r3 r4))
theorem thaw_sound (ok : CfgOk X sz C) {base H : Heap} : ∀ {ps : List (PV K)} {vs : List V} {st : StV K} {w : Wd} {k : List (PV K) → StV K → Prop}, RelH X sz C base st H w → RepL X sz w ps vs → thaw (stdA X tbl inv meas) ps st k →
    ∃ qs st' w', k qs st' ∧ RelH X sz C base st' H w' ∧ Le w w' ∧ RepL X sz w' qs vs
  | [], vs, st, w, k, R, r, h => ⟨[], st, w, h, R, .refl w, r⟩
  | p :: ps, vs, st, w, k, R, r, h => by
    obtain ⟨v, vs', rfl, r1, r2⟩ := r.uncons
    by_cases hmm : ∃ id c n, p = .mlist id c n
    · obtain ⟨id, c, n, rfl⟩ := hmm
      simp only [thaw] at h
      obtain ⟨l, hl, hn, h⟩ := onS_inv h
      have hn : n = (l.length : Int) := hn
      have hl := lookM_inv hl
      cases r1 with
      | mlist hi h0 hz =>
        obtain ⟨w1, R1, hle1, hn1, hg1, hrep⟩ := freeze_sound ok R hl hz
        have hB : Bump { st with cells := dropL st.cells id } { st with cells := dropL st.cells id, owns := (st.next, 0) :: st.owns, next := st.next + 1 } st.next 0 := by
          have hnone : look st.owns st.next = none := by
            cases hl : look st.owns st.next with
            | none => rfl
            | some g => have := R.ownn _ _ hl; omega
          exact ⟨rfl, rfl, rfl, rfl, fun j => look_cons, Nat.le_succ _, Nat.lt_succ_self _, fun g hg => (by have hg : look st.owns st.next = some g := hg; rw [hnone] at hg; cases hg), fun _ => Nat.le_refl _⟩
        obtain ⟨w2, R2, hle2, ow, et, hn2, _⟩ := same_sound (named := false) ok R1 hB (by simp)
        have rl := (hrep none trivial).mono ok.len hle2
        have ho : OwnC w2 sz c (some (st.next, 0)) (.slice (w.c id) 0 0 l.length (sz c) (some l.length)) :=
          ⟨by rw [hn2]; exact Nat.lt_succ_self _, fun cur hc' => (by rw [ow] at hc'; cases hc'; exact Nat.le_refl _), fun _ => .inl rfl, fun h => by cases h⟩
        have rl2 : Rep X sz w2 (.list c l (some (st.next, 0))) (.slice (w.c id) 0 0 l.length (sz c) (some l.length)) := by
          cases rl with
          | list hg hf hM hlen hb hz hcap hc _ => exact .list hg hf hM hlen hb hz hcap hc ho
        have hnn : n.toNat = l.length := by omega
        obtain ⟨qs, st', w', a1, a2, a3, a4⟩ := thaw_sound ok R2 ((r2.mono ok.len hle1).mono ok.len hle2) h
        refine ⟨_, st', w', a1, a2, (hle1.trans hle2).trans a3, .cons ?_ a4⟩
        rw [hnn]
        exact rl2.mono ok.len a3
    · have hml' : ∀ id c n, p = .mlist id c n → False := fun id c n he => hmm ⟨id, c, n, he⟩
      simp only [thaw] at h
      obtain ⟨qs, st', w', a1, a2, a3, a4⟩ := thaw_sound ok R r2 h
      exact ⟨_, st', w', a1, a2, a3, .cons (r1.mono ok.len a3) a4⟩
theorem bstr_nil {X : Codecs K} : (X.u8 ▸ ([] : List (K 0)) : List UInt8) = [] := by
  rw [cast_list]
  rfl
theorem primP_sound (ok : CfgOk X sz C) (pok : PrimOk C) {f : Nat} (hf : C.prim f = true) {args : List (PV K)} {st : StV K} {k : PV K → StV K → Prop} (h : primP (stdA X tbl inv meas) args st k) {base H : Heap} {w : Wd} {vs : List V}
    (R : RelH X sz C base st H w) (ra : RepL X sz w args vs) : CallW C.E (.func f) vs H fun v H' => ∃ p st' w', k p st' ∧ st'.tmps = st.tmps ∧ st'.n = st.n ∧ RelH X sz C base st' H' w' ∧ Le w w' ∧ Rep X sz w' p v := by
  unfold primP at h
  split at h
  · rename_i id off lim
    obtain ⟨a, us, rfl, r1, r2⟩ := ra.uncons
    have := r2.nil_iff; subst this
    obtain ⟨cs, hcs, h1⟩ := onS_inv h
    clear h
    obtain ⟨hcl, hMc, vs, e, ex, hg, _, hr⟩ := R.cells id _ (lookC_inv hcs)
    have hr : RepL X sz w cs vs := hr
    cases r1 with
    | cell hid =>
      obtain ⟨hb, h2⟩ := cond_prop h1
      clear h1
      simp only [Bool.and_eq_true, Nat.ble_eq] at hb
      obtain ⟨hb1, hb2⟩ := hb
      have hb2' : lim ≤ vs.length := by rw [← hr.1]; exact hb2
      obtain ⟨pk1, pk2⟩ := pok f hf H (w.c id) off lim vs e ex R.wf hg hb1 hb2'
      have hget : ∀ q, cs[off + 1]? = some q → ∃ u, vs[off + 1]? = some u ∧ Rep X sz w q u := fun q hq => hr.get hq
      split at h2
      · rename_i hq
        obtain ⟨u, hu, ru⟩ := hget _ hq
        cases ru
        refine (pk1 hu).mono fun v H' hA => ?_
        obtain ⟨rfl, rfl⟩ := hA
        exact ⟨_, st, w, h2, rfl, rfl, R, .refl w, .str⟩
      · rename_i c l i s hq
        split at h2
        · rename_i hc
          subst hc
          obtain ⟨ho, h3, h4⟩ := cond_prop h2
          clear h2
          simp only [Bool.and_eq_true] at ho
          have hodd := Nat.eq_of_beq_eq_true ho.2
          have hlook := isOwn_owns R.owns ho.1
          obtain ⟨u, hu, ru⟩ := hget _ hq
          have hlk : look st.owns i = some s := by rw [← R.owns]; exact hlook
          have hs1 : sz 0 = 1 := by rw [← ok.len 0 (X.dflt 0), ok.u8]; rfl
          obtain ⟨ru0, ro⟩ := ru.unown
          have hnb := ro.2.2.2 hodd
          have hov := ro.2.2.1 hlook
          rcases list_cases ru with ⟨rfl, rfl⟩ | ⟨nm, gn, o2, cap, cells, el, gen, floor, frz, eb, rfl, hgn, hf2, hM2, hlen, _, hcap, hcell, _⟩
          · refine (pk1 hu).mono fun v H' hA => ?_
            obtain ⟨rfl, rfl⟩ := hA
            have e0 : (stdA X tbl inv meas).bstr ([] : List (K 0)) = [] := bstr_nil (X := X)
            have h4' : k (.str ((stdA X tbl inv meas).bstr ([] : List (K 0)))) { st with owns := dropL st.owns i } := h4
            rw [e0] at h4'
            obtain ⟨w', R', hle⟩ := drop_sound ok R i
            exact ⟨_, _, w', h4', rfl, rfl, R', hle, .str⟩
          · obtain ⟨rfl, rfl, hpos⟩ := hnb
            simp only [OwnV] at hov
            rcases hov with hov | ⟨_, het, cells', el', floor', frz', eb', hg', htop, hfrz, hce⟩
            · cases hov
            · rw [hgn] at hg'
              cases hg'
              rw [R.g] at hgn
              rw [hs1] at htop hlen hu
              obtain ⟨hbase, hnext, hnM⟩ := R.eta i s nm hlk het
              obtain ⟨ecs, ee1, ee2⟩ := elemsV_list ok.len R.g ru0 (by rw [hs1]; exact Nat.one_pos)
              rw [hs1] at ee1
              have hecs : ecs = cells := by
                have b1 : Nat.ble floor gn = true := by rw [Nat.ble_eq]; exact hf2
                have b2 : Nat.ble (0 + l.length * 1) (0 + l.length * 1) = true := by rw [Nat.ble_eq]; exact Nat.le_refl _
                have b3 : Nat.ble (0 + l.length * 1) cells.length = true := by rw [Nat.ble_eq]; exact hlen
                simp only [elemsV, Nat.beq_refl, cond_true, readCells, hgn, b1, b2, b3, Bool.and_self, Option.map_eq_some_iff, Prod.mk.injEq, true_and] at ee1
                obtain ⟨_, ee1, rfl⟩ := ee1
                obtain ⟨rfl, _⟩ := noHoles_some ee1
                rw [List.drop_zero, List.take_of_length_le]
                omega
              subst hecs
              have hbytes := bytes_sound ok ee2
              have hle' : l.length ≤ 140737488355328 := by
                have : (l.length : Int) ≤ 140737488355328 := h3
                omega
              refine (pk2 nm gn l.length ecs el floor frz eb _ hu hgn (by omega) hf2 hpos hle' (by rw [← R.ce]; exact hce) hbytes ee2.noHole (by rw [R.keeps.ro]; exact Nat.le_trans R.rob.1 hbase) (fun he => hnM (by rw [he]; exact hMc))).mono fun v H' hA => ?_
              obtain ⟨rfl, rfl⟩ := hA
              obtain ⟨w', R', hle⟩ := shut_sound ok R hlk het (max frz l.length) hgn
              exact ⟨_, _, w', h4, rfl, rfl, R', hle, .str⟩
        · exact h2.elim
      · exact h2.elim
  · exact h.elim
theorem LeB.setfl (w : Wd) (x : Nat) : LeB w { w with fl := x } :=
  have h := LeB.refl w
  ⟨h.n, h.mem, h.c, h.nu, h.o1, h.o2, h.o3, h.ce, h.cl, h.nx, h.b, h.Mu, h.lp⟩
theorem RelH.setfl (ok : CfgOk X sz C) (R : RelH X sz C base st H w) (x : Nat) : RelH X sz C base st H { w with fl := x } :=
  ⟨R.wf, R.rob, R.g, R.nx, R.b, R.Mlt, R.n, R.one, R.keeps, R.cl, R.cinj, fun id ct h => by
    obtain ⟨a, b, c⟩ := R.cells id ct h
    exact ⟨a, b, c.monoB ok.len (LeB.setfl w x) (by rw [R.n]; exact (R.cl id a).1)⟩, R.owns, R.ownn, R.eta, R.einj, R.ce, R.known, fun gn ps h => by
    obtain ⟨q0, vs', e', fl, fz, ex', q1, q2, q3⟩ := R.globs gn ps h
    exact ⟨q0, vs', e', fl, fz, ex', q1, q2, q3.monoB ok.len (LeB.setfl w x)⟩⟩
theorem marks_sound (ok : CfgOk X sz C) {F : Nat} : ∀ {ds : List Dfr} {H : Heap} {w : Wd}, RelH X sz C base st H w → (∀ x ∈ ds, ∃ m, x = .mark m ∧ base.next ≤ m ∧ F ≤ m ∧ w.g m = some .dfr) → ds.Nodup →
    ∃ H'' w2, marksOnly ds H = some H'' ∧ RelH X sz C base st H'' w2 ∧ LeB w w2 ∧ w2.fl = w.fl ∧ ∀ m, m < F → w2.g m = w.g m
  | [], H, w, R, _, _ => ⟨H, w, rfl, R, .refl w, rfl, fun _ _ => rfl⟩
  | x :: ds, H, w, R, hd, hn => by
    obtain ⟨m, rfl, hb, hF, hg⟩ := hd x List.mem_cons_self
    rw [List.nodup_cons] at hn
    let H1 := H.put m .gone
    let w1 : Wd := { w with g := H1.get }
    have hgH : H.get m = some .dfr := by rw [← R.g]; exact hg
    have hget : ∀ nm, nm ≠ m → H1.get nm = H.get nm := fun nm hn => heap_put_ne hn
    have hlt : m < H.next := by
      by_cases h : m < H.next
      · exact h
      · rw [R.wf m (by omega)] at hgH; cases hgH
    have hle : LeB w w1 := by
      refine ⟨Nat.le_refl _, fun nm cs e gen floor frz ex h hM' => ⟨hM', [], gen, frz, ex, ?_⟩, fun _ _ => rfl, fun _ _ => rfl, fun _ _ h => h, fun _ _ _ _ h h' => (by rw [h] at h'; cases h'; exact Nat.le_refl _), fun i s hi ho _ => ⟨rfl, fun nm hn hne => ?_⟩, rfl, fun _ _ => .rfl, Nat.le_refl _, rfl, fun _ _ h => h, fun _ _ => rfl⟩
      · rw [List.append_nil]
        show H1.get nm = _
        rw [hget nm (by intro he; subst he; rw [hg] at h; cases h), ← R.g]
        exact h
      · show H1.get nm = w.g nm
        rw [hget nm (by intro he; subst he; exact hne hg), R.g]
    have R1 : RelH X sz C base st H1 w1 := by
      refine ⟨fun n hn => ?_, R.rob, rfl, R.nx, R.b, R.Mlt, R.n, R.one, R.keeps.put hb _, R.cl, R.cinj, fun id' ps' h' => ?_, R.owns, R.ownn, R.eta, R.einj, R.ce, R.known, fun gn ps' h' => ?_⟩
      · have hn' : H.next ≤ n := hn
        rw [hget n (by omega)]
        exact R.wf n hn'
      · obtain ⟨q1, q2, q5⟩ := R.cells id' ps' h'
        refine ⟨q1, q2, ?_⟩
        show CellAt X sz w1 id' _ (H1.get (w.c id'))
        rw [hget _ (by intro he; rw [he] at q5; exact q5.some.1 hgH)]
        exact q5.monoB ok.len hle (by rw [R.n]; exact (R.cl id' q1).1)
      · obtain ⟨q0, vs', e', fl, fz, ex', q1, q2, q3⟩ := R.globs gn ps' h'
        exact ⟨q0, vs', e', fl, fz, ex', q1, q2, q3.monoB ok.len hle⟩
    obtain ⟨H'', w2, a1, a2, a3, a4, a5⟩ := marks_sound ok R1 (fun x hx => by
      obtain ⟨m', h1, h2, h3, h4⟩ := hd x (List.mem_cons_of_mem _ hx)
      refine ⟨m', h1, h2, h3, ?_⟩
      show H1.get m' = _
      rw [hget m' (by intro he; subst he; subst h1; exact hn.1 hx), ← R.g]
      exact h4) hn.2
    refine ⟨H'', w2, ?_, a2, hle.trans a3, a4, fun m' hm' => ?_⟩
    · simp only [marksOnly, hgH, heap_upd (show H.ro ≤ m by rw [R.keeps.ro]; exact Nat.le_trans R.rob.1 hb), Option.bind_some]
      exact a1
    · rw [a5 m' hm']
      show H1.get m' = w.g m'
      rw [hget m' (by omega), R.g]
theorem Le.leave {w w1 w2 w3 : Wd} (hwf : ∀ n, w.nx ≤ n → w.g n = none) (h1 : Le { w with fl := w.nx } w1) (h2 : LeB w1 w2) (hold : ∀ m, m < w.nx → w2.g m = w1.g m) (h3 : Le w2 w3) : Le w { w3 with fl := w.fl } := by
  have h := h1.toLeB.trans (h2.trans h3.toLeB)
  refine ⟨⟨h.n, h.mem, h.c, h.nu, h.o1, h.o2, h.o3, h.ce, h.cl, h.nx, h.b, h.Mu, h.lp⟩, fun m hm => ?_, rfl⟩
  have hlt : m < w.nx := by
    by_cases hlt : m < w.nx
    · exact hlt
    · rw [hwf m (by omega)] at hm; cases hm
  refine h3.df m ?_
  rw [hold m hlt]
  exact h1.df m hm
theorem putParams_sound {n : Nat} : ∀ {ps : List Tmp} {args : List (PV K)} {vs : List V} {t t' : Tree (PV K)} {lt : Tree V}, RepL X sz w args vs → (∀ i p, t.get i = some p → ∃ v, lt.get i = some v ∧ Rep X sz w p v) → putParamsP n ps args t = some t' →
    ∃ lt', putParams n ps vs lt = some lt' ∧ ∀ i p, t'.get i = some p → ∃ v, lt'.get i = some v ∧ Rep X sz w p v
  | [], [], vs, t, t', lt, r, ht, h => by
    have := r.nil_iff; subst this
    simp only [putParamsP, Option.some.injEq] at h
    subst h
    exact ⟨lt, rfl, ht⟩
  | [], _ :: _, vs, t, t', lt, r, ht, h => by simp [putParamsP] at h
  | _ :: _, [], vs, t, t', lt, r, ht, h => by simp [putParamsP] at h
  | p :: ps, a :: args, vs, t, t', lt, r, ht, h => by
    obtain ⟨v, vs', rfl, r1, r2⟩ := r.uncons
    simp only [putParamsP] at h
    rcases cond_some h with ⟨_, h1⟩ | ⟨hb, h1⟩
    · cases h1
    · obtain ⟨lt', e1, e2⟩ := putParams_sound (lt := lt.set p v) r2 (fun i q hq => by
        rw [Tree.get_set] at hq ⊢
        by_cases hi : i = p
        · rw [if_pos hi] at hq ⊢
          cases hq
          exact ⟨v, rfl, r1⟩
        · rw [if_neg hi] at hq ⊢
          exact ht i q hq) h1
      refine ⟨lt', ?_, e2⟩
      simp only [putParams, hb, cond_true]
      exact e1
theorem callW_round {E : Env} {l : Nat} {args : List V} {H : Heap} {Q : V → Heap → Prop} {st : LoopState} {p : Option Code} {lt t : Tree V} {ln ld : Nat} {lp : List Tmp} {la lb : Code} (hl : H.get l = some (.loop st p lt ln lp la lb ld)) (hp : putParams ln lp args lt = some t)
    (h : Wp E 0 (some l) la { tmps := t, n := ln, defers := [] } H fun ex fr H1 => ex = .normal ∧ ∃ H2, beginV H1 l = some H2 ∧ Wp E 0 (some l) lb fr H2 fun ex' fr' H3 => ∃ v H4, roundOut l (ex', fr', H3) = some (.ret v, H4) ∧ Q v H4) : CallW E (.round l) args H Q := by
  obtain ⟨⟨ex, fr, H1⟩, ⟨k0, h1⟩, h0, H2, hb, ⟨x, ⟨k1, h2⟩, v, H4, h3, h4⟩⟩ := h
  simp only at h0
  subst h0
  refine ⟨v, H4, ⟨max k0 k1 + 1, fun k hk => ?_⟩, h4⟩
  obtain ⟨k, rfl⟩ : ∃ g, k = g + 1 := ⟨k - 1, by omega⟩
  simp only [callFn, hl, hp, Option.bind_some, h1 k (by omega)]
  simp only at hb
  rw [hb]
  simp only [Option.bind_some]
  simp only at h2
  rw [h2 k (by omega)]
  simp only [Option.bind_some]
  exact h3
theorem wpRound_sound (ok : CfgOk X sz C) (ok2 : CfgOk2 X C) (tok : TblOk X sz C tbl) (iok : InlOk X sz C inl) {id : Nat} {args : List (PV K)} {st : StV K} {k : PV K → StV K → Prop} (h : wpRound (stdA X tbl inv meas) C inl id args st k) {base H : Heap} {w : Wd} {vs : List V}
    (R : RelH X sz C base st H w) (ra : RepL X sz w args vs) : CallW C.E (.round (w.c id)) vs H fun v H' => ∃ p st' w', k p st' ∧ st'.tmps = st.tmps ∧ st'.n = st.n ∧ RelH X sz C base st' H' w' ∧ Le w w' ∧ Rep X sz w' p v := by
  unfold wpRound at h
  split at h
  · rename_i r hl
    split at h
    · rename_i hm
      obtain ⟨t, ht, h1⟩ := onS_inv h
      obtain ⟨hcl, hM, g, p1, p2, p3, p4, p5, p6, p7⟩ := R.cells id _ hl
      obtain ⟨hid, hnext, hbase⟩ := R.cl id hcl
      have hidn : id < w.n := by rw [R.n]; exact hid
      rw [hm] at p2
      let w0 : Wd := { w with fl := w.nx }
      have R0 : RelH X sz C base st H w0 := R.setfl ok w.nx
      have ra0 : RepL X sz w0 args vs := ra.monoB ok.len (LeB.setfl w w.nx)
      rw [p3, p4] at ht
      obtain ⟨lt', e1, e2⟩ := putParams_sound (lt := g.lt) ra0 (fun i p hp => by
        obtain ⟨v, a, b⟩ := p7 i p hp
        exact ⟨v, a, b.monoB ok.len (LeB.setfl w w.nx)⟩) ht
      have F0 : Rel X sz C base { st with tmps := t, n := r.n } { tmps := lt', n := g.ln, defers := [] } H w0 := ⟨R0.alike rfl rfl rfl rfl, e2, p3.symm, .nil (Nat.le_refl _)⟩
      have hrd : RdOk w0 (some id) (some (w.c id)) := ⟨hidn, rfl⟩
      refine callW_round (l := w.c id) (t := lt') (by rw [p2]; rfl) e1 ?_
      rw [← p5]
      refine (wpCode_sound (fnE := 0) ok ok2 tok iok hrd F0 h1).mono fun ex fr1 H1 hA => ?_
      obtain ⟨_, st1, w1, hk, F1, hle1⟩ := hA
      cases ex with
      | normal =>
        refine ⟨rfl, ?_⟩
        simp only at hk
        split at hk
        · rename_i r1 hl1
          split at hk
          · rename_i hm1
            obtain ⟨hcl1, hM1, g1, q1, q2, _⟩ := F1.h.cells id _ hl1
            have hc1 : w1.c id = w.c id := hle1.c id hidn
            have hg1 : g1 = g := by
              have : w1.lp id = w.lp id := hle1.lp id hidn
              rw [this, p1] at q1
              exact (Option.some.inj q1).symm
            subst hg1
            rw [hc1, hm1] at q2
            have hro1 : H1.ro ≤ w.c id := by rw [F1.h.keeps.ro, ← hc1]; exact Nat.le_trans F1.h.rob.1 (F1.h.cl _ hcl1).2.2
            have hT1 : ∀ i p, r.tmps.get i = some p → ∃ v, g1.lt.get i = some v ∧ Rep X sz w1 p v := fun i p hp => by
              obtain ⟨v, a, b⟩ := p7 i p hp
              exact ⟨v, a, (b.monoB ok.len (LeB.setfl w w.nx)).mono ok.len hle1⟩
            obtain ⟨w2, R2, hle2⟩ := putO_sound ok F1.h (ct' := .lp { r with mode := .busy }) (o := loopAt g1 .busy) hl1 ⟨g1, q1, rfl, p3, p4, p5, p6, hT1⟩
            rw [hc1] at R2
            have hle02 := hle1.trans hle2
            refine ⟨H1.put (w.c id) (loopAt g1 .busy), ?_, ?_⟩
            · simp only [beginV, q2, loopAt]
              exact heap_upd hro1
            have F2 : Rel X sz C base { st1 with cells := putL st1.cells id (.lp { r with mode := .busy }) } fr1 (H1.put (w.c id) (loopAt g1 .busy)) w2 := ⟨R2, fun i p hp => by
              obtain ⟨x, a, b⟩ := F1.f i p hp
              exact ⟨x, a, b.mono ok.len hle2⟩, F1.n, F1.ds.mono hle2⟩
            rw [← p6]
            refine (wpCode_sound (fnE := 0) ok ok2 tok iok (hrd.mono hle02) F2 hk).mono fun ex fr3 H3 hB => ?_
            obtain ⟨_, st3, w3, hk3, F3, hle3⟩ := hB
            split at hk3
            · rename_i r3 hl3
              obtain ⟨hcl3, hM3, g3, u1, u2, _⟩ := F3.h.cells id _ hl3
              have hle03 := hle02.trans hle3
              have hc3 : w3.c id = w.c id := hle03.c id hidn
              have hg3 : g3 = g1 := by
                have : w3.lp id = w.lp id := hle03.lp id hidn
                rw [this, p1] at u1
                exact (Option.some.inj u1).symm
              subst hg3
              rw [hc3] at u2
              have hro3 : H3.ro ≤ w.c id := by rw [F3.h.keeps.ro, ← hc3]; exact Nat.le_trans F3.h.rob.1 (F3.h.cl _ hcl3).2.2
              have hT3 : ∀ i p, r.tmps.get i = some p → ∃ v, g3.lt.get i = some v ∧ Rep X sz w3 p v := fun i p hp => by
                obtain ⟨v, a, b⟩ := hT1 i p hp
                exact ⟨v, a, (b.mono ok.len hle2).mono ok.len hle3⟩
              have hend : ∀ (jump : Option Code), endRoundV H3 (w.c id) jump = some (.ret (.bool jump.isNone), H3.put (w.c id) (.loop (if jump.isNone then .ready else .done) jump g3.lt g3.ln g3.lp g3.la g3.lb g3.ld)) := by
                intro jump
                simp only [endRoundV, u2]
                cases r3.mode with
                | done x => cases x <;> simp only [loopAt, heap_upd hro3, Option.map_some]
                | _ => simp only [loopAt, heap_upd hro3, Option.map_some]
              have fin : ∀ (md : LMode) (b : Bool) (ex : Ex), roundOut (w.c id) (ex, fr3, H3) = some (.ret (.bool b), H3.put (w.c id) (loopAt g3 md)) → k (.lit b) { st3 with cells := putL st3.cells id (.lp { r with mode := md }), tmps := st.tmps, n := st.n } →
                  ∃ v H4, roundOut (w.c id) (ex, fr3, H3) = some (.ret v, H4) ∧ ∃ p st' w', k p st' ∧ st'.tmps = st.tmps ∧ st'.n = st.n ∧ RelH X sz C base st' H4 w' ∧ Le w w' ∧ Rep X sz w' p v := by
                intro md b ex he hk
                obtain ⟨w4, R4, hle4⟩ := putO_sound ok F3.h (ct' := .lp { r with mode := md }) (o := loopAt g3 md) hl3 ⟨g3, u1, rfl, p3, p4, p5, p6, hT3⟩
                rw [hc3] at R4
                have hfin : Le w { w4 with fl := w.fl } := Le.leave (fun n hn => by rw [R.g]; exact R.wf n (by rw [← R.nx]; exact hn)) (hle03.trans hle4) (.refl w4) (fun _ _ => rfl) (.refl w4)
                exact ⟨_, _, he, _, _, { w4 with fl := w.fl }, hk, rfl, rfl, (R4.setfl ok w.fl).alike rfl rfl rfl rfl, hfin, .lit⟩
              cases ex with
              | normal => exact fin .ready true .normal (hend none) hk3
              | ret => exact fin (.done none) false .ret (hend (some .ret)) hk3
              | exit i => exact fin (.done (some i)) false (.exit i) (hend (some (.exit i))) hk3
              | _ => exact (show False from hk3).elim
            · exact (show False from hk3).elim
          · exact (show False from hk).elim
        · exact (show False from hk).elim
      | _ => exact (show False from hk).elim
    · exact (show False from h).elim
  · exact (show False from h).elim
theorem wpBody_sound (ok : CfgOk X sz C) (ok2 : CfgOk2 X C) (tok : TblOk X sz C tbl) (hq : Quiet3 C) (iok : InlOk X sz C inl) {f : Nat} {args : List (PV K)} {st : StV K} {k : PV K → StV K → Prop} (h : wpBody (stdA X tbl inv meas) C inl f args st k) {base H : Heap} {w : Wd} {vs : List V}
    (R : RelH X sz C base st H w) (ra : RepL X sz w args vs) : CallW C.E (.func f) vs H fun v H' => ∃ p st' w', k p st' ∧ st'.tmps = st.tmps ∧ st'.n = st.n ∧ RelH X sz C base st' H' w' ∧ Le w w' ∧ Rep X sz w' p v := by
  unfold wpBody at h
  cases hans : C.ans f with
  | true => rw [hans] at h; exact absurd h id
  | false =>
    rw [hans] at h
    simp only [cond_false] at h
    have hs := hq.1 f hans
    cases hprim : C.prim f with
    | true =>
      rw [hprim] at h
      simp only [cond_true] at h
      exact primP_sound ok hq.2 hprim h R ra
    | false =>
    rw [hprim] at h
    simp only [cond_false] at h
    split at h
    · rename_i fi hfi
      split at h
      · rename_i c hc
        have ra0 : RepL X sz { w with fl := w.nx } args vs := ra.monoB ok.len (LeB.setfl w w.nx)
        have R1 : Rel X sz C base { st with tmps := Tree.ofList args, n := max args.length fi.ntmps } { tmps := enterTmps vs, n := max vs.length fi.ntmps, defers := [] } H { w with fl := w.nx } := by
          refine ⟨(R.setfl ok w.nx).alike rfl rfl rfl rfl, fun i p hp => ?_, by rw [ra.1], .nil (Nat.le_refl _)⟩
          have hp' : (Tree.ofList args).get i = some p := hp
          rw [Tree.get_ofList] at hp'
          obtain ⟨v, h1, h2⟩ := ra0.get hp'
          exact ⟨v, enter_tmp h1, h2⟩
        refine callW_body hs hfi hc ((wpCode_sound (rd := none) (round := none) ok ok2 tok iok trivial R1 h).mono fun ex fr' H' hA => ?_)
        obtain ⟨_, st1, w1, hk, R2, hle⟩ := hA
        have key : onS False (resultsP (stdA X tbl inv meas) C st1 fi.results) (fun vs => thaw (stdA X tbl inv meas) vs st1 fun vs st2 => k (oneOfP vs) { st2 with tmps := st.tmps, n := st.n }) → ∃ H'', marksOnly fr'.defers H' = some H'' ∧ ∃ vs, resultsV C.E fr' H'' fi.results = some vs ∧ ∃ p st' w', k p st' ∧ st'.tmps = st.tmps ∧ st'.n = st.n ∧ RelH X sz C base st' H'' w' ∧ Le w w' ∧ Rep X sz w' p (oneOf vs) := by
          intro hm
          obtain ⟨qs, hps, hm⟩ := onS_inv hm
          obtain ⟨H'', w2, hmk, R3, hB, hfl, hold⟩ := marks_sound ok R2.h (F := w.nx) (fun x hx => by
            obtain ⟨m, a1, a2, a3, a4⟩ := R2.ds.1 x hx
            exact ⟨m, a1, a2, by rw [hle.fl] at a3; exact a3, a4⟩) R2.ds.2.1
          obtain ⟨us, e1, e2⟩ := resultsP_sound (fr := fr') R3 (fun i p hp => by
            obtain ⟨v, h1, h2⟩ := R2.f i p hp
            exact ⟨v, h1, h2.monoB ok.len hB⟩) hps
          obtain ⟨qs', st2, w3, hm, R4, hle3, e3⟩ := thaw_sound ok R3 e2 hm
          have hfin : Le w { w3 with fl := w.fl } := Le.leave (fun n hn => by rw [R.g]; exact R.wf n (by rw [← R.nx]; exact hn)) hle hB hold hle3
          exact ⟨H'', hmk, us, e1, _, _, { w3 with fl := w.fl }, hm, rfl, rfl, (R4.setfl ok w.fl).alike rfl rfl rfl rfl, hfin, oneOf_rep (e3.monoB ok.len (LeB.setfl w3 w.fl))⟩
        cases ex with
        | normal => exact ⟨.inl rfl, key hk⟩
        | ret => exact ⟨.inr rfl, key hk⟩
        | _ => exact absurd hk id
      · rename_i hc
        split at h
        · rename_i x hext
          obtain ⟨v, vs', rfl, r1, r2⟩ := ra.uncons
          have := r2.nil_iff; subst this
          exact callW_ext hs hfi hc (v := v) (by simp only [hext, extV]) ⟨x, st, w, h, rfl, rfl, R, .refl w, r1⟩
        · exact absurd h id
    · exact absurd h id
theorem wpInl_ok (ok : CfgOk X sz C) (ok2 : CfgOk2 X C) (tok : TblOk X sz C tbl) (hq : Quiet3 C) : ∀ n, InlOk X sz C (wpInl (stdA X tbl inv meas) C n)
  | 0 => fun g args st k h => absurd h id
  | n + 1 => fun t args st k h base H w vs R ra => match t, h with
    | .func f, h => wpBody_sound ok ok2 tok hq (wpInl_ok ok ok2 tok hq n) h R ra
    | .round id, h => wpRound_sound ok ok2 tok (wpInl_ok ok ok2 tok hq n) h R ra
theorem ownPairs_own : ∀ {ps rs : List (PV K)} {obs : List Prop}, meetsL (stdA X tbl inv meas) st ps rs = some obs → ∀ j i, (j, i) ∈ ownPairs ps rs → ∃ s, look st.owns i = some s
  | [], rs, obs, h, j, i, hm => by cases rs <;> simp [ownPairs] at hm
  | _ :: _, [], obs, h, j, i, hm => by simp [meetsL] at h
  | p :: ps, r :: rs, obs, h, j, i, hm => by
    simp only [meetsL] at h
    obtain ⟨x, h1, h2⟩ := Option.bind_eq_some_iff.1 h
    obtain ⟨y, h3, _⟩ := Option.map_eq_some_iff.1 h2
    have ih := ownPairs_own h3 j i
    cases p with
    | list c l o =>
      cases o with
      | none => cases r <;> exact ih hm
      | some a =>
        obtain ⟨i', s'⟩ := a
        cases r with
        | list c' l' o' =>
          cases o' with
          | none => exact ih hm
          | some b =>
            obtain ⟨j', s2⟩ := b
            simp only [ownPairs, List.mem_cons] at hm
            rcases hm with hm | hm
            · cases hm
              simp only [meets, Option.isSome_some, Bool.true_and] at h1
              rcases cond_some h1 with ⟨hb, _⟩ | ⟨_, hb⟩
              · simp only [Bool.not_eq_false', isOwn] at hb
                split at hb
                · rename_i s3 hs3; exact ⟨s3, hs3⟩
                · cases hb
              · cases hb
            · exact ih hm
        | _ => exact ih hm
    | _ => cases r <;> exact ih hm
theorem ownPairs_snd : ∀ {ps rs : List (PV K)}, (ownPairs ps rs).map (·.2) = ownOut ps rs
  | [], rs => by cases rs <;> simp [ownPairs, ownOut]
  | p :: ps, [] => by cases p <;> simp [ownPairs, ownOut]
  | p :: ps, r :: rs => by
    have ih := ownPairs_snd (ps := ps) (rs := rs)
    cases p with
    | list c l o =>
      cases o with
      | none => cases r <;> simp only [ownPairs, ownOut, ih]
      | some a =>
        cases r with
        | list c' l' o' =>
          cases o' with
          | none => simp only [ownPairs, ownOut, ih]
          | some b => simp only [ownPairs, ownOut, List.map_cons, ih]
        | _ => simp only [ownPairs, ownOut, ih]
    | _ => cases r <;> simp only [ownPairs, ownOut, ih]
theorem ownPairs_fst : ∀ {ps rs : List (PV K)}, ((ownPairs ps rs).map (·.1)).Sublist (ownIds rs)
  | [], rs => by cases rs <;> simp [ownPairs]
  | p :: ps, [] => by cases p <;> simp [ownPairs]
  | p :: ps, r :: rs => by
    have ih := ownPairs_fst (ps := ps) (rs := rs)
    cases r with
    | list c' l' o' =>
      cases o' with
      | none => cases p with
        | list c l o => cases o <;> exact ih
        | _ => exact ih
      | some b =>
        cases p with
        | list c l o =>
          cases o with
          | none => exact ih.trans (List.sublist_cons_self _ _)
          | some a => exact ih.cons_cons _
        | _ => exact ih.trans (List.sublist_cons_self _ _)
    | _ => cases p with
      | list c l o => cases o <;> exact ih
      | _ => exact ih
theorem look_of_mem : ∀ {l : List (Nat × Nat)} {j i : Nat}, (l.map (·.1)).Nodup → (j, i) ∈ l → look l j = some i
  | [], j, i, _, h => by cases h
  | (a, b) :: l, j, i, hn, h => by
    simp only [List.map_cons, List.nodup_cons] at hn
    simp only [look, cond_eq_ite, Nat.beq_eq]
    rcases List.mem_cons.1 h with h | h
    · cases h
      rw [if_pos rfl]
    · rw [if_neg]
      · exact look_of_mem hn.2 h
      · intro he
        subst he
        exact hn.1 (List.mem_map.2 ⟨_, h, rfl⟩)
theorem meetsL_sound (ok2 : CfgOk2 X C) (R : RelH X sz C base st H w) {w' : Wd} (hg : w'.g = w.g) (hM' : ∀ nm x, w.g nm = some x → ¬ w.M nm → ¬ w'.M nm) (hce : w'.ce = w.ce) (ho : ∀ i, w'.owns i = some 0) : ∀ {ps rs : List (PV K)} {obs : List Prop} {vs : List V},
    meetsL (stdA X tbl inv meas) st ps rs = some obs → (∀ q ∈ obs, q) → RepL X sz w ps vs → (∀ r ∈ rs, RT r) → (∀ j i, (j, i) ∈ ownPairs ps rs → w'.eta j = w.eta i) → (∀ j ∈ ownIds rs, j < w'.n) → RepL X sz w' rs vs
  | [], [], obs, vs, h, hq, r, ht, he, hn => by rw [r.nil_iff]; exact .nil
  | [], _ :: _, obs, vs, h, hq, r, ht, he, hn => by simp [meetsL] at h
  | _ :: _, [], obs, vs, h, hq, r, ht, he, hn => by simp [meetsL] at h
  | p :: ps, q :: rs, obs, vs, h, hq, r, ht, he, hn => by
    obtain ⟨v, vs', rfl, r1, r2⟩ := r.uncons
    simp only [meetsL] at h
    obtain ⟨x, h1, h2⟩ := Option.bind_eq_some_iff.1 h
    obtain ⟨y, h3, rfl⟩ := Option.map_eq_some_iff.1 h2
    have hsubP : ∀ j i, (j, i) ∈ ownPairs ps rs → (j, i) ∈ ownPairs (p :: ps) (q :: rs) := by
      intro j i hm
      cases p with
      | list c l o =>
        cases o with
        | none => cases q <;> exact hm
        | some a =>
          cases q with
          | list c' l' o' =>
            cases o' with
            | none => exact hm
            | some b => exact List.mem_cons_of_mem _ hm
          | _ => exact hm
      | _ => cases q <;> exact hm
    have hsubI : ∀ j ∈ ownIds rs, j ∈ ownIds (q :: rs) := by
      intro j hm
      cases q with
      | list c' l' o' =>
        cases o' with
        | none => exact hm
        | some b => exact List.mem_cons_of_mem _ hm
      | _ => exact hm
    have ih := meetsL_sound ok2 R hg hM' hce ho h3 (fun q hq' => hq q (List.mem_append_right _ hq')) r2 (fun r hr => ht r (List.mem_cons_of_mem _ hr)) (fun j i hm => he j i (hsubP j i hm)) (fun j hj => hn j (hsubI j hj))
    refine .cons ?_ ih
    have hx : ∀ a ∈ x, a := fun a ha => hq a (List.mem_append_left _ ha)
    have hT := ht q List.mem_cons_self
    cases q with
    | int k' l' b =>
      cases p with
      | int k l a =>
        simp only [meets] at h1
        split at h1
        · rename_i hk
          subst hk
          cases h1
          have : a = b := hx _ List.mem_cons_self
          subst this
          cases r1
          have : l' = none := hT
          subst this
          exact .int fun m hm => by cases hm
        · cases h1
      | _ => simp [meets] at h1
    | sb id neg b pt pf =>
      obtain ⟨t1, t2, t3⟩ : id = 0 ∧ (pt ↔ b = true) ∧ (pf ↔ b = false) := hT
      have : v = .bool b := by
        cases p with
        | lit a =>
          simp only [meets, Option.some.injEq] at h1
          subst h1
          have : a = b := hx _ List.mem_cons_self
          subst this
          cases r1
          rfl
        | sb id' neg' a pt' pf' =>
          simp only [meets, Option.some.injEq] at h1
          subst h1
          have : a = b := hx _ List.mem_cons_self
          subst this
          cases r1
          rfl
        | _ => simp [meets] at h1
      subst this
      exact .sb t2 t3 fun h0 => absurd t1 h0
    | str b =>
      cases p with
      | str a =>
        simp only [meets, Option.some.injEq] at h1
        subst h1
        have : a = b := hx _ List.mem_cons_self
        subst this
        cases r1
        exact .str
      | _ => simp [meets] at h1
    | list c l o =>
      have hm : ∃ l', asL (stdA X tbl inv meas) c p = some l' ∧ l' = l ∧ (o.isSome = true → isOwn st p = true) := by
        have e : meets (stdA X tbl inv meas) st p (.list c l o) = (bif o.isSome && !isOwn st p then none else (asL (stdA X tbl inv meas) c p).map fun l' => [(stdA X tbl inv meas).eqL c l' l]) := by
          cases p <;> rfl
        rw [e] at h1
        rcases cond_some h1 with ⟨hb, h4⟩ | ⟨_, hb⟩
        · obtain ⟨l', hl, rfl⟩ := Option.map_eq_some_iff.1 h4
          refine ⟨l', hl, hx _ List.mem_cons_self, fun hs => ?_⟩
          rw [hs] at hb
          simpa using hb
        · cases hb
      obtain ⟨l', hl, rfl, hown⟩ := hm
      have rl := asL_sound r1 hl
      have rp := rl.plain ok2.plain hg hM' .list
      cases o with
      | none => exact rp
      | some b =>
        obtain ⟨j, s⟩ := b
        have hs0 : s = 0 := hT
        subst hs0
        have hown := hown rfl
        have hj : j < w'.n := hn j (by simp [ownIds])
        have hcur : ∀ cur, w'.owns j = some cur → 0 ≤ cur := fun _ _ => Nat.zero_le _
        rcases list_cases rp with ⟨rfl, rfl⟩ | ⟨nm, gn, off, cap, cs, e, gen, floor, frz, ex, rfl, hg', hf, hM2, hlen, hz, hcap, hcell, _⟩
        · exact .nlist ⟨hj, hcur, fun _ => trivial, fun _ => trivial⟩
        · refine .list hg' hf hM2 rfl hlen hz hcap hcell ⟨hj, hcur, fun _ => ?_, fun h => by cases h⟩
          cases p with
          | list c2 l2 o2 =>
            cases o2 with
            | none => simp [isOwn] at hown
            | some a =>
              obtain ⟨i, s2⟩ := a
              have hcl : c2 = c := by
                unfold asL at hl
                simp only at hl
                split at hl
                · assumption
                · cases hl
              subst hcl
              have hls : look st.owns i = some s2 := by
                simp only [isOwn] at hown
                split at hown
                · rename_i s3 hs3
                  rw [hs3, Nat.eq_of_beq_eq_true hown]
                · cases hown
              have hll : l2.length = l'.length := by
                unfold asL at hl
                simp only at hl
                split at hl
                · cases hl; rfl
                · cases hl
              have hclaim : OwnV w sz i c2 (.slice nm gn off l'.length (sz c2) cap) := by
                rcases list_cases r1 with ⟨_, hh⟩ | ⟨nm3, gn3, off3, cap3, cs3, e3, gen3, floor3, frz3, ex3, hh, _, _, _, _, _, _, _, ho3⟩
                · cases hh
                · rw [hh]; exact ho3.2.2.1 (by rw [R.owns]; exact hls)
              have heta : w'.eta j = w.eta i := he j i (by simp [ownPairs])
              simp only [OwnV] at hclaim ⊢
              rcases hclaim with hc | ⟨hc1, hc2, cs4, e4, floor4, frz4, ex4, hg4, hr4⟩
              · exact .inl hc
              · exact .inr ⟨hc1, by rw [heta]; exact hc2, cs4, e4, floor4, frz4, ex4, by rw [hg]; exact hg4, hr4.1, hr4.2.1, by rw [hce]; exact hr4.2.2⟩
          | nils => cases r1
          | _ => simp [isOwn] at hown
    | _ => cases p <;> simp [meets] at h1
theorem flatV_rep {ps : List (PV K)} {vs : List V} (r : RepL X sz w ps vs) : RepL X sz w (ps.flatMap P.cellsOf) (vs.flatMap V.cells) := by
  induction ps generalizing vs with
  | nil => rw [r.nil_iff]; exact .nil
  | cons p ps ih =>
    obtain ⟨v, vs', rfl, r1, r2⟩ := r.uncons
    exact r1.cells.append (ih r2)
theorem alike1_split {w' : Wd} {p r : PV K} {v : V} {cs : List (PV K)} {us : List V} (ha : alike1 p r = true) (rp : Rep X sz w p v) (h : RepL X sz w' (r.cellsOf ++ cs) (v.cells ++ us)) : Rep X sz w' r v ∧ RepL X sz w' cs us := by
  have sp : ∀ {a : List (PV K)} {b : List V}, a.length = b.length → RepL X sz w' (a ++ cs) (b ++ us) → RepL X sz w' a b ∧ RepL X sz w' cs us := by
    intro a b hl hr
    have h1 := hr.take a.length
    have h2 := hr.drop a.length
    rw [List.take_left' rfl] at h1
    rw [List.drop_left' rfl] at h2
    rw [hl, List.take_left' rfl] at h1
    rw [hl, List.drop_left' rfl] at h2
    exact ⟨h1, h2⟩
  cases p with
  | agg a =>
    obtain ⟨vs, rfl, rl⟩ := rp.agg_iff
    cases r with
    | agg b =>
      simp only [alike1] at ha
      have hl := Nat.eq_of_beq_eq_true ha
      obtain ⟨q1, q2⟩ := sp (a := b) (b := vs) (by rw [← hl, rl.1]) h
      exact ⟨.agg' q1, q2⟩
    | _ => simp [alike1] at ha
  | tuple a => cases r <;> simp [alike1] at ha
  | _ =>
    have hv := rp.cellsOf (by intro ps hh; cases hh)
    cases r with
    | agg b => simp [alike1] at ha
    | tuple b => simp [alike1] at ha
    | _ =>
      obtain ⟨q1, q2⟩ := sp (a := P.cellsOf _) (b := v.cells) (by rw [hv.2]; rfl) h
      rw [hv.2] at q1
      obtain ⟨u, us', he, e1, e2⟩ := RepL.uncons q1
      simp only [List.cons.injEq] at he
      obtain ⟨rfl, rfl⟩ := he
      exact ⟨e1, q2⟩
theorem alikes_rep {w' : Wd} : ∀ {ps rs : List (PV K)} {vs : List V}, alikes ps rs = true → RepL X sz w ps vs → RepL X sz w' (rs.flatMap P.cellsOf) (vs.flatMap V.cells) → RepL X sz w' rs vs
  | [], [], vs, _, r, _ => by rw [r.nil_iff]; exact .nil
  | [], _ :: _, vs, h, _, _ => by simp [alikes] at h
  | _ :: _, [], vs, h, _, _ => by simp [alikes] at h
  | p :: ps, q :: rs, vs, h, r, h2 => by
    obtain ⟨v, vs', rfl, r1, r2⟩ := r.uncons
    simp only [alikes, Bool.and_eq_true] at h
    rw [List.flatMap_cons, List.flatMap_cons] at h2
    obtain ⟨a1, a2⟩ := alike1_split h.1 r1 h2
    exact .cons a1 (alikes_rep h.2 r2 a2)
theorem flat_one' {p : PV K} (h : ∀ ps, p ≠ .tuple ps) : p.flat = p.cellsOf := by
  cases p with
  | tuple ps => exact absurd rfl (h ps)
  | _ => rfl
theorem shape_rep {w' : Wd} {p r : PV K} {v : V} (hs : shapeOk p r = true) (rp : Rep X sz w p v) (h : ∀ us, RepL X sz w p.flat us → RepL X sz w' r.flat us) : Rep X sz w' r v := by
  by_cases hp : ∃ ps, p = .tuple ps
  · obtain ⟨ps, rfl⟩ := hp
    obtain ⟨vs, rfl, rl⟩ := rp.tuple_iff
    by_cases hr : ∃ rs, r = .tuple rs
    · obtain ⟨rs, rfl⟩ := hr
      have hs' : alikes ps rs = true := hs
      exact .tuple' (alikes_rep hs' rl (h _ (flatV_rep rl)))
    · exfalso
      cases r with
      | tuple rs => exact hr ⟨rs, rfl⟩
      | _ => cases hs
  · by_cases hr : ∃ rs, r = .tuple rs
    · exfalso
      obtain ⟨rs, rfl⟩ := hr
      cases p with
      | tuple ps => exact hp ⟨ps, rfl⟩
      | _ => cases hs
    · have hs' : alike1 p r = true := by
        cases p with
        | tuple ps => exact absurd ⟨ps, rfl⟩ hp
        | _ => cases r with
          | tuple rs => exact absurd ⟨rs, rfl⟩ hr
          | _ => exact hs
      have h1 := h v.cells (by rw [flat_one' (fun ps he => hp ⟨ps, he⟩)]; exact rp.cells)
      rw [flat_one' (fun rs he => hr ⟨rs, he⟩)] at h1
      exact (alike1_split (cs := []) (us := []) hs' rp (by simpa using h1)).1
theorem fn_of_top (ok : CfgOk X sz C) (ok2 : CfgOk2 X C) (tok : TblOk X sz C tbl) (hq : Quiet3 C) {depth f : Nat} {args : List (PV K)} {r : PV K} (hpl : ∀ p ∈ args, Plain p) (hT : ∀ p ∈ r.flat, RT p) (h : wpTop (stdA X tbl inv meas) C depth f args r) : FnOk X sz C f args r := by
  intro H M vs S ra
  unfold wpTop at h
  have hle1 : Le (wd0 H M C.codec) { wd0 H M C.codec with n := 1 } := Le.ext (w := wd0 H M C.codec) (m := 1) (nu' := fun _ => false) (Nat.zero_le _) (fun _ _ => rfl)
  have ra1 := ra.mono ok.len hle1
  obtain ⟨nu', g1, g2, g3⟩ := freshD_sound ok.len ra1 (Nat.le_refl 1)
  let w0 : Wd := { wd0 H M C.codec with n := (freshD args 1).2, nu := nu' }
  have hle0 : Le (wd0 H M C.codec) w0 := Le.ext (w := wd0 H M C.codec) (Nat.zero_le _) (fun id hi => by have : id < 0 := hi; omega)
  have R0 : RelH X sz C H { tmps := .nil, n := 0, cells := [], owns := [], next := (freshD args 1).2, known := [] } H w0 := by
    refine ⟨S.wf, S.ro, rfl, rfl, rfl, S.Mlt, rfl, g2, .refl H, fun _ hc => False.elim hc, fun _ _ hc => False.elim hc, fun id ps hl => (by cases hl), fun _ => rfl, fun i s hl => (by cases hl), fun i s nm hl => (by cases hl), fun i j s s' nm hl => (by cases hl), rfl, fun id b hl => (by cases hl), fun gn ps hg => ?_⟩
    obtain ⟨q0, vs', e', fl, fz, ex', q1, q2, q3⟩ := S.globs gn ps hg
    exact ⟨q0, vs', e', fl, fz, ex', q1, q2, q3.mono ok.len hle0⟩
  refine (wpBody_sound ok ok2 tok hq (wpInl_ok ok ok2 tok hq depth) h R0 g3).mono fun v H' hA => ?_
  obtain ⟨p, st', w', hk, _, _, R, hle, rp⟩ := hA
  unfold ends at hk
  obtain ⟨hb, hk⟩ := cond_prop hk
  simp only [Bool.and_eq_true] at hb
  split at hk
  · rename_i l hl
    obtain ⟨hobs, _⟩ := ands_inv hk
    let pairs := ownPairs p.flat r.flat
    have hnd : (pairs.map (·.1)).Nodup := (distinct_nodup hb.2).sublist ownPairs_fst
    have hnd2 : (pairs.map (·.2)).Nodup := by rw [ownPairs_snd]; exact distinct_nodup hb.1.2
    let w2 : Wd := { g := H'.get, M := fun n => if n < H.next then M n else w'.M n, c := fun _ => 0, nu := fun _ => false, n := idsMax (ownIds r.flat), owns := fun _ => some 0, eta := fun j => (look pairs j).bind w'.eta, ce := C.codec, cl := fun _ => False, nx := H'.next, b := H.next, lp := fun _ => none, fl := 0 }
    have heta : ∀ j i, (j, i) ∈ pairs → w2.eta j = w'.eta i := by
      intro j i hm
      show (look pairs j).bind w'.eta = _
      rw [look_of_mem hnd hm]
      rfl
    have hinv : ∀ j nm, w2.eta j = some nm → ∃ i, (j, i) ∈ pairs ∧ w'.eta i = some nm := by
      intro j nm he
      obtain ⟨i, h1, h2⟩ := Option.bind_eq_some_iff.1 he
      exact ⟨i, look_mem h1, h2⟩
    have hold := R.keeps
    refine ⟨w2, R.keeps, R.wf, rfl, fun n hn => ?_, fun n hn => ?_, rfl, rfl, fun _ => rfl, fun j nm he => ?_, fun j1 j2 nm e1 e2 => ?_, ?_⟩
    · show (if n < H.next then M n else w'.M n) ↔ M n
      rw [if_pos hn]
    · have hn' : (if n < H.next then M n else w'.M n) := hn
      split at hn'
      · rename_i hlt; exact Nat.lt_of_lt_of_le hlt R.keeps.next
      · exact R.Mlt n hn'
    · obtain ⟨i, h1, h2⟩ := hinv j nm he
      obtain ⟨s, hs⟩ := ownPairs_own hl j i h1
      obtain ⟨b1, b2, b3⟩ := R.eta i s nm hs h2
      refine ⟨b1, b2, ?_⟩
      show ¬ (if nm < H.next then M nm else w'.M nm)
      rw [if_neg (by omega)]
      exact b3
    · obtain ⟨i1, a1, b1⟩ := hinv j1 nm e1
      obtain ⟨i2, a2, b2⟩ := hinv j2 nm e2
      obtain ⟨s1, hs1⟩ := ownPairs_own hl j1 i1 a1
      obtain ⟨s2, hs2⟩ := ownPairs_own hl j2 i2 a2
      have := R.einj i1 i2 s1 s2 nm hs1 hs2 b1 b2
      subst this
      have key : ∀ (l : List (Nat × Nat)), (l.map (·.2)).Nodup → (j1, i1) ∈ l → (j2, i1) ∈ l → j1 = j2 := by
        intro l
        induction l with
        | nil => intro _ h; cases h
        | cons x l ih =>
          intro hn h1 h2
          simp only [List.map_cons, List.nodup_cons] at hn
          rcases List.mem_cons.1 h1 with h1 | h1 <;> rcases List.mem_cons.1 h2 with h2 | h2
          · rw [← h1] at h2; cases h2; rfl
          · exact absurd (List.mem_map.2 ⟨_, h2, by rw [← h1]⟩) hn.1
          · exact absurd (List.mem_map.2 ⟨_, h1, by rw [← h2]⟩) hn.1
          · exact ih hn.2 h1 h2
      exact key pairs hnd2 a1 a2
    · refine shape_rep hb.1.1 rp fun us hus => ?_
      exact meetsL_sound ok2 R (w' := w2) R.g.symm (fun nm x _ hm => by
        show ¬ (if nm < H.next then M nm else w'.M nm)
        split
        · rename_i hlt; exact fun h0 => hm (hle.Mu nm hlt h0)
        · exact hm) R.ce.symm (fun _ => rfl) hl hobs hus hT heta (fun j hj => (idsMax_le _ 0).2 j hj)
  · exact absurd hk id
end
end Go.E3
/- E3: TOOLS for claims: tables by lists, list elements of a claim's own types. -/
namespace Go.E3
open Go Go.E2
variable {K : Nat → Type}
def annOf : List (Nat × Nat × Ann) → Nat → Nat → Option Ann
  | [], _, _ => none
  | (f, p, a) :: l, g, q => bif Nat.beq f g && Nat.beq p q then some a else annOf l g q
abbrev Ct (K : Nat → Type) := List Sh × (List (NV K) → Option (Prop × PV K))
def tblOf : List (Nat × Ct K) → Tbl K
  | [], _ => none
  | (f, c) :: l, g => bif Nat.beq f g then some c else tblOf l g
section
variable {X : Codecs K} {sz : Nat → Nat} {C : Cfg Int Bool (List UInt8) Prop (fun c => List (K c))}
def CtOk (X : Codecs K) (sz : Nat → Nat) (C : Cfg Int Bool (List UInt8) Prop (fun c => List (K c))) (f : Nat) (c : Ct K) : Prop :=
  ∀ ns pre r, c.2 ns = some (pre, r) → pre → ∃ args, canonS c.1 ns = some args ∧ FnOk X sz C f args r ∧ Form r
theorem tblOk_nil : TblOk X sz C (tblOf []) := fun f shs res ns pre r h => by cases h
theorem tblOk_cons {f : Nat} {c : Ct K} {l : List (Nat × Ct K)} (h : CtOk X sz C f c) (hl : TblOk X sz C (tblOf l)) : TblOk X sz C (tblOf ((f, c) :: l)) := by
  intro g shs res ns pre r h1 h2 h3
  simp only [tblOf, cond_eq_ite, Nat.beq_eq] at h1
  split at h1
  · rename_i hf
    subst hf
    cases h1
    exact h ns pre r h2 h3
  · exact hl g shs res ns pre r h1 h2 h3
theorem CfgOk.ann (h : CfgOk X sz C) (a : Nat → Nat → Option Ann) : CfgOk X sz { C with ann := a } := ⟨h.len, h.pos, h.size, h.inj, h.one, h.u8, h.pack⟩
theorem CfgOk2.ann (h : CfgOk2 X C) (a : Nat → Nat → Option Ann) : CfgOk2 X { C with ann := a } := ⟨h.plain, h.glob⟩
theorem FnOk.ann {f : Nat} {args : List (PV K)} {r : PV K} (h : FnOk X sz C f args r) (a : Nat → Nat → Option Ann) : FnOk X sz { C with ann := a } f args r := by
  intro H M vs S ra
  refine (h H M vs ⟨S.wf, S.ro, S.Mlt, S.globs⟩ ra).mono fun v H' hA => ?_
  obtain ⟨w', b⟩ := hA
  exact ⟨w', b.keeps, b.wf, b.g, b.M, b.Mlt, b.ce, b.n, b.owns, b.eta, b.einj, b.rep⟩
theorem FnOk.unann {f : Nat} {args : List (PV K)} {r : PV K} {a : Nat → Nat → Option Ann} (h : FnOk X sz { C with ann := a } f args r) : FnOk X sz C f args r := by
  intro H M vs S ra
  refine (h H M vs ⟨S.wf, S.ro, S.Mlt, S.globs⟩ ra).mono fun v H' hA => ?_
  obtain ⟨w', b⟩ := hA
  exact ⟨w', b.keeps, b.wf, b.g, b.M, b.Mlt, b.ce, b.n, b.owns, b.eta, b.einj, b.rep⟩
theorem fn_ok (ok : CfgOk X sz C) (ok2 : CfgOk2 X C) {l : List (Nat × Ct K)} (tok : TblOk X sz C (tblOf l)) (hq : Quiet3 C) {inv : Nat → List (NV K) → Prop} {meas : Nat → List (NV K) → Nat} {ann : List (Nat × Nat × Ann)} {depth f : Nat} {args : List (PV K)} {r : PV K} {VC : Prop}
    (hpl : ∀ p ∈ args, Plain p) (hT : ∀ p ∈ r.flat, RT p) (hvc : wpTop (stdA X (tblOf l) inv meas) { C with ann := annOf ann } depth f args r = VC) (h : VC) : FnOk X sz C f args r :=
  fn_of_top (C := { C with ann := annOf ann }) (tbl := tblOf l) (inv := inv) (meas := meas) (ok.ann _) (ok2.ann _) (fun f shs res ns pre r h1 h2 h3 => by
    obtain ⟨as, e1, e2, e3⟩ := tok f shs res ns pre r h1 h2 h3
    exact ⟨as, e1, e2.ann _, e3⟩) hq hpl hT (hvc.symm ▸ h) |>.unann
def plain1 : PV K → Bool
  | .int .. | .lit _ | .str _ | .nils | .nilp | .nilf | .nili => true
  | .sb 0 _ _ _ _ => true
  | .list _ _ none => true
  | .func _ [] [] => true
  | _ => false
def plainB : PV K → Bool
  | .agg ps => ps.all plain1
  | p => plain1 p
theorem plain1_ok {p : PV K} (h : plain1 p = true) : Plain p := by
  unfold plain1 at h
  split at h <;> first | (cases h; done) | constructor
theorem plainB_ok {p : PV K} (h : plainB p = true) : Plain p := by
  unfold plainB at h
  split at h
  · exact .agg fun p hp => plain1_ok (List.all_eq_true.1 h p hp)
  · exact plain1_ok h
theorem plains_ok {ps : List (PV K)} (h : ps.all plainB = true) : ∀ p ∈ ps, Plain p := fun p hp => plainB_ok (List.all_eq_true.1 h p hp)
def simpleB : PV K → Bool
  | .int .. | .lit _ | .str _ => true
  | .sb 0 _ _ _ _ => true
  | .list _ _ none => true
  | .list _ _ (some (_, 0)) => true
  | _ => false
def form1B : PV K → Bool
  | .agg ps => ps.all simpleB
  | p => simpleB p
def formB : PV K → Bool
  | .tuple l => l.all form1B
  | p => form1B p
theorem simpleB_ok {p : PV K} (h : simpleB p = true) : Simple p := by
  unfold simpleB at h
  split at h <;> first | (cases h; done) | constructor
theorem form1B_ok {p : PV K} (h : form1B p = true) : Form1 p := by
  unfold form1B at h
  split at h
  · exact .agg fun p hp => simpleB_ok (List.all_eq_true.1 h p hp)
  · exact .one (simpleB_ok h)
theorem formB_ok {p : PV K} (h : formB p = true) : Form p := by
  unfold formB at h
  split at h
  · exact .tuple fun p hp => form1B_ok (List.all_eq_true.1 h p hp)
  · exact .one (form1B_ok h)
def getI (k : IntKind) : PV K → Option Int
  | .int k' _ n => if k = k' then some n else none
  | _ => none
def getB : PV K → Option Bool
  | .lit b => some b
  | .sb _ _ b _ _ => some b
  | _ => none
def getS : PV K → Option (List UInt8)
  | .str s => some s
  | _ => none
def getL (c : Nat) : PV K → Option (List (K c))
  | .nils => some []
  | .list c' l _ => if h : c' = c then some (h ▸ l) else none
  | _ => none
variable {w : Wd}
theorem getI_rep {k : IntKind} {p : PV K} {n : Int} {v : V} (h : getI k p = some n) (r : Rep X sz w p v) : Rep X sz w (.int k none n) v := by
  unfold getI at h
  split at h
  · split at h
    · rename_i hk; subst hk; cases h; cases r; exact .int fun m hm => by cases hm
    · cases h
  · cases h
theorem getB_rep {p : PV K} {b : Bool} {v : V} (h : getB p = some b) (r : Rep X sz w p v) : Rep X sz w (.sb 0 false b (b = true) (b = false)) v := by
  unfold getB at h
  split at h
  · cases h; cases r; exact .sb .rfl .rfl fun h0 => absurd rfl h0
  · cases h; cases r; exact .sb .rfl .rfl fun h0 => absurd rfl h0
  · cases h
theorem getS_rep {p : PV K} {s : List UInt8} {v : V} (h : getS p = some s) (r : Rep X sz w p v) : Rep X sz w (.str s) v := by
  unfold getS at h
  split at h
  · cases h; exact r
  · cases h
theorem getL_rep (tbl : Tbl K) (inv : Nat → List (NV K) → Prop) (meas : Nat → List (NV K) → Nat) {c : Nat} {p : PV K} {l : List (K c)} {v : V} (h : getL c p = some l) (r : Rep X sz w p v) : Rep X sz w (.list c l none) v := by
  have : asL (stdA X tbl inv meas) c p = some l := by
    cases p <;> exact h
  exact asL_sound r this
theorem getL_rep' {c : Nat} {p : PV K} {l : List (K c)} {v : V} (h : getL c p = some l) (r : Rep X sz w p v) : Rep X sz w (.list c l none) v := getL_rep (fun _ => none) (fun _ _ => True) (fun _ _ => 0) h r
theorem rep_cons {p q : PV K} {ps qs : List (PV K)} {vs : List V} (h : ∀ v, Rep X sz w p v → Rep X sz w q v) (hl : ∀ us, RepL X sz w ps us → RepL X sz w qs us) (r : RepL X sz w (p :: ps) vs) : RepL X sz w (q :: qs) vs := by
  obtain ⟨v, vs', rfl, r1, r2⟩ := r.uncons
  exact .cons (h v r1) (hl vs' r2)
end
end Go.E3
/- E3: FUNCTIONS WITHOUT A BODY as contracts. -/
namespace Go.E3
open Go Go.E2
variable {K : Nat → Type}
def idxB (s : List UInt8) (c : Int) : Int := match s.findIdx? (fun b => b == c.toNat.toUInt8) with | some i => (i : Int) | none => -1
def cntB (s : List UInt8) (c : Int) : Int := ((s.countP (fun b => b == c.toNat.toUInt8) : Nat) : Int)
section
variable {X : Codecs K} {sz : Nat → Nat} {C : Cfg Int Bool (List UInt8) Prop (fun c => List (K c))}
theorem fn_ext (ok2 : CfgOk2 X C) (hq : Quiet3 C) {f : Nat} {fi : FI} {args : List (PV K)} {r : PV K} (hans : C.ans f = false) (hf : C.E.funcs f = some fi) (hb : fi.body = none) (hp : Plain r) (hr : ownIds r.flat = [])
    (h : ∀ H M vs, Start X sz C H M → RepL X sz (wd0 H M C.codec) args vs → ∃ v, extV fi.ext vs = some v ∧ Rep X sz (wd0 H M C.codec) r v) : FnOk X sz C f args r := by
  intro H M vs S ra
  obtain ⟨v, hv, rv⟩ := h H M vs S ra
  let w' : Wd := { wd0 H M C.codec with owns := fun _ => some 0 }
  have rv' : Rep X sz w' r v := Rep.plain (w := wd0 H M C.codec) (w' := w') ok2.plain rfl (fun _ _ _ h => h) rv hp
  refine callW_ext (hq.1 f hans) hf hb hv ⟨w', ?_⟩
  refine ⟨.refl H, S.wf, rfl, fun n _ => .rfl, S.Mlt, rfl, ?_, fun _ => rfl, fun i nm he => (by cases he), fun i j nm he => (by cases he), rv'⟩
  rw [hr]
  rfl
theorem fn_const (ok2 : CfgOk2 X C) {f : Nat} {r : PV K} {v : V} (hp : Plain r) (hr : ownIds r.flat = []) (h : ∀ H, H.glob = C.ng → (∀ gn o, C.gobj gn = some o → H.get gn = some o ∧ gn < H.next) → CallW C.E (.func f) [] H fun u H' => u = v ∧ H' = H) (hv : ∀ H M, Rep X sz (wd0 H M C.codec) r v) : FnOk X sz C f [] r := by
  intro H M vs S ra
  have := ra.nil_iff; subst this
  refine (h H S.ro.2.1 S.ro.2.2).mono fun u H' hA => ?_
  obtain ⟨rfl, rfl⟩ := hA
  let w' : Wd := { wd0 H' M C.codec with owns := fun _ => some 0 }
  have rv' : Rep X sz w' r u := Rep.plain (w := wd0 H' M C.codec) (w' := w') ok2.plain rfl (fun _ _ _ h => h) (hv H' M) hp
  refine ⟨w', ?_⟩
  refine ⟨.refl H', S.wf, rfl, fun n _ => .rfl, S.Mlt, rfl, ?_, fun _ => rfl, fun i nm he => (by cases he), fun i j nm he => (by cases he), rv'⟩
  rw [hr]
  rfl
theorem index_ok (ok2 : CfgOk2 X C) (hq : Quiet3 C) {f : Nat} {fi : FI} (hans : C.ans f = false) (hf : C.E.funcs f = some fi) (hb : fi.body = none) (he : fi.ext = 1) (s : List UInt8) (c : Int) :
    FnOk X sz C f [.str s, .int .u8 none c] (.int .i64 none (idxB s c)) := by
  refine fn_ext ok2 hq hans hf hb .int rfl fun H M vs S ra => ?_
  obtain ⟨v, vs', rfl, r1, r2⟩ := ra.uncons
  obtain ⟨u, vs'', rfl, r3, r4⟩ := r2.uncons
  have := r4.nil_iff; subst this
  cases r1; cases r3
  exact ⟨.int .i64 (idxB s c), by rw [he]; rfl, .int fun m hm => by cases hm⟩
theorem count_ok (ok2 : CfgOk2 X C) (hq : Quiet3 C) {f : Nat} {fi : FI} (hans : C.ans f = false) (hf : C.E.funcs f = some fi) (hb : fi.body = none) (he : fi.ext = 2) (s : List UInt8) (c : Int) :
    FnOk X sz C f [.str s, .int .u8 none c] (.int .i64 none (cntB s c)) := by
  refine fn_ext ok2 hq hans hf hb .int rfl fun H M vs S ra => ?_
  obtain ⟨v, vs', rfl, r1, r2⟩ := ra.uncons
  obtain ⟨u, vs'', rfl, r3, r4⟩ := r2.uncons
  have := r4.nil_iff; subst this
  cases r1; cases r3
  exact ⟨.int .i64 (cntB s c), by rw [he]; rfl, .int fun m hm => by cases hm⟩
theorem ext_info {f e : Nat} (h : (C.E.funcs f).map (fun fi => (fi.body.isNone, fi.ext)) = some (true, e)) : ∃ fi, C.E.funcs f = some fi ∧ fi.body = none ∧ fi.ext = e := by
  obtain ⟨fi, h1, h2⟩ := Option.map_eq_some_iff.1 h
  simp only [Prod.mk.injEq, Option.isNone_iff_eq_none] at h2
  exact ⟨fi, h1, h2.1, h2.2⟩
theorem index_ok' (ok2 : CfgOk2 X C) (hq : Quiet3 C) {f : Nat} (hans : C.ans f = false) (hf : (C.E.funcs f).map (fun fi => (fi.body.isNone, fi.ext)) = some (true, 1)) (s : List UInt8) (c : Int) :
    FnOk X sz C f [.str s, .int .u8 none c] (.int .i64 none (idxB s c)) := by
  obtain ⟨fi, h1, h2, h3⟩ := ext_info hf
  exact index_ok ok2 hq hans h1 h2 h3 s c
theorem count_ok' (ok2 : CfgOk2 X C) (hq : Quiet3 C) {f : Nat} (hans : C.ans f = false) (hf : (C.E.funcs f).map (fun fi => (fi.body.isNone, fi.ext)) = some (true, 2)) (s : List UInt8) (c : Int) :
    FnOk X sz C f [.str s, .int .u8 none c] (.int .i64 none (cntB s c)) := by
  obtain ⟨fi, h1, h2, h3⟩ := ext_info hf
  exact count_ok ok2 hq hans h1 h2 h3 s c
end
end Go.E3
/- E3: ARGUMENTS THAT LIE IN MEMORY: slices whose elements are numbers, conditions, texts, structs of such. -/
namespace Go.E3
open Go Go.E2
variable {K : Nat → Type}
def absW : Value → V
  | .int k n => .int k n
  | .bool b => .bool b
  | .string s => .str s.data.toList
  | _ => .tuple [.map 0]
theorem absW_rel (G : Ghost) (W : World) (x : Value) : isHole (absW x) = true ∨ Go.E2.Rel G W (absW x) x := by
  cases x with
  | int k n => right; simp [absW, Go.E2.Rel]
  | bool b => right; simp [absW, Go.E2.Rel]
  | string s => right; simp [absW, Go.E2.Rel]
  | _ => exact .inl rfl
theorem relC_map (G : Ghost) (W : World) : ∀ l : List Value, RelC G W (l.map absW) l
  | [] => by simp [RelC]
  | x :: l => by
    simp only [List.map_cons, RelC]
    exact ⟨x, l, rfl, absW_rel G W x, relC_map G W l⟩
def objW (W : World) (b : Nat) : Option (Nat × O) :=
  match W.heap[b]? with
  | some (.cells arr e fz) => some (b, .row (arr.toList.map absW) e 0 0 fz.2 false)
  | _ => none
def objsW (W : World) : List (Nat × O) := (List.range W.heap.size).filterMap (objW W)
theorem objW_some {W : World} {b : Nat} {x : Nat × O} (h : objW W b = some x) : ∃ arr e fz, W.heap[b]? = some (.cells arr e fz) ∧ x = (b, .row (arr.toList.map absW) e 0 0 fz.2 false) := by
  unfold objW at h
  split at h
  · rename_i arr e fz hb
    exact ⟨arr, e, fz, hb, (Option.some.inj h).symm⟩
  · cases h
theorem objsW_mem {W : World} {b : Nat} {o : O} (h : (b, o) ∈ objsW W) : ∃ arr e fz, W.heap[b]? = some (.cells arr e fz) ∧ o = .row (arr.toList.map absW) e 0 0 fz.2 false := by
  obtain ⟨b', _, h2⟩ := List.mem_filterMap.1 h
  obtain ⟨arr, e, fz, h3, h4⟩ := objW_some h2
  cases h4
  exact ⟨arr, e, fz, h3, rfl⟩
def heapW (W : World) (ng : Nat) : Heap := { objs := treeOf (objsW W), next := W.heap.size, ro := W.heap.size, glob := ng }
theorem heapW_get {W : World} {ng b : Nat} {arr : Array Value} {e : TypeId} {fz : Nat × Nat} (h : W.heap[b]? = some (.cells arr e fz)) : (heapW W ng).get b = some (.row (arr.toList.map absW) e 0 0 fz.2 false) := by
  have hm : (b, O.row (arr.toList.map absW) e 0 0 fz.2 false) ∈ objsW W := by
    refine List.mem_filterMap.2 ⟨b, List.mem_range.2 (lt_of_heap h), ?_⟩
    unfold objW
    rw [h]
  obtain ⟨o, ho⟩ := get_treeOf_mem hm
  obtain ⟨arr', e', fz', h', rfl⟩ := objsW_mem (get_treeOf _ _ _ ho)
  rw [h] at h'
  cases h'
  exact ho
theorem heapW_some {W : World} {ng b : Nat} {o : O} (h : (heapW W ng).get b = some o) : ∃ arr e fz, W.heap[b]? = some (.cells arr e fz) ∧ o = .row (arr.toList.map absW) e 0 0 fz.2 false :=
  objsW_mem (get_treeOf _ _ _ h)
def ghostW (W : World) : Ghost := fun nm g => if g = 0 then (match W.heap[nm]? with
  | some (.cells arr _ _) => some (nm, 0, arr.size)
  | _ => none) else none
theorem ghostW_some {W : World} {nm g : Nat} {x : Nat × Nat × Nat} (h : ghostW W nm g = some x) : g = 0 ∧ ∃ arr e fz, W.heap[nm]? = some (.cells arr e fz) ∧ x = (nm, 0, arr.size) := by
  unfold ghostW at h
  split at h
  · rename_i hg
    split at h
    · rename_i arr e fz hb
      exact ⟨hg, arr, e, fz, hb, (Option.some.inj h).symm⟩
    · cases h
  · cases h
theorem ghostW_of {W : World} {b : Nat} {arr : Array Value} {e : TypeId} {fz : Nat × Nat} (h : W.heap[b]? = some (.cells arr e fz)) : ghostW W b 0 = some (b, 0, arr.size) := by
  unfold ghostW
  rw [if_pos rfl, h]
theorem simW {W : World} {ng : Nat} (hng : ng ≤ W.heap.size) : Sim (heapW W ng) (ghostW W) W := by
  refine ⟨fun nm g b sh n h => ?_, fun nm g b sh n nm' g' sh' n' h h' => ?_, fun nm o _ ho => ?_, Nat.le_refl _, hng, fun g o _ ho => ?_⟩
  · obtain ⟨_, arr, e, fz, hb, hx⟩ := ghostW_some h
    cases hx
    exact ⟨lt_of_heap hb, lt_of_heap hb⟩
  · obtain ⟨_, _, _, _, _, hx⟩ := ghostW_some h
    obtain ⟨_, _, _, _, _, hx'⟩ := ghostW_some h'
    cases hx
    cases hx'
    exact ⟨rfl, rfl⟩
  · obtain ⟨arr, e, fz, hb, rfl⟩ := heapW_some ho
    refine ⟨Nat.le_refl _, fun h => (by cases h), fun g b sh n hg => ?_⟩
    obtain ⟨rfl, arr', e', fz', hb', hx⟩ := ghostW_some hg
    rw [hb] at hb'
    cases hb'
    cases hx
    refine ⟨Nat.le_refl _, Nat.zero_le _, by simp, fun _ => by simp, fun h => (by cases h), fun _ => ⟨arr, fz, hb, by simp, ?_, fun _ i h1 h2 => by omega, fun h => (by cases h)⟩⟩
    rw [List.drop_zero, Nat.sub_zero, List.take_of_length_le (by simp), List.take_of_length_le (by simp)]
    exact relC_map _ _ _
  · obtain ⟨arr, e, fz, hb, _⟩ := heapW_some ho
    exact ⟨_, ghostW_of hb⟩
theorem extW_same {W w' : World} {G' : Ghost} (h : Ext W.heap.size (ghostW W) W G' w') : ∀ b, b < W.heap.size → w'.heap[b]? = W.heap[b]? := by
  intro b hb
  cases hc : ghostW W b 0 with
  | some x =>
    obtain ⟨_, arr, e, fz, _, rfl⟩ := ghostW_some hc
    exact h.ro b 0 b 0 _ hb hc
  | none =>
    refine (h.frg b hb fun nm g sh n hg => ?_).1
    obtain ⟨rfl, arr, e, fz, hb', hx⟩ := ghostW_some hg
    cases hx
    rw [ghostW_of hb'] at hc
    cases hc
inductive Leaf4 where
  | int (k : IntKind)
  | bool
  | str
  | list (c : Nat)
def Leaf4.flat : Leaf4 → Bool
  | .list _ => false
  | _ => true
def tileFs (P : Program) (g : TypeId → Option (List Leaf4)) : List Field → Nat → Option (List Leaf4)
  | [], _ => some []
  | f :: fs, off => (g f.type).bind fun l => bif Nat.beq f.offset off && Nat.beq l.length (P.cellsOf f.type) then (tileFs P g fs (off + l.length)).map fun r => l ++ r else none
def tileT (P : Program) (cd : TypeId → Option Nat) : Nat → TypeId → Option (List Leaf4)
  | 0, _ => none
  | d + 1, t => match P.underlying t with
    | some (.int k) => some [.int k]
    | some .bool => some [.bool]
    | some .string => some [.str]
    | some (.slice e) => (cd e).map fun c => [.list c]
    | some (.struct fs) => (tileFs P (tileT P cd d) fs.toList 0).bind fun l => bif Nat.beq l.length (P.cellsOf t) then some l else none
    | _ => none
section
variable {Hd : Type} {enc : TypeId × Value → Hd} {P : Program} {W : World} {cd : TypeId → Option Nat}
def LeafRead (enc : TypeId × Value → Hd) (P : Program) (W : World) (cd : TypeId → Option Nat) : Leaf4 → Value → Prop
  | .int k, x => ∃ n, x = .int k n ∧ (Lit.int k n).wf = true
  | .bool, x => ∃ b, x = .bool b
  | .str, x => ∃ s, x = .string s ∧ s.size ≤ maxLen
  | .list c, x => x = .slice none 0 0 ∨ ∃ e a len cap, cd e = some c ∧ x = .slice (some a) len cap ∧ len ≤ cap ∧ cap ≤ maxLen ∧
      ∀ i, i < cap → ∃ cs m r, W.cells? 0 (a.add (i * P.cellsOf e)) (P.cellsOf e) = some cs ∧ DataW.trod enc P W 0 (fun _ => true) true m e cs = some r
theorem tileFs_read {Q : Leaf4 → Value → Prop} {cs : List Value} {g : TypeId → Option (List Leaf4)} : ∀ {fs : List Field} {off : Nat} {ls : List Leaf4}, tileFs P g fs off = some ls →
    (∀ f ∈ fs, ∀ l, g f.type = some l → l.length = P.cellsOf f.type → ∀ (i : Nat) leaf x, l[i]? = some leaf → ((cs.drop f.offset).take (P.cellsOf f.type))[i]? = some x → Q leaf x) →
    ∀ (i : Nat) leaf x, ls[i]? = some leaf → cs[off + i]? = some x → Q leaf x
  | [], off, ls, h, _, i, leaf, x, hl, _ => by
    simp only [tileFs, Option.some.injEq] at h
    subst h
    simp at hl
  | f :: fs, off, ls, h, hR, i, leaf, x, hl, hx => by
    simp only [tileFs] at h
    obtain ⟨l, h1, h2⟩ := Option.bind_eq_some_iff.1 h
    rcases cond_some h2 with ⟨_, h3⟩ | ⟨h3, h4⟩
    · cases h3
    · simp only [Bool.and_eq_true, Nat.beq_eq] at h3
      obtain ⟨rfl, hlen⟩ := h3
      obtain ⟨r, h5, rfl⟩ := Option.map_eq_some_iff.1 h4
      by_cases hi : i < l.length
      · rw [List.getElem?_append_left hi] at hl
        refine hR f List.mem_cons_self l h1 hlen i leaf x hl ?_
        rw [List.getElem?_take_of_lt (by omega), List.getElem?_drop]
        exact hx
      · rw [List.getElem?_append_right (by omega)] at hl
        refine tileFs_read h5 (fun f' hf' => hR f' (List.mem_cons_of_mem _ hf')) (i - l.length) leaf x hl ?_
        rw [show f.offset + l.length + (i - l.length) = f.offset + i by omega]
        exact hx
theorem trod_tile : ∀ (d : Nat) {n : Nat} {t : TypeId} {cs : List Value} {r : DataW Hd × List MemPlace} {ls : List Leaf4}, DataW.trod enc P W 0 (fun _ => true) true n t cs = some r → tileT P cd d t = some ls →
    cs.length = ls.length ∧ ∀ (i : Nat) leaf x, ls[i]? = some leaf → cs[i]? = some x → LeafRead enc P W cd leaf x
  | 0, n, t, cs, r, ls, h, ht => by cases ht
  | d + 1, n, t, cs, r, ls, h, ht => by
    have one : ∀ {leaf : Leaf4} {x : Value}, LeafRead enc P W cd leaf x → [x].length = [leaf].length ∧ ∀ (i : Nat) l y, [leaf][i]? = some l → [x][i]? = some y → LeafRead enc P W cd l y := by
      intro leaf x hr
      refine ⟨rfl, fun i l y h1 h2 => ?_⟩
      cases i with
      | zero => simp only [List.getElem?_cons_zero, Option.some.injEq] at h1 h2; subst h1; subst h2; exact hr
      | succ i => simp at h1
    simp only [tileT] at ht
    split at ht
    · rename_i k hu
      cases ht
      obtain ⟨m, rfl, _, hw⟩ := DataW.trod_int hu h
      exact one ⟨m, rfl, hw⟩
    · rename_i hu
      cases ht
      obtain ⟨b, rfl, _⟩ := DataW.trod_bool hu h
      exact one ⟨b, rfl⟩
    · rename_i hu
      cases ht
      obtain ⟨s, rfl, _, hs⟩ := DataW.trod_string hu h
      exact one ⟨s, rfl, hs⟩
    · rename_i e hu
      obtain ⟨c, hc, rfl⟩ := Option.map_eq_some_iff.1 ht
      rcases DataW.trod_slice hu h with ⟨rfl, _⟩ | ⟨a, len, cap, elems, rest, m, _, rfl, _, _, hl, hm, hel, he1, he2, _⟩
      · exact one (.inl rfl)
      · refine one (.inr ⟨e, a, len, cap, hc, rfl, hl, hm, fun i hi => ?_⟩)
        obtain ⟨hr1, hr2⟩ := he2 rfl
        by_cases hil : i < len
        · have := he1 i hil
          rw [List.getElem?_eq_getElem (by omega)] at this
          obtain ⟨cs', h1, h2⟩ := Option.bind_eq_some_iff.1 this
          exact ⟨cs', m, _, h1, h2⟩
        · have := hr2 (i - len) (by omega)
          rw [List.getElem?_eq_getElem (by omega), show len + (i - len) = i by omega] at this
          obtain ⟨cs', h1, h2⟩ := Option.bind_eq_some_iff.1 this
          exact ⟨cs', m, _, h1, h2⟩
    · rename_i fs hu
      obtain ⟨l, h1, h2⟩ := Option.bind_eq_some_iff.1 ht
      rcases cond_some h2 with ⟨_, h3⟩ | ⟨h3, h4⟩
      · cases h3
      · cases h4
        have hlen := Nat.eq_of_beq_eq_true h3
        obtain ⟨xs, m, _, _, hl, hxs, hf⟩ := DataW.trod_struct hu h
        refine ⟨by omega, fun i leaf x hi hx => ?_⟩
        refine tileFs_read (Q := LeafRead enc P W cd) (off := 0) h1 (fun f hfm l' hg hgl j lf y hj hy => ?_) i leaf x hi (by simpa using hx)
        obtain ⟨q, hq, rfl⟩ := List.mem_iff_getElem.1 hfm
        have h5 := hf q fs.toList[q] (by simp at hq ⊢)
        rw [List.getElem?_eq_getElem (by simp at hq; omega)] at h5
        exact (trod_tile d h5 hg).2 j lf y hj hy
    · cases ht
def LeafN (good : ∀ c, K c → Prop) : Leaf4 → PV K → Prop
  | .int k, p => ∃ n, p = .int k none n ∧ k.min ≤ n ∧ n ≤ k.max
  | .bool, p => ∃ b, p = .sb 0 false b (b = true) (b = false)
  | .str, p => ∃ s : List UInt8, p = .str s ∧ s.length ≤ maxLen
  | .list c, p => ∃ l : List (K c), p = .list c l none ∧ l.length ≤ maxLen ∧ ∀ x ∈ l, good c x
def LeavesN (good : ∀ c, K c → Prop) : List Leaf4 → List (PV K) → Prop
  | [], ps => ps = []
  | l :: ls, ps => ∃ p qs, ps = p :: qs ∧ LeafN good l p ∧ LeavesN good ls qs
variable {good : ∀ c, K c → Prop}
variable {X : Codecs K} {sz : Nat → Nat} {w : Wd}
theorem leaf_flat {leaf : Leaf4} {x : Value} (hf : leaf.flat = true) (h : LeafRead enc P W cd leaf x) : ∃ p : PV K, LeafN good leaf p ∧ Rep X sz w p (absW x) := by
  cases leaf with
  | int k =>
    obtain ⟨n, rfl, hw⟩ := h
    simp only [Lit.wf, Bool.and_eq_true, decide_eq_true_eq] at hw
    exact ⟨_, ⟨n, rfl, hw⟩, .int fun m hm => by cases hm⟩
  | bool =>
    obtain ⟨b, rfl⟩ := h
    exact ⟨_, ⟨b, rfl⟩, .sb .rfl .rfl fun h0 => absurd rfl h0⟩
  | str =>
    obtain ⟨s, rfl, hs⟩ := h
    exact ⟨_, ⟨s.data.toList, rfl, by simpa using hs⟩, .str⟩
  | list c => cases hf
theorem leaves_flat : ∀ {ls : List Leaf4} {cs : List Value}, ls.all Leaf4.flat = true → cs.length = ls.length → (∀ (i : Nat) leaf x, ls[i]? = some leaf → cs[i]? = some x → LeafRead enc P W cd leaf x) →
    ∃ ps : List (PV K), LeavesN good ls ps ∧ RepL X sz w ps (cs.map absW)
  | [], [], _, _, _ => ⟨[], rfl, .nil⟩
  | [], _ :: _, _, h, _ => by simp at h
  | _ :: _, [], _, h, _ => by simp at h
  | l :: ls, x :: cs, hf, hl, hr => by
    simp only [List.all_cons, Bool.and_eq_true] at hf
    obtain ⟨p, h1, h2⟩ := leaf_flat (X := X) (sz := sz) (w := w) hf.1 (hr 0 l x rfl rfl)
    obtain ⟨ps, h3, h4⟩ := leaves_flat (cs := cs) hf.2 (by simpa using hl) fun i leaf y h5 h6 => hr (i + 1) leaf y (by simpa using h5) (by simpa using h6)
    exact ⟨p :: ps, ⟨p, ps, rfl, h1, h3⟩, .cons h2 h4⟩
theorem list_of_all {α : Type} {Q : Nat → α → Prop} : ∀ {n : Nat}, (∀ i, i < n → ∃ x, Q i x) → ∃ l : List α, l.length = n ∧ ∀ (i : Nat) (h : i < l.length), Q i (l[i]'h)
  | 0, _ => ⟨[], rfl, fun i h => by simp at h⟩
  | n + 1, h => by
    obtain ⟨l, h1, h2⟩ := list_of_all (n := n) fun i hi => h i (by omega)
    obtain ⟨x, hx⟩ := h n (by omega)
    refine ⟨l ++ [x], by simp [h1], fun i hi => ?_⟩
    by_cases hin : i < l.length
    · rw [List.getElem_append_left hin]; exact h2 i hin
    · have : i = n := by simp at hi; omega
      subst this
      rw [List.getElem_append_right (by omega)]
      simpa [h1] using hx
theorem rowAt_off {f : TypeId → Bool} : ∀ {d : Nat} {e : TypeId} {count off n : Nat}, rowAt P f d e count off n = true → off ≤ count * P.cellsOf e
  | 0, _, _, _, _, h => by simp [rowAt] at h
  | d + 1, e, count, off, n, h => by
    unfold rowAt at h
    by_cases hs : P.cellsOf e = 0
    · simp [hs] at h
    · simp only [hs, if_false, Bool.or_eq_true, Bool.and_eq_true, beq_iff_eq, decide_eq_true_eq] at h
      have hd := Nat.div_add_mod off (P.cellsOf e)
      have hm := Nat.mod_lt off (Nat.pos_of_ne_zero hs)
      rcases h with ⟨⟨h1, h2⟩, _⟩ | ⟨h1, _⟩
      · have := Nat.mul_le_mul_right (P.cellsOf e) (show off / P.cellsOf e ≤ count by omega)
        rw [Nat.mul_comm] at hd
        omega
      · have := Nat.mul_le_mul_right (P.cellsOf e) (show off / P.cellsOf e + 1 ≤ count by omega)
        rw [Nat.add_mul, Nat.one_mul] at this
        rw [Nat.mul_comm] at hd
        omega
theorem liesAt_off : ∀ {d : Nat} {e : TypeId} {count off : Nat} {u : TypeId} {n : Nat}, liesAt P d e count off u n = true → off ≤ count * P.cellsOf e
  | 0, _, _, _, _, _, h => by simp [liesAt] at h
  | d + 1, e, count, off, u, n, h => by
    unfold liesAt at h
    simp only [Bool.or_eq_true] at h
    rcases h with h | h
    · exact rowAt_off h
    · split at h
      · exact liesAt_off h
      · cases h
theorem slice_ok {base : Nat} {u : TypeId} {a : Addr} {len cap : Nat} (h : Cell.okWide P W .any base u (.slice (some a) len cap)) :
    a.spot = none ∧ ∃ arr e fz, W.heap[a.block]? = some (.cells arr e fz) ∧ a.off ≤ arr.size := by
  have h' : Cell.ok P W .any base u (.slice (some a) len cap) := by
    unfold Cell.okWide at h
    split at h <;> first | exact h | (rename_i hx; cases hx)
  unfold Cell.ok at h'
  split at h' <;> try (first | exact h'.elim | (rename_i hx; cases hx; done))
  rename_i e a' len' cap' _ hx
  cases hx
  obtain ⟨_, _, _, h1, row, cells, h2, h3⟩ := h'
  refine ⟨h1, ?_⟩
  simp only [World.shape?] at h2
  split at h2
  · rename_i arr el fz hb
    cases h2
    refine ⟨arr, _, fz, hb, Nat.le_trans (liesAt_off h3) ?_⟩
    exact Nat.div_mul_le_self _ _
  · cases h2
structure ArgOk (good : ∀ c, K c → Prop) (X : Codecs K) (sz : Nat → Nat) (P : Program) (cd : TypeId → Option Nat) (depth : Nat) : Prop where
  elem : ∀ e c, cd e = some c → ∃ ls, tileT P cd depth e = some ls ∧ ls.all Leaf4.flat = true ∧ ls.length = sz c ∧ P.cellsOf e = sz c ∧ 0 < sz c ∧ ∀ ps : List (PV K), LeavesN good ls ps → ∃ pre x, X.pack c ps = some (pre, x) ∧ pre ∧ good c x
theorem list_read {C : Cfg Int Bool (List UInt8) Prop (fun c => List (K c))} (ok : CfgOk X sz C) {depth ng : Nat} (ao : ArgOk good X sz P cd depth) {base : Nat} {u : TypeId} {c : Nat} {x : Value} {M : Nat → Prop} (hM : ∀ n, ¬ M n) (hc : Cell.okWide P W .any base u x) (h : LeafRead enc P W cd (.list c) x) :
    ∃ (p : PV K) (v : V), LeafN good (.list c) p ∧ Rep X sz (wd0 (heapW W ng) M C.codec) p v ∧ Go.E2.Rel (ghostW W) W v x := by
  rcases h with rfl | ⟨e, a, len, cap, he, rfl, hl, hcap, hr⟩
  · exact ⟨.list c [] none, .nils, ⟨[], rfl, Nat.zero_le _, fun x hx => by cases hx⟩, .nlist trivial, by simp [Go.E2.Rel]⟩
  · obtain ⟨hsp, arr, el, fz, hb, hoff⟩ := slice_ok hc
    obtain ⟨b, off, spot⟩ := a
    simp only at hsp hb hoff
    subst hsp
    obtain ⟨ls, h1, h2, h3, h4, h5, h6⟩ := ao.elem e c he
    rw [h4] at hr
    have hcell : ∀ i, i < cap → ∃ cs : List Value, cs.length = sz c ∧ (∀ j, j < sz c → arr[off + i * sz c + j]? = cs[j]?) ∧ ∃ y : K c, good c y ∧ RepL X sz (wd0 (heapW W ng) M C.codec) (X.cells c y) (cs.map absW) := by
      intro i hi
      obtain ⟨cs, m, r, h7, h8⟩ := hr i hi
      obtain ⟨_, h9, h10⟩ := World.cells?_some h7
      obtain ⟨h11, h12⟩ := trod_tile depth h8 h1
      obtain ⟨ps, h13, h14⟩ := leaves_flat (X := X) (sz := sz) (w := wd0 (heapW W ng) M C.codec) h2 h11 h12
      obtain ⟨pre, y, h15, h16, h17⟩ := h6 ps h13
      refine ⟨cs, h9, fun j hj => ?_, y, h17, ok.pack c ps pre y h15 h16 _ _ h14⟩
      have hadd : ((⟨b, off, none⟩ : Addr).add (i * sz c)).add j = ⟨b, off + i * sz c + j, none⟩ := by
        unfold Addr.add
        by_cases h0 : i * sz c = 0
        · rw [if_pos h0, h0]
          by_cases hj0 : j = 0
          · rw [if_pos hj0, hj0]; simp
          · rw [if_neg hj0]; simp
        · rw [if_neg h0]
          by_cases hj0 : j = 0
          · rw [if_pos hj0, hj0]; simp
          · rw [if_neg hj0]
      have := h10 j hj
      rw [hadd] at this
      simp only [World.cell?, hb] at this
      simpa using this
    have hsz : off + cap * sz c ≤ arr.size := by
      cases cap with
      | zero => simpa using hoff
      | succ q =>
        obtain ⟨cs, g1, g2, _⟩ := hcell q (Nat.lt_succ_self q)
        have := g2 (sz c - 1) (by omega)
        rw [List.getElem?_eq_getElem (by omega)] at this
        have := (Array.getElem?_eq_some_iff.1 this).1
        rw [Nat.add_mul, Nat.one_mul]
        omega
    have hlm : len * sz c ≤ cap * sz c := Nat.mul_le_mul_right _ hl
    obtain ⟨l, g1, g2⟩ := list_of_all (Q := fun i (y : K c) => ∃ cs : List Value, cs.length = sz c ∧ (∀ j, j < sz c → arr[off + i * sz c + j]? = cs[j]?) ∧ good c y ∧ RepL X sz (wd0 (heapW W ng) M C.codec) (X.cells c y) (cs.map absW)) (n := len) fun i hi => by
      obtain ⟨cs, q1, q2, y, q4, q3⟩ := hcell i (by omega)
      exact ⟨y, cs, q1, q2, q4, q3⟩
    refine ⟨.list c l none, .slice b 0 off len (sz c) (some cap), ⟨l, rfl, by omega, fun y hy => ?_⟩, ?_, ?_⟩
    · obtain ⟨i, hi, rfl⟩ := List.mem_iff_getElem.1 hy
      obtain ⟨cs, q1, q2, q4, q3⟩ := g2 i hi
      exact q4
    · refine .list (heapW_get hb) (Nat.le_refl _) (hM b) g1.symm (by simp; omega) h5 (fun k hk => by cases hk; exact hl) (fun i hi j p hp => ?_) trivial
      obtain ⟨cs, q1, q2, q4, q3⟩ := g2 i hi
      have hj : j < sz c := by rw [← ok.len c (l[i]'hi)]; exact (List.getElem?_eq_some_iff.1 hp).1
      have := q3.2 j p hp
      rw [List.getD_eq_getElem?_getD, List.getElem?_map] at this ⊢
      rw [Array.getElem?_toList, q2 j hj]
      exact this
    · simp only [Go.E2.Rel]
      exact ⟨b, 0, arr.size, off, cap, el, arr.size, ghostW_of hb, rfl, hl, Nat.zero_le _, by omega, .inl rfl, fun k hk => by cases hk; exact ⟨rfl, hsz⟩, by simp only [World.shape?, hb], hsz⟩
theorem flat_rel {leaf : Leaf4} {x : Value} (hf : leaf.flat = true) (h : LeafRead enc P W cd leaf x) (G : Ghost) : Go.E2.Rel G W (absW x) x := by
  cases leaf with
  | int k => obtain ⟨n, rfl, _⟩ := h; simp [absW, Go.E2.Rel]
  | bool => obtain ⟨b, rfl⟩ := h; simp [absW, Go.E2.Rel]
  | str => obtain ⟨s, rfl, _⟩ := h; simp [absW, Go.E2.Rel]
  | list c => cases hf
theorem leaf_read {C : Cfg Int Bool (List UInt8) Prop (fun c => List (K c))} (ok : CfgOk X sz C) {depth ng : Nat} (ao : ArgOk good X sz P cd depth) {base : Nat} {u : TypeId} {leaf : Leaf4} {x : Value} {M : Nat → Prop} (hM : ∀ n, ¬ M n) (hc : Cell.okWide P W .any base u x) (h : LeafRead enc P W cd leaf x) :
    ∃ (p : PV K) (v : V), LeafN good leaf p ∧ Rep X sz (wd0 (heapW W ng) M C.codec) p v ∧ Go.E2.Rel (ghostW W) W v x := by
  cases hf : leaf.flat with
  | true =>
    obtain ⟨p, h1, h2⟩ := leaf_flat (X := X) (sz := sz) (w := wd0 (heapW W ng) M C.codec) hf h
    exact ⟨p, absW x, h1, h2, flat_rel hf h _⟩
  | false =>
    cases leaf with
    | list c => exact list_read ok ao hM hc h
    | _ => cases hf
theorem arg_one {C : Cfg Int Bool (List UInt8) Prop (fun c => List (K c))} (ok : CfgOk X sz C) {depth ng : Nat} (ao : ArgOk good X sz P cd depth) {base : Nat} {M : Nat → Prop} (hM : ∀ n, ¬ M n) {t : TypeId} {v : Value} {d : DataW Hd} {ps : List MemPlace} {leaf : Leaf4}
    (ht : (match P.underlying t with | some (.struct _) | some (.array _ _) => false | _ => true) = true) (hl : tileT P cd depth t = some [leaf]) (hv : Value.okWide P W .any base t v) (hd : DataW.Trod enc P W 0 (fun _ => true) true t v d ps) :
    ∃ (p : PV K) (u : V), LeafN good leaf p ∧ Rep X sz (wd0 (heapW W ng) M C.codec) p u ∧ Go.E2.Rel (ghostW W) W u v := by
  obtain ⟨n, hn⟩ := hd
  obtain ⟨h1, h2⟩ := trod_tile depth hn hl
  have hcell : Cell.okWide P W .any base t v := by
    unfold Value.okWide at hv
    split at hv
    · rename_i h; simp [h] at ht
    · rename_i h; simp [h] at ht
    · exact hv
  have hcs : v.cells.toList = [v] := by
    cases v with
    | agg cs =>
      exfalso
      unfold Cell.okWide at hcell
      split at hcell <;> first | (rename_i hx; cases hx; done) | skip
      unfold Cell.ok at hcell
      split at hcell <;> first | (rename_i hx; cases hx; done) | exact hcell
    | _ => rfl
  exact leaf_read ok ao hM hcell (h2 0 leaf v rfl (by rw [hcs]; rfl))
theorem good_lt {p : MemPlace} (h : Go.Good W p) : p.block < W.heap.size := by
  cases p with
  | cell b off =>
    obtain ⟨v, hv, _⟩ := h
    simp only [World.cell?] at hv
    split at hv
    · rename_i hb; exact lt_of_heap hb
    · cases hv
  | map b =>
    obtain ⟨es, clock, hb⟩ := h
    exact lt_of_heap hb
theorem trod_again {w' : World} {t : TypeId} {v : Value} {d : DataW Hd} {ps : List MemPlace} (hlaid : laidOutB P = true) (hrec : P.readableRec t = true) (hrow : t < P.types.size) (h : DataW.Trod enc P W 0 (fun _ => true) true t v d ps) (hs : ∀ b, b < W.heap.size → w'.heap[b]? = W.heap[b]?)
    (sp : Nat → Bool) (hsp : ∀ b, b < W.heap.size → sp b = true) : DataW.Trod enc P w' 0 sp true t v d ps := by
  obtain ⟨n, hn⟩ := h
  have K := kids_book hlaid hrec
  have hgood := DataW.trod_good K (fun h => by cases h) n t _ _ ⟨hrow, book_self t⟩ hn
  refine ⟨n, DataW.trod_stays K (book_sized hrec) (fun h => by cases h) ⟨hrow, book_self t⟩ hn (fun p hp => ?_) (fun p hp => hsp _ ?_)⟩
  · have hlt : p.block < W.heap.size := good_lt (hgood p hp)
    cases p with
    | cell b off => simp only [World.sameAt, World.cell?, hs b hlt]
    | map b => exact hs b hlt
  · exact good_lt (hgood p hp)
end
end Go.E3
/- E3: (*strings.Builder).String, BY ITS TEXT: a check of the body, and what the body does. -/
namespace Go.E3
open Go Go.E2
def isT (t : Nat) : Operand → Bool
  | .tmp x => Nat.beq x t
  | _ => false
theorem isT_eq {t : Nat} {x : Operand} (h : isT t x = true) : x = .tmp t := by
  cases x <;> simp only [isT, Bool.false_eq_true] at h
  rw [Nat.eq_of_beq_eq_true h]
def isMoveO (t : Nat) : Op → Bool
  | .move x => isT t x
  | _ => false
def isAssignO (t : Nat) : Op → Bool
  | .assign x => isT t x
  | _ => false
def isAssignE : Op → Bool
  | .assign (.const c) => match absV 1000 c with
    | some (.str []) => true
    | _ => false
  | _ => false
def isNilO (t : Nat) : Op → Bool
  | .nilCheck x => isT t x
  | _ => false
def isFA (tB t k : Nat) : Op → Bool
  | .fieldAddr a x i => Nat.beq a tB && isT t x && Nat.beq i k
  | _ => false
def isLoadO (tS t : Nat) : Op → Bool
  | .load a x => Nat.beq a tS && isT t x
  | _ => false
def isBu (b : Builtin → Bool) (ts : List Nat) (tys : List Nat) : Op → Bool
  | .call c => (match c.callee with
    | .builtin x => b x
    | _ => false) && Nat.beq c.args.toList.length ts.length && ((c.args.toList.zip ts).all fun p => isT p.2 p.1) && listEq Nat.beq c.argTypes.toList tys
  | _ => false
 where listEq (f : Nat → Nat → Bool) : List Nat → List Nat → Bool
  | [], [] => true
  | a :: l, b :: m => f a b && listEq f l m
  | _, _ => false
theorem listEq_eq : ∀ {a b : List Nat}, isBu.listEq Nat.beq a b = true → a = b
  | [], [], _ => rfl
  | a :: l, b :: m, h => by
    simp only [isBu.listEq, Bool.and_eq_true] at h
    rw [Nat.eq_of_beq_eq_true h.1, listEq_eq h.2]
  | [], _ :: _, h => by simp [isBu.listEq] at h
  | _ :: _, [], h => by simp [isBu.listEq] at h
theorem isMoveO_eq {t : Nat} {op : Op} (h : isMoveO t op = true) : op = .move (.tmp t) := by
  cases op <;> simp only [isMoveO, Bool.false_eq_true] at h
  rw [isT_eq h]
theorem isAssignO_eq {t : Nat} {op : Op} (h : isAssignO t op = true) : op = .assign (.tmp t) := by
  cases op <;> simp only [isAssignO, Bool.false_eq_true] at h
  rw [isT_eq h]
theorem isAssignE_eq {op : Op} (h : isAssignE op = true) : ∃ c, op = .assign (.const c) ∧ absV 1000 c = some (.str []) := by
  unfold isAssignE at h
  split at h
  · split at h
    · exact ⟨_, rfl, by assumption⟩
    · cases h
  · cases h
theorem isNilO_eq {t : Nat} {op : Op} (h : isNilO t op = true) : op = .nilCheck (.tmp t) := by
  cases op <;> simp only [isNilO, Bool.false_eq_true] at h
  rw [isT_eq h]
theorem isFA_eq {tB t k : Nat} {op : Op} (h : isFA tB t k op = true) : op = .fieldAddr tB (.tmp t) k := by
  cases op <;> simp only [isFA, Bool.false_eq_true, Bool.and_eq_true] at h
  rw [isT_eq h.1.2, Nat.eq_of_beq_eq_true h.1.1, Nat.eq_of_beq_eq_true h.2]
theorem isLoadO_eq {tS t : Nat} {op : Op} (h : isLoadO tS t op = true) : op = .load tS (.tmp t) := by
  cases op <;> simp only [isLoadO, Bool.false_eq_true, Bool.and_eq_true] at h
  rw [isT_eq h.2, Nat.eq_of_beq_eq_true h.1]
theorem isBu1 {b : Builtin → Bool} {t ty : Nat} {op : Op} (h : isBu b [t] [ty] op = true) : ∃ c x, op = .call c ∧ c.callee = .builtin x ∧ b x = true ∧ c.args.toList = [.tmp t] ∧ c.argTypes.toList = [ty] := by
  cases op <;> simp only [isBu, Bool.false_eq_true, Bool.and_eq_true] at h
  rename_i c
  obtain ⟨⟨⟨h1, h2⟩, h3⟩, h4⟩ := h
  cases hc : c.callee with
  | builtin x =>
    rw [hc] at h1
    refine ⟨c, x, rfl, hc, h1, ?_, listEq_eq h4⟩
    match ha : c.args.toList with
    | [] => rw [ha] at h2; simp at h2
    | [a] =>
      rw [ha] at h3
      simp only [List.zip_cons_cons, List.zip_nil_left, List.all_cons, List.all_nil, Bool.and_true] at h3
      rw [isT_eq h3]
    | a :: b :: l => rw [ha] at h2; simp at h2
  | value f => rw [hc] at h1; cases h1
  | invoke r m => rw [hc] at h1; cases h1
theorem isBu2 {b : Builtin → Bool} {t t' ty ty' : Nat} {op : Op} (h : isBu b [t, t'] [ty, ty'] op = true) : ∃ c x, op = .call c ∧ c.callee = .builtin x ∧ b x = true ∧ c.args.toList = [.tmp t, .tmp t'] ∧ c.argTypes.toList = [ty, ty'] := by
  cases op <;> simp only [isBu, Bool.false_eq_true, Bool.and_eq_true] at h
  rename_i c
  obtain ⟨⟨⟨h1, h2⟩, h3⟩, h4⟩ := h
  cases hc : c.callee with
  | builtin x =>
    rw [hc] at h1
    refine ⟨c, x, rfl, hc, h1, ?_, listEq_eq h4⟩
    match ha : c.args.toList with
    | [] => rw [ha] at h2; simp at h2
    | [a] => rw [ha] at h2; simp at h2
    | [a, a'] =>
      rw [ha] at h3
      simp only [List.zip_cons_cons, List.zip_nil_left, List.all_cons, List.all_nil, Bool.and_true, Bool.and_eq_true] at h3
      rw [isT_eq h3.1, isT_eq h3.2]
    | a :: b :: d :: l => rw [ha] at h2; simp at h2
  | value f => rw [hc] at h1; cases h1
  | invoke r m => rw [hc] at h1; cases h1
def opIs (d : Nat) (p : Op → Bool) (o : Oper) : Bool :=
  (match o.dst with
  | some e => Nat.beq e d
  | none => false) && (match o.guard with
  | none => true
  | some _ => false) && p o.op
theorem opIs_eq {d : Nat} {p : Op → Bool} {o : Oper} (h : opIs d p o = true) : o.dst = some d ∧ o.guard = none ∧ p o.op = true := by
  simp only [opIs, Bool.and_eq_true] at h
  obtain ⟨⟨h1, h2⟩, h3⟩ := h
  refine ⟨?_, ?_, h3⟩
  · split at h1
    · rename_i e he
      rw [he, Nat.eq_of_beq_eq_true h1]
    · cases h1
  · split at h2
    · assumption
    · cases h2
def strOps (tB tS tQ tI : Nat) : List Oper → Bool
  | [a, b, c, d, e, f, g, h, i, j, k, l] =>
    opIs 3 (isMoveO 0) a && opIs 4 (isNilO 3) b && opIs 5 (isFA tB 4 1) c && opIs 6 (isLoadO tS 5) d && opIs 7 (isBu (fun | .unsafeSliceData => true | _ => false) [6] [tS]) e &&
    opIs 8 (isMoveO 0) f && opIs 9 (isNilO 8) g && opIs 10 (isFA tB 9 1) h && opIs 11 (isLoadO tS 10) i && opIs 12 (isBu (fun | .len => true | _ => false) [11] [tS]) j &&
    opIs 13 (isBu (fun | .unsafeString => true | _ => false) [7, 12] [tQ, tI]) k && opIs 2 (isAssignO 13) l
  | _ => false
def strTys (E : Env) (tB tS tQ tU : Nat) : Bool :=
  (match E.types tB with
  | some ti => match fieldOf ti 1 with
    | some f => Nat.beq f.offset 1 && (match E.types f.type with
      | some fi => !Nat.beq fi.size 0
      | none => false)
    | none => false
  | none => false) &&
  (match E.types tS with
  | some ti => Nat.beq ti.size 1 && !ti.isAgg && (match ti.under with
    | .slice u => Nat.beq u tU
    | _ => false)
  | none => false) &&
  (match E.types tQ with
  | some ti => match ti.under with
    | .pointer u => Nat.beq u tU
    | _ => false
  | none => false) &&
  (match E.types tU with
  | some ti => Nat.beq ti.size 1
  | none => false)
def strChk (E : Env) (F tB tS tQ tI tU : Nat) : Bool :=
  match E.funcs F with
  | some fi => (match fi.results with
    | [.tmp 2] => true
    | _ => false) && Nat.beq fi.ntmps 14 && strTys E tB tS tQ tU &&
    (match fi.body with
    | some (.seq (.region _ a false) (.seq (.region _ ops true) .ret)) => (match a.toList with
      | [o] => opIs 2 isAssignE o
      | _ => false) && strOps tB tS tQ tI ops.toList && ((List.range 10).all fun i => ((Region.before ops).getD 10 0).testBit i)
    | _ => false)
  | none => false
section
variable {E : Env} {fn : FuncId} {round : Option Nat} {all : Array Oper} {b : Array Nat} {i : Nat} {l : List Oper} {done : List Done} {o : Oper} {fr : Fr} {H : Heap} {Q : Ex → Fr → Heap → Prop} {B : Nat}
def CalmI (B i : Nat) (done : List Done) : Prop := E2.Calm B done ∧ ∀ d ∈ done, d.i < i
theorem calmI_nil : CalmI B 0 [] := ⟨calm_nil, fun d h => by cases h⟩
theorem calmI_cons {fp : FP} {lo hi : Nat} {dels : List Nat} (h : CalmI B i done) (hf : fp = .none ∨ ∃ l, fp = .reads l) (hl : B ≤ lo) : CalmI B (i + 1) (⟨i, fp, lo, hi, dels⟩ :: done) := by
  refine ⟨calm_cons hf hl h.1, fun d hd => ?_⟩
  rcases List.mem_cons.1 hd with rfl | hd
  · exact Nat.lt_succ_self _
  · exact Nat.lt_succ_of_lt (h.2 d hd)
theorem looks_mem {t : Nat} (h : Operand.tmp t ∈ o.op.operands.toList) : t ∈ o.looksAt all := by
  unfold Oper.looksAt
  exact List.mem_append_left _ (List.mem_filterMap.2 ⟨_, h, rfl⟩)
theorem wpD_dry {v : V} {d : Nat} (hc : CalmI B i done) (hB : B ≤ H.next) (hT : touches E o.op = false) (hg : o.guard = none) (hd : o.dst = some d) (hn : d < fr.n)
    (hev : ∀ fr' H', (∀ t, Operand.tmp t ∈ o.op.operands.toList → fr'.tmp t = fr.tmp t) → evOp E o fr' H' = some (.val v, H'))
    (k : ∀ done' fr', CalmI B (i + 1) done' → Upd fr d v fr' → WpD E all b (i + 1) l done' fr' H Q) : WpD E all b i (o :: l) done fr H Q := by
  refine wpD_step (fp := .none) (out := .val v) (K := tinyH H .none _) (want_free hg) (by simp only [fpOf, hT, Bool.not_false, cond_true]) (by simp) (calm_clash hc.1 (.inl rfl)) (hev _ _ fun t ht => restr_tmp (looks_mem ht)) (.inl rfl) (Nat.le_refl _) ?_
  rw [joinH_none, hd]
  exact k _ _ (calmI_cons hc (.inl rfl) hB) (put_upd hn)
theorem wpD_ld {t : TypeId} {ti : TI} {s d nm g off lim : Nat} {v : V} (hc : CalmI B i done) (hB : B ≤ H.next) (ho : o.op = .load t (.tmp s)) (ht : E.types t = some ti) (hp : fr.tmp s = some (.ptr nm g off lim)) (hnm : nm < B) (hg : o.guard = none) (hd : o.dst = some d) (hn : d < fr.n) (h : loadV H ti (.ptr nm g off lim) = some v)
    (k : ∀ done' fr', CalmI B (i + 1) done' → Upd fr d v fr' → WpD E all b (i + 1) l done' fr' H Q) : WpD E all b i (o :: l) done fr H Q := by
  have hfp : fpOf E o fr = .reads [nm] := by
    simp only [fpOf, ho, touches, Bool.not_true, cond_false, nmsOf, Op.operands, List.flatMap_cons, List.flatMap_nil, nmOf, hp, V.nm, List.append_nil]
  have hm : s ∈ o.looksAt all := by simp [Oper.looksAt, ho, Op.operands]
  refine wpD_step (fp := .reads [nm]) (out := .val v) (K := tinyH H (.reads [nm]) ((freeOf b i done).flatMap Done.names)) (want_free hg) hfp (by simp) (calm_clash hc.1 (.inr ⟨_, rfl⟩)) ?_ (.inl rfl) (Nat.le_refl _) ?_
  · have hg := tinyH_reads (H := H) (l := [nm]) (dels := (freeOf b i done).flatMap Done.names) (List.mem_singleton.2 rfl) (by omega) (calm_dels hc.1 hnm)
    have hl : loadV (tinyH H (.reads [nm]) ((freeOf b i done).flatMap Done.names)) ti (.ptr nm g off lim) = some v := by
      rw [← h]
      simp only [loadV, readCells, hg]
    simp only [evOp, ho, ht, Option.bind_some, opd, restr_tmp hm, hp, hl, Option.map_some]
  · rw [joinH_reads, hd]
    exact k _ _ (calmI_cons hc (.inr ⟨_, rfl⟩) hB) (put_upd hn)
theorem freeOf_nil (hc : CalmI B i done) (hb : ((List.range i).all fun j => (b.getD i 0).testBit j) = true) : freeOf b i done = [] := by
  unfold freeOf
  rw [List.filter_eq_nil_iff]
  intro d hd
  rw [List.all_eq_true] at hb
  rw [hb d.i (List.mem_range.2 (hc.2 d hd))]
  simp
end
theorem strTys_eq {E : Env} {tB tS tQ tU : Nat} (h : strTys E tB tS tQ tU = true) :
    (∃ ti f fi, E.types tB = some ti ∧ fieldOf ti 1 = some f ∧ f.offset = 1 ∧ E.types f.type = some fi ∧ Nat.beq fi.size 0 = false) ∧
    (∃ ti, E.types tS = some ti ∧ ti.size = 1 ∧ ti.isAgg = false ∧ ti.under = .slice tU) ∧
    (∃ ti, E.types tQ = some ti ∧ ti.under = .pointer tU) ∧ ∃ ti, E.types tU = some ti ∧ ti.size = 1 := by
  simp only [strTys, Bool.and_eq_true] at h
  obtain ⟨⟨⟨h1, h2⟩, h3⟩, h4⟩ := h
  refine ⟨?_, ?_, ?_, ?_⟩
  · split at h1
    · rename_i ti hti
      split at h1
      · rename_i f hf
        simp only [Bool.and_eq_true] at h1
        obtain ⟨a1, a2⟩ := h1
        split at a2
        · rename_i fi hfi
          exact ⟨ti, f, fi, hti, hf, Nat.eq_of_beq_eq_true a1, hfi, by simpa using a2⟩
        · cases a2
      · cases h1
    · cases h1
  · split at h2
    · rename_i ti hti
      simp only [Bool.and_eq_true, Bool.not_eq_true'] at h2
      obtain ⟨⟨a1, a2⟩, a3⟩ := h2
      split at a3
      · rename_i u hu
        exact ⟨ti, hti, Nat.eq_of_beq_eq_true a1, a2, by rw [hu, Nat.eq_of_beq_eq_true a3]⟩
      · cases a3
    · cases h2
  · split at h3
    · rename_i ti hti
      split at h3
      · rename_i u hu
        exact ⟨ti, hti, by rw [hu, Nat.eq_of_beq_eq_true h3]⟩
      · cases h3
    · cases h3
  · split at h4
    · rename_i ti hti
      exact ⟨ti, hti, Nat.eq_of_beq_eq_true h4⟩
    · cases h4
theorem call_mem {c : Go.Call} {b : Builtin} {x : Operand} (hc : c.callee = .builtin b) (h : x ∈ c.args.toList) : x ∈ (Op.call c).operands.toList := by
  simp only [Op.operands, Call.operands, hc]
  simpa using h
theorem load_cell {H : Heap} {ti : TI} {nm off lim : Nat} {vs : List V} {e : TypeId} {ex : Bool} {x : V} (hs : ti.size = 1) (ha : ti.isAgg = false) (hg : H.get nm = some (.row vs e 0 0 0 ex)) (h1 : off + 2 ≤ lim) (h2 : lim ≤ vs.length) (hx : vs[off + 1]? = some x) (hnh : isHole x = false) : loadV H ti (.ptr nm 0 (off + 1) lim) = some x := by
  have b2 : Nat.ble (off + 1 + 1) lim = true := by rw [Nat.ble_eq]; omega
  have b3 : Nat.ble lim vs.length = true := by rw [Nat.ble_eq]; exact h2
  have hd : (vs.drop (off + 1)).take 1 = [x] := by
    have hlt : off + 1 < vs.length := by omega
    rw [List.drop_eq_getElem_cons hlt]
    simp only [List.take_succ_cons, List.take_zero, List.cons.injEq, and_true]
    rw [List.getElem?_eq_getElem hlt] at hx
    exact Option.some.inj hx
  have hn : noHoles [x] = some [x] := noHoles_all fun v hv => by
    rw [List.mem_singleton.1 hv]
    exact hnh
  simp only [loadV, readCells, hg, hs, b2, b3, hd, hn, ha, Nat.ble_eq, Nat.le_refl, Nat.ble, Bool.and_self, Bool.true_and, cond_true, cond_false, Option.bind_some]
section
variable {E : Env} {F tB tS tQ tI tU : Nat}
theorem str_walk (hq : E.spec F = none) (hc : strChk E F tB tS tQ tI tU = true) {H H' : Heap} {nm off lim : Nat} {vs : List V} {e : TypeId} {ex : Bool} (wf : ∀ n, H.next ≤ n → H.get n = none) (hg : H.get nm = some (.row vs e 0 0 0 ex)) (h1 : off + 2 ≤ lim) (h2 : lim ≤ vs.length) {x p s : V} {n : Int} (hx : vs[off + 1]? = some x) (hnh : isHole x = false)
    (hsd : ∀ H0, builtinV E .unsafeSliceData [tS] [x] H0 = some (.val p, H0)) (hlen : ∀ H0, builtinV E .len [tS] [x] H0 = some (.val (.int .i64 n), H0))
    (hus : ∃ K, builtinV E .unsafeString [tQ, tI] [p, .int .i64 n] (tinyH H (.writes p.nm) []) = some (.val s, K) ∧ H.next ≤ K.next ∧ joinH H K (.writes p.nm) [] = H') :
    CallW E (.func F) [.ptr nm 0 off lim] H fun v K => v = s ∧ K = H' := by
  have hnm : nm < H.next := by
    by_cases h : nm < H.next
    · exact h
    · rw [wf nm (by omega)] at hg
      cases hg
  unfold strChk at hc
  cases hf : E.funcs F with
  | none => rw [hf] at hc; cases hc
  | some fi =>
  rw [hf] at hc
  simp only [Bool.and_eq_true] at hc
  obtain ⟨⟨⟨c1, c2⟩, c3⟩, c4⟩ := hc
  have c2 := Nat.eq_of_beq_eq_true c2
  obtain ⟨⟨tib, fd, fdi, b1, b2, b3, b4, b5⟩, ⟨tis, s1, s2, s3, s4⟩, -, -⟩ := strTys_eq c3
  split at c1
  · rename_i hres
    split at c4
    · rename_i id0 oa id1 ops hb
      simp only [Bool.and_eq_true] at c4
      obtain ⟨⟨d1, d2⟩, d3⟩ := c4
      split at d1
      · rename_i o0 ho0
        obtain ⟨e1, e2, e3⟩ := opIs_eq d1
        obtain ⟨cc, e3, e4⟩ := isAssignE_eq e3
        unfold strOps at d2
        split at d2
        · rename_i q0 q1 q2 q3 q4 q5 q6 q7 q8 q9 q10 q11 hops
          simp only [Bool.and_eq_true] at d2
          obtain ⟨⟨⟨⟨⟨⟨⟨⟨⟨⟨⟨f0, f1⟩, f2⟩, f3⟩, f4⟩, f5⟩, f6⟩, f7⟩, f8⟩, f9⟩, f10⟩, f11⟩ := d2
          obtain ⟨g0a, g0b, g0⟩ := opIs_eq f0
          obtain ⟨g1a, g1b, g1⟩ := opIs_eq f1
          obtain ⟨g2a, g2b, g2⟩ := opIs_eq f2
          obtain ⟨g3a, g3b, g3⟩ := opIs_eq f3
          obtain ⟨g4a, g4b, g4⟩ := opIs_eq f4
          obtain ⟨g5a, g5b, g5⟩ := opIs_eq f5
          obtain ⟨g6a, g6b, g6⟩ := opIs_eq f6
          obtain ⟨g7a, g7b, g7⟩ := opIs_eq f7
          obtain ⟨g8a, g8b, g8⟩ := opIs_eq f8
          obtain ⟨g9a, g9b, g9⟩ := opIs_eq f9
          obtain ⟨g10a, g10b, g10⟩ := opIs_eq f10
          obtain ⟨g11a, g11b, g11⟩ := opIs_eq f11
          have g0 := isMoveO_eq g0
          have g1 := isNilO_eq g1
          have g2 := isFA_eq g2
          have g3 := isLoadO_eq g3
          obtain ⟨k4, y4, g4, g4c, g4d, g4e, g4f⟩ := isBu1 g4
          have g5 := isMoveO_eq g5
          have g6 := isNilO_eq g6
          have g7 := isFA_eq g7
          have g8 := isLoadO_eq g8
          obtain ⟨k9, y9, g9, g9c, g9d, g9e, g9f⟩ := isBu1 g9
          obtain ⟨k10, y10, g10, g10c, g10d, g10e, g10f⟩ := isBu2 g10
          have g11 := isAssignO_eq g11
          have y4 : y4 = .unsafeSliceData := by cases y4 <;> first | rfl | cases g4d
          have y9 : y9 = .len := by cases y9 <;> first | rfl | cases g9d
          have y10 : y10 = .unsafeString := by cases y10 <;> first | rfl | cases g10d
          subst y4 y9 y10
          have hld := load_cell s2 s3 hg h1 h2 hx hnh
          have hfn : ∀ fr' : Fr, fr'.n = max 1 fi.ntmps → fr'.n = 14 := fun fr' h => by rw [h, c2]; rfl
          refine callW_body hq hf hb ?_
          refine w2_seq (w2_region ?_)
          rw [ho0]
          have n0 : ({ tmps := enterTmps [.ptr nm 0 off lim], n := max [V.ptr nm 0 off lim].length fi.ntmps, defers := [] } : Fr).n = 14 := by simp only [c2]; rfl
          refine wpO_do (d := 2) (v := .str []) (H' := H) (by simp only [isDefer, e3]) (want_free e2) e1 (by rw [n0]; decide) (ev_assign e3 (opd_const e4)) fun fr1 u1 => wpO_nil (thenQ_go (w2_seq (w2_drawn ?_)))
          have t0 : fr1.tmp 0 = some (.ptr nm 0 off lim) := (u1.other 0 rfl).trans (enter_tmp rfl)
          have n1 : fr1.n = 14 := u1.n.trans n0
          have m1 : fr1.defers = [] := u1.ds
          clear u1
          rw [hops]
          have ci0 : CalmI H.next 0 [] := calmI_nil
          have tT : ∀ (z : Op) (t : Nat), z.operands.toList = [.tmp t] → (z.operands.any fun | .global _ => true | _ => false) = false := by
            intro z t hz
            rw [← Array.any_toList, hz]
            rfl
          have t0_1 := t0
          refine wpD_dry (d := 3) (v := .ptr nm 0 off lim) ci0 (Nat.le_refl _) (by simp only [touches, g0]; first | exact tT _ _ rfl | rfl) g0b g0a (by rw [n1]; decide) (fun fr' H' hh => ev_move g0 (opd_tmp ((hh 0 (by rw [g0]; simp [Op.operands])).trans t0_1))) fun dn1 fr2 ci1 u2 => ?_
          have t0_2 : fr2.tmp 0 = some (.ptr nm 0 off lim) := (u2.other 0 rfl).trans t0_1
          have t3_2 : fr2.tmp 3 = some (.ptr nm 0 off lim) := u2.get
          have n2 : fr2.n = 14 := u2.n.trans n1
          have m2 : fr2.defers = [] := u2.ds.trans m1
          clear u2
          refine wpD_dry (d := 4) (v := .ptr nm 0 off lim) ci1 (Nat.le_refl _) (by simp only [touches, g1]; first | exact tT _ _ rfl | rfl) g1b g1a (by rw [n2]; decide) (fun fr' H' hh => by simp only [evOp, g1, (opd_tmp ((hh 3 (by rw [g1]; simp [Op.operands])).trans t3_2))]) fun dn2 fr3 ci2 u3 => ?_
          have t0_3 : fr3.tmp 0 = some (.ptr nm 0 off lim) := (u3.other 0 rfl).trans t0_2
          have t3_3 : fr3.tmp 3 = some (.ptr nm 0 off lim) := (u3.other 3 rfl).trans t3_2
          have t4_3 : fr3.tmp 4 = some (.ptr nm 0 off lim) := u3.get
          have n3 : fr3.n = 14 := u3.n.trans n2
          have m3 : fr3.defers = [] := u3.ds.trans m2
          clear u3
          refine wpD_dry (d := 5) (v := .ptr nm 0 (off + 1) lim) ci2 (Nat.le_refl _) (by simp only [touches, g2]; first | exact tT _ _ rfl | rfl) g2b g2a (by rw [n3]; decide) (fun fr' H' hh => by have h0 := ev_fieldAddr (H := H') g2 b1 b2 b4 b5 (opd_tmp ((hh 4 (by rw [g2]; simp [Op.operands])).trans t4_3)); rw [b3] at h0; exact h0) fun dn3 fr4 ci3 u4 => ?_
          have t0_4 : fr4.tmp 0 = some (.ptr nm 0 off lim) := (u4.other 0 rfl).trans t0_3
          have t3_4 : fr4.tmp 3 = some (.ptr nm 0 off lim) := (u4.other 3 rfl).trans t3_3
          have t4_4 : fr4.tmp 4 = some (.ptr nm 0 off lim) := (u4.other 4 rfl).trans t4_3
          have t5_4 : fr4.tmp 5 = some (.ptr nm 0 (off + 1) lim) := u4.get
          have n4 : fr4.n = 14 := u4.n.trans n3
          have m4 : fr4.defers = [] := u4.ds.trans m3
          clear u4
          refine wpD_ld (ti := tis) (s := 5) (d := 6) (v := x) ci3 (Nat.le_refl _) g3 s1 t5_4 hnm g3b g3a (by rw [n4]; decide) hld fun dn4 fr5 ci4 u5 => ?_
          have t0_5 : fr5.tmp 0 = some (.ptr nm 0 off lim) := (u5.other 0 rfl).trans t0_4
          have t3_5 : fr5.tmp 3 = some (.ptr nm 0 off lim) := (u5.other 3 rfl).trans t3_4
          have t4_5 : fr5.tmp 4 = some (.ptr nm 0 off lim) := (u5.other 4 rfl).trans t4_4
          have t5_5 : fr5.tmp 5 = some (.ptr nm 0 (off + 1) lim) := (u5.other 5 rfl).trans t5_4
          have t6_5 : fr5.tmp 6 = some (x) := u5.get
          have n5 : fr5.n = 14 := u5.n.trans n4
          have m5 : fr5.defers = [] := u5.ds.trans m4
          clear u5
          refine wpD_dry (d := 7) (v := p) ci4 (Nat.le_refl _) (by simp only [touches, g4, g4c]; rw [← Array.any_toList, g4e]; rfl) g4b g4a (by rw [n5]; decide) (fun fr' H' hh => by simp only [evOp, g4, g4c, g4e, g4f, opds, (opd_tmp ((hh 6 (by rw [g4]; exact call_mem g4c (by rw [g4e]; simp))).trans t6_5)), Option.bind_some, Option.map_some, hsd]) fun dn5 fr6 ci5 u6 => ?_
          have t0_6 : fr6.tmp 0 = some (.ptr nm 0 off lim) := (u6.other 0 rfl).trans t0_5
          have t3_6 : fr6.tmp 3 = some (.ptr nm 0 off lim) := (u6.other 3 rfl).trans t3_5
          have t4_6 : fr6.tmp 4 = some (.ptr nm 0 off lim) := (u6.other 4 rfl).trans t4_5
          have t5_6 : fr6.tmp 5 = some (.ptr nm 0 (off + 1) lim) := (u6.other 5 rfl).trans t5_5
          have t6_6 : fr6.tmp 6 = some (x) := (u6.other 6 rfl).trans t6_5
          have t7_6 : fr6.tmp 7 = some (p) := u6.get
          have n6 : fr6.n = 14 := u6.n.trans n5
          have m6 : fr6.defers = [] := u6.ds.trans m5
          clear u6
          refine wpD_dry (d := 8) (v := .ptr nm 0 off lim) ci5 (Nat.le_refl _) (by simp only [touches, g5]; first | exact tT _ _ rfl | rfl) g5b g5a (by rw [n6]; decide) (fun fr' H' hh => ev_move g5 (opd_tmp ((hh 0 (by rw [g5]; simp [Op.operands])).trans t0_6))) fun dn6 fr7 ci6 u7 => ?_
          have t0_7 : fr7.tmp 0 = some (.ptr nm 0 off lim) := (u7.other 0 rfl).trans t0_6
          have t3_7 : fr7.tmp 3 = some (.ptr nm 0 off lim) := (u7.other 3 rfl).trans t3_6
          have t4_7 : fr7.tmp 4 = some (.ptr nm 0 off lim) := (u7.other 4 rfl).trans t4_6
          have t5_7 : fr7.tmp 5 = some (.ptr nm 0 (off + 1) lim) := (u7.other 5 rfl).trans t5_6
          have t6_7 : fr7.tmp 6 = some (x) := (u7.other 6 rfl).trans t6_6
          have t7_7 : fr7.tmp 7 = some (p) := (u7.other 7 rfl).trans t7_6
          have t8_7 : fr7.tmp 8 = some (.ptr nm 0 off lim) := u7.get
          have n7 : fr7.n = 14 := u7.n.trans n6
          have m7 : fr7.defers = [] := u7.ds.trans m6
          clear u7
          refine wpD_dry (d := 9) (v := .ptr nm 0 off lim) ci6 (Nat.le_refl _) (by simp only [touches, g6]; first | exact tT _ _ rfl | rfl) g6b g6a (by rw [n7]; decide) (fun fr' H' hh => by simp only [evOp, g6, (opd_tmp ((hh 8 (by rw [g6]; simp [Op.operands])).trans t8_7))]) fun dn7 fr8 ci7 u8 => ?_
          have t0_8 : fr8.tmp 0 = some (.ptr nm 0 off lim) := (u8.other 0 rfl).trans t0_7
          have t3_8 : fr8.tmp 3 = some (.ptr nm 0 off lim) := (u8.other 3 rfl).trans t3_7
          have t4_8 : fr8.tmp 4 = some (.ptr nm 0 off lim) := (u8.other 4 rfl).trans t4_7
          have t5_8 : fr8.tmp 5 = some (.ptr nm 0 (off + 1) lim) := (u8.other 5 rfl).trans t5_7
          have t6_8 : fr8.tmp 6 = some (x) := (u8.other 6 rfl).trans t6_7
          have t7_8 : fr8.tmp 7 = some (p) := (u8.other 7 rfl).trans t7_7
          have t8_8 : fr8.tmp 8 = some (.ptr nm 0 off lim) := (u8.other 8 rfl).trans t8_7
          have t9_8 : fr8.tmp 9 = some (.ptr nm 0 off lim) := u8.get
          have n8 : fr8.n = 14 := u8.n.trans n7
          have m8 : fr8.defers = [] := u8.ds.trans m7
          clear u8
          refine wpD_dry (d := 10) (v := .ptr nm 0 (off + 1) lim) ci7 (Nat.le_refl _) (by simp only [touches, g7]; first | exact tT _ _ rfl | rfl) g7b g7a (by rw [n8]; decide) (fun fr' H' hh => by have h0 := ev_fieldAddr (H := H') g7 b1 b2 b4 b5 (opd_tmp ((hh 9 (by rw [g7]; simp [Op.operands])).trans t9_8)); rw [b3] at h0; exact h0) fun dn8 fr9 ci8 u9 => ?_
          have t0_9 : fr9.tmp 0 = some (.ptr nm 0 off lim) := (u9.other 0 rfl).trans t0_8
          have t3_9 : fr9.tmp 3 = some (.ptr nm 0 off lim) := (u9.other 3 rfl).trans t3_8
          have t4_9 : fr9.tmp 4 = some (.ptr nm 0 off lim) := (u9.other 4 rfl).trans t4_8
          have t5_9 : fr9.tmp 5 = some (.ptr nm 0 (off + 1) lim) := (u9.other 5 rfl).trans t5_8
          have t6_9 : fr9.tmp 6 = some (x) := (u9.other 6 rfl).trans t6_8
          have t7_9 : fr9.tmp 7 = some (p) := (u9.other 7 rfl).trans t7_8
          have t8_9 : fr9.tmp 8 = some (.ptr nm 0 off lim) := (u9.other 8 rfl).trans t8_8
          have t9_9 : fr9.tmp 9 = some (.ptr nm 0 off lim) := (u9.other 9 rfl).trans t9_8
          have t10_9 : fr9.tmp 10 = some (.ptr nm 0 (off + 1) lim) := u9.get
          have n9 : fr9.n = 14 := u9.n.trans n8
          have m9 : fr9.defers = [] := u9.ds.trans m8
          clear u9
          refine wpD_ld (ti := tis) (s := 10) (d := 11) (v := x) ci8 (Nat.le_refl _) g8 s1 t10_9 hnm g8b g8a (by rw [n9]; decide) hld fun dn9 fr10 ci9 u10 => ?_
          have t0_10 : fr10.tmp 0 = some (.ptr nm 0 off lim) := (u10.other 0 rfl).trans t0_9
          have t3_10 : fr10.tmp 3 = some (.ptr nm 0 off lim) := (u10.other 3 rfl).trans t3_9
          have t4_10 : fr10.tmp 4 = some (.ptr nm 0 off lim) := (u10.other 4 rfl).trans t4_9
          have t5_10 : fr10.tmp 5 = some (.ptr nm 0 (off + 1) lim) := (u10.other 5 rfl).trans t5_9
          have t6_10 : fr10.tmp 6 = some (x) := (u10.other 6 rfl).trans t6_9
          have t7_10 : fr10.tmp 7 = some (p) := (u10.other 7 rfl).trans t7_9
          have t8_10 : fr10.tmp 8 = some (.ptr nm 0 off lim) := (u10.other 8 rfl).trans t8_9
          have t9_10 : fr10.tmp 9 = some (.ptr nm 0 off lim) := (u10.other 9 rfl).trans t9_9
          have t10_10 : fr10.tmp 10 = some (.ptr nm 0 (off + 1) lim) := (u10.other 10 rfl).trans t10_9
          have t11_10 : fr10.tmp 11 = some (x) := u10.get
          have n10 : fr10.n = 14 := u10.n.trans n9
          have m10 : fr10.defers = [] := u10.ds.trans m9
          clear u10
          refine wpD_dry (d := 12) (v := .int .i64 n) ci9 (Nat.le_refl _) (by obtain ⟨u1, u2, u3, u4, u5⟩ := tis; simp only at s4; subst s4; simp only [touches, g9, g9c, g9f, s1]; rw [← Array.any_toList, g9e]; rfl) g9b g9a (by rw [n10]; decide) (fun fr' H' hh => by simp only [evOp, g9, g9c, g9e, g9f, opds, (opd_tmp ((hh 11 (by rw [g9]; exact call_mem g9c (by rw [g9e]; simp))).trans t11_10)), Option.bind_some, Option.map_some, hlen]) fun dn10 fr11 ci10 u11 => ?_
          have t0_11 : fr11.tmp 0 = some (.ptr nm 0 off lim) := (u11.other 0 rfl).trans t0_10
          have t3_11 : fr11.tmp 3 = some (.ptr nm 0 off lim) := (u11.other 3 rfl).trans t3_10
          have t4_11 : fr11.tmp 4 = some (.ptr nm 0 off lim) := (u11.other 4 rfl).trans t4_10
          have t5_11 : fr11.tmp 5 = some (.ptr nm 0 (off + 1) lim) := (u11.other 5 rfl).trans t5_10
          have t6_11 : fr11.tmp 6 = some (x) := (u11.other 6 rfl).trans t6_10
          have t7_11 : fr11.tmp 7 = some (p) := (u11.other 7 rfl).trans t7_10
          have t8_11 : fr11.tmp 8 = some (.ptr nm 0 off lim) := (u11.other 8 rfl).trans t8_10
          have t9_11 : fr11.tmp 9 = some (.ptr nm 0 off lim) := (u11.other 9 rfl).trans t9_10
          have t10_11 : fr11.tmp 10 = some (.ptr nm 0 (off + 1) lim) := (u11.other 10 rfl).trans t10_10
          have t11_11 : fr11.tmp 11 = some (x) := (u11.other 11 rfl).trans t11_10
          have t12_11 : fr11.tmp 12 = some (.int .i64 n) := u11.get
          have n11 : fr11.n = 14 := u11.n.trans n10
          have m11 : fr11.defers = [] := u11.ds.trans m10
          clear u11
          obtain ⟨K, hk1, hk2, hk3⟩ := hus
          have hfree : freeOf (Region.before ops) (0 + 1 + 1 + 1 + 1 + 1 + 1 + 1 + 1 + 1 + 1) dn10 = [] := freeOf_nil ci10 d3
          have m7 : Operand.tmp 7 ∈ q10.op.operands.toList := by rw [g10]; exact call_mem g10c (by rw [g10e]; simp)
          have m12 : Operand.tmp 12 ∈ q10.op.operands.toList := by rw [g10]; exact call_mem g10c (by rw [g10e]; simp)
          refine wpD_step (fp := .writes p.nm) (out := .val s) (K := K) (want_free g10b) ?_ (by simp) (by rw [hfree]; rfl) ?_ (.inl rfl) hk2 ?_
          · simp only [fpOf, touches, g10, g10c, Bool.not_true, cond_false, nmsOf, g10e, List.flatMap_cons, List.flatMap_nil, nmOf, t7_11, t12_11, V.nm, List.append_nil]
          · rw [hfree]
            simp only [evOp, g10, g10c, g10e, g10f, opds, opd_tmp ((restr_tmp (looks_mem m7)).trans t7_11), opd_tmp ((restr_tmp (looks_mem m12)).trans t12_11), Option.bind_some, Option.map_some, List.flatMap_nil]
            exact hk1
          · rw [hfree, List.flatMap_nil, hk3, g10a]
            have u12 := put_upd (v := s) (fr := fr11) (d := 13) (by rw [n11]; decide)
            have t13 := u12.get
            have n12 := u12.n.trans n11
            have m12 := u12.ds.trans m11
            generalize fr11.put (some 13) s = fr12 at *
            refine wpD_step (fp := .none) (out := .val s) (K := tinyH H' .none ?dels) (want_free g11b) (by simp only [fpOf, touches, g11, Op.operands]; rw [← Array.any_toList]; rfl) (by simp) ?g1 ?g2 (.inl rfl) (Nat.le_refl _) ?g3
            case g2 => exact ev_assign g11 (opd_tmp ((restr_tmp (looks_mem (by rw [g11]; simp [Op.operands]))).trans t13))
            case g1 =>
              rw [← Bool.not_eq_true, List.any_eq_true]
              rintro ⟨d, _, hcl⟩
              rw [clash_none] at hcl
              cases hcl
            case g3 =>
              rw [joinH_none, g11a]
              have u13 := put_upd (v := s) (fr := fr12) (d := 2) (by rw [n12]; decide)
              refine wpD_nil (thenQ_go (w2_ret ⟨.inr rfl, ?_⟩))
              refine ⟨_, ends0 (u13.ds.trans m12), [s], ?_, rfl, rfl⟩
              rw [hres]
              exact res_tmp u13.get res_nil
        · cases d2
      · cases d1
    · cases c4
  · cases c1
end
theorem joinH_one {H : Heap} {bn : Nat} {x : O} (h : bn < H.next) : joinH H ((tinyH H (.writes [bn]) []).put bn x) (.writes [bn]) [] = H.put bn x := by
  have hb : Nat.blt bn H.next = true := by rw [Nat.blt_eq]; exact h
  have hf : [bn].filter (fun n => Nat.blt n H.next && !([] : List Nat).any fun m => Nat.beq n m) = [bn] := by
    simp only [List.filter_cons, hb, List.any_nil, Bool.not_false, Bool.and_self, if_true, List.filter_nil]
  have hg : ((tinyH H (.writes [bn]) []).put bn x).objs.get bn = some x := heap_put_get
  have hn : ((tinyH H (.writes [bn]) []).put bn x).next = H.next := rfl
  simp only [joinH, hn, hf, Nat.sub_self, List.range'_zero, List.append_nil, copyT, hg]
  rfl
theorem joinH_no {H : Heap} : joinH H (tinyH H (.writes []) []) (.writes []) [] = H := by
  have hn : (tinyH H (.writes []) []).next = H.next := rfl
  simp only [joinH, hn, List.filter_nil, Nat.sub_self, List.range'_zero, List.append_nil, copyT]
theorem prim_of {K : Nat → Type} {C : Cfg Int Bool (List UInt8) Prop (fun c => List (K c))} {F tB tS tQ tI tU : Nat} (hpr : C.prim = fun f => Nat.beq f F) (hq : C.E.spec F = none) (hc : strChk C.E F tB tS tQ tI tU = true) (hu : ∀ el, C.codec el = some 0 → el = tU) : PrimOk C := by
  intro f hf
  rw [hpr] at hf
  have hf := Nat.eq_of_beq_eq_true hf
  subst hf
  intro H nm off lim vs e ex wf hg h1 h2
  have htys : strTys C.E tB tS tQ tU = true := by
    have h := hc
    unfold strChk at h
    split at h
    · simp only [Bool.and_eq_true] at h
      exact h.1.2
    · cases h
  obtain ⟨-, ⟨tis, s1, s2, s3, s4⟩, ⟨tq, q1, q2⟩, ⟨tu, v1, v2⟩⟩ := strTys_eq htys
  refine ⟨fun hx => ?_, fun bn g len cells el floor frz eb l hx hgb hlen hfl hpos hle hcod hby hho hro hne => ?_⟩
  · refine str_walk (p := .nilp) (n := 0) hq hc wf hg h1 h2 hx rfl (fun H0 => rfl) (fun H0 => ?_) ⟨tinyH H (.writes []) [], ?_, Nat.le_refl _, joinH_no⟩
    · simp only [builtinV, s1, Option.bind_some, s4, goIntV]
      rfl
    · simp only [builtinV, V.nm, if_true]
  · have hel := hu el hcod
    subst hel
    have hbn : bn < H.next := by
      by_cases h : bn < H.next
      · exact h
      · rw [wf bn (by omega)] at hgb
        cases hgb
    have hb : Nat.blt 0 len = true := by rw [Nat.blt_eq]; exact hpos
    have hbb : Nat.blt bn H.next = true := by rw [Nat.blt_eq]; exact hbn
    have hf : [bn].filter (fun n => Nat.blt n H.next && !([] : List Nat).any fun m => Nat.beq n m) = [bn] := by
      simp only [List.filter_cons, hbb, List.any_nil, Bool.not_false, Bool.and_self, if_true, List.filter_nil]
    have hgt : (tinyH H (.writes [bn]) []).get bn = some (.row cells el g floor frz eb) := by
      rw [← hgb]
      simp only [tinyH, hf, Heap.get, get_copyT, List.mem_singleton, if_true]
    have hup : (tinyH H (.writes [bn]) []).upd bn (.row cells el g floor (max frz len) eb) = some ((tinyH H (.writes [bn]) []).put bn (.row cells el g floor (max frz len) eb)) := heap_upd hro
    refine str_walk (p := .ptr bn g 0 (0 + len * 1)) (n := len) (H' := H.put bn (.row cells el g floor (max frz len) eb)) hq hc wf hg h1 h2 hx rfl (fun H0 => ?_) (fun H0 => ?_) ⟨(tinyH H (.writes [bn]) []).put bn (.row cells el g floor (max frz len) eb), ?_, Nat.le_refl _, joinH_one hbn⟩
    · simp only [builtinV, hb, cond_true]
    · simp only [builtinV, s1, Option.bind_some, s4, goIntV]
    · have b1 : Nat.ble floor g = true := by rw [Nat.ble_eq]; exact hfl
      have b2 : Nat.ble (0 + len) (0 + len * 1) = true := by rw [Nat.ble_eq]; omega
      have b3 : Nat.ble (0 + len * 1) cells.length = true := by rw [Nat.ble_eq]; omega
      have hcond : el = el ∧ tu.size = 1 ∧ (0 : Int) < (len : Int) ∧ (len : Int) ≤ 140737488355328 ∧ g = g := ⟨rfl, v2, by omega, by omega, rfl⟩
      have htk : (cells.drop 0).take len = cells := by
        rw [List.drop_zero, List.take_of_length_le (by omega)]
      have hrd : readCells (tinyH H (.writes [bn]) []) len (.ptr bn g 0 (0 + len * 1)) = some cells := by
        simp only [readCells, hgt, b1, b2, b3, Bool.and_self, cond_true, htk]
        exact noHoles_all hho
      simp only [builtinV, V.nm, q1, q2, hgt, Option.bind_some, v1, hcond, and_self, if_true, Int.toNat_natCast, hrd, hby, hup, Option.map_some]
theorem post_true_mem {P : Program} {Hd : Type} {enc : TypeId × Value → Hd} {g : Func} {s : Go.ChangeSpec} {apart fresh handsOn : Bool} {W w' : World} {args : Array Value} {ds gs : List (DataW Hd)} {before : List MemPlace} {t : TypeId}
    (hW : DataW.Whole enc P g.params.toList s.vars apart W args.toList ds gs before) (hv : s.vars = []) (ht : g.resultTypes = #[t]) (hu : P.underlying t = some .bool)
    (hfn : s.fn Hd ds = { results := [.lit (.bool true)], args := ds }) (hargs : ∃ pa, DataW.TrodAll enc P w' 0 (fun b => decide (b < W.heap.size)) true g.params.toList args.toList ds pa) (hk : ∀ may, W.keptBut w' may) :
    s.post enc P g apart fresh handsOn false W args (.bool true) w' := by
  have hW' := hW
  obtain ⟨p, q, hA, hV, rfl, _, _⟩ := hW
  rw [hv] at hV
  obtain ⟨rfl, rfl⟩ := Go.ChangeShapes.trodVars_none hV
  obtain ⟨pa, hpa⟩ := hargs
  refine ⟨ds, [], p ++ [], [], pa, [], hW', ?_, ?_, ?_, hk _, fun h => by cases h⟩
  · rw [ht, List.append_nil, hfn]
    exact Go.ChangeShapes.trodAll_mk1 (Go.RowKit.shut_bool hu true)
  · rw [List.append_nil, hfn]
    exact hpa
  · rw [hv, List.append_nil, hfn]
    rfl
end Go.E3
/- E3: A CLOSED CALL that looks at listed variables, as a contract. -/
namespace Go.E2
open Go
def Fact.closedOk (F : Fact) : Bool :=
  F.args.isEmpty && (F.pre.all fun x => match assoc (F.pre.map fun x => (x.1, x.1)) x.1, renO (assoc (F.pre.map fun x => (x.1, x.1))) x.2 with
    | some k, some o => Nat.beq k x.1 && eqOB2 o x.2
    | _, _ => false) && oneOne (F.pre.map fun x => (x.1, x.1)) && (F.pre.all fun x => Nat.blt x.1 F.next) && Nat.beq F.ro F.next && eqVB F.ret ((renV (fun _ => none) F.ret).getD (.tuple [.nilp]))
theorem tryC_of {F : Fact} {H : Heap} (hc : F.closedOk = true) (hg : H.glob = F.glob) (ho : ∀ x ∈ F.pre, H.get x.1 = some x.2 ∧ x.1 < H.next) : F.tryC [] H = some (.ret F.ret, H) := by
  simp only [Fact.closedOk, Bool.and_eq_true] at hc
  obtain ⟨⟨⟨⟨⟨c1, c2⟩, c3⟩, c4⟩, c5⟩, c6⟩ := hc
  have ha : F.args = [] := List.isEmpty_iff.1 c1
  have hfit : F.fits (F.pre.map fun x => (x.1, x.1)) [] H = true := by
    simp only [Fact.fits, Bool.and_eq_true]
    refine ⟨⟨⟨⟨?_, ?_⟩, ?_⟩, c3⟩, ?_⟩
    · rw [ha]; rfl
    · rw [hg]; exact Nat.beq_refl _
    · unfold holdsR
      rw [List.all_eq_true]
      intro x hx
      have := List.all_eq_true.1 c2 x hx
      split at this
      · rename_i k o h1 h2
        simp only [Bool.and_eq_true] at this
        have hk := Nat.eq_of_beq_eq_true this.1
        subst hk
        simp only [h1, h2, (ho x hx).1]
        exact this.2
      · cases this
    · rw [List.all_eq_true]
      intro x hx
      obtain ⟨y, hy, rfl⟩ := List.mem_map.1 hx
      have h1 := List.all_eq_true.1 c4 y hy
      have h2 : Nat.blt y.1 H.next = true := by rw [Nat.blt_eq]; exact (ho y hy).2
      have h3 : Nat.ble F.ro y.1 = false := by
        rw [← Bool.not_eq_true, Nat.ble_eq, Nat.eq_of_beq_eq_true c5]
        rw [Nat.blt_eq] at h1
        omega
      simp only [h1, h2, h3, Nat.beq_refl, Bool.and_true, Bool.or_true, Bool.not_false, Bool.true_or]
  simp only [Fact.tryC, hfit, c5, c6, Bool.and_true, cond_true]
end Go.E2
namespace Go.E3
open Go Go.E2
theorem look_of_nodup {α : Type} : ∀ {l : List (Nat × α)}, distinct (l.map (·.1)) = true → ∀ {x : Nat × α}, x ∈ l → look l x.1 = some x.2
  | [], _, x, hx => by cases hx
  | y :: l, h, x, hx => by
    simp only [List.map_cons, distinct, Bool.and_eq_true, Bool.not_eq_true'] at h
    simp only [look, cond_eq_ite, Nat.beq_eq]
    rcases List.mem_cons.1 hx with rfl | hx
    · rw [if_pos rfl]
    · rw [if_neg]
      · exact look_of_nodup h.2 hx
      · intro he
        have h1 := h.1
        rw [← Bool.not_eq_true, List.any_eq_true] at h1
        exact h1 ⟨x.1, List.mem_map.2 ⟨x, hx, rfl⟩, by rw [he]; exact Nat.beq_refl _⟩
end Go.E3
/- PLAIN LEAN FOR CONDITIONS: elements, bytes, parts of lists by numbers; places up to which something holds; cuts at a byte. No program in sight. -/
namespace Go.E3
theorem bx_bd (s : List UInt8) (i : Int) : 0 ≤ bx s i ∧ bx s i ≤ 255 := by
  unfold bx
  have := (s.getD i.toNat 0).toNat_lt
  omega
theorem ix_get {α : Type} [Inhabited α] {l : List α} {i : Nat} (h : i < l.length) : ix l (i : Int) = l[i] := by
  simp [ix, List.getD_eq_getElem?_getD, h]
theorem ix_cons_succ {α : Type} [Inhabited α] {a : α} {l : List α} {i : Int} (h : 0 ≤ i) : ix (a :: l) (i + 1) = ix l i := by
  have : (i + 1).toNat = i.toNat + 1 := by omega
  simp [ix, this]
theorem ix_append_left {α : Type} [Inhabited α] {l m : List α} {i : Int} (h0 : 0 ≤ i) (h : i < ln l) : ix (l ++ m) i = ix l i := by
  have : i.toNat < l.length := by simp only [ln] at h; omega
  simp [ix, List.getD_eq_getElem?_getD, List.getElem?_append_left this]
theorem fr_zero {α : Type} (l : List α) : fr l 0 = l := rfl
theorem upto_zero {α : Type} (l : List α) : upto l 0 = [] := rfl
theorem fr_all {α : Type} {l : List α} {i : Int} (h : ln l ≤ i) : fr l i = [] := by
  apply List.drop_of_length_le; simp only [ln] at h; omega
theorem upto_all {α : Type} {l : List α} {i : Int} (h : ln l ≤ i) : upto l i = l := by
  apply List.take_of_length_le; simp only [ln] at h; omega
theorem fr_cons {α : Type} [Inhabited α] {l : List α} {i : Int} (h0 : 0 ≤ i) (h : i < ln l) : fr l i = ix l i :: fr l (i + 1) := by
  have hi : i.toNat < l.length := by simp only [ln] at h; omega
  have e : (i + 1).toNat = i.toNat + 1 := by omega
  unfold fr ix
  rw [List.drop_eq_getElem_cons hi, e, List.getD_eq_getElem?_getD, List.getElem?_eq_getElem hi]
  rfl
theorem upto_succ {α : Type} [Inhabited α] {l : List α} {i : Int} (h0 : 0 ≤ i) (h : i < ln l) : upto l (i + 1) = upto l i ++ [ix l i] := by
  have hi : i.toNat < l.length := by simp only [ln] at h; omega
  have e : (i + 1).toNat = i.toNat + 1 := by omega
  unfold upto ix
  rw [e, List.take_add_one, List.getD_eq_getElem?_getD, List.getElem?_eq_getElem hi]
  rfl
theorem ln_fr {α : Type} {l : List α} {i : Int} (h0 : 0 ≤ i) (h : i ≤ ln l) : ln (fr l i) = ln l - i := by
  simp only [ln, fr, List.length_drop] at *; omega
theorem ln_upto {α : Type} {l : List α} {i : Int} (h0 : 0 ≤ i) (h : i ≤ ln l) : ln (upto l i) = i := by
  simp only [ln, upto, List.length_take] at *; omega
theorem ln_sub {α : Type} {l : List α} {i j : Int} (h0 : 0 ≤ i) (h1 : i ≤ j) (h : j ≤ ln l) : ln (sub l i j) = j - i := by
  simp only [ln, sub, List.length_drop, List.length_take] at *; omega
theorem ln_nonneg {α : Type} (l : List α) : 0 ≤ ln l := Int.natCast_nonneg _
theorem ln_append {α : Type} (l m : List α) : ln (l ++ m) = ln l + ln m := by simp [ln]
theorem ln_cons {α : Type} (a : α) (l : List α) : ln (a :: l) = ln l + 1 := by simp [ln]
theorem ln_nil {α : Type} : ln ([] : List α) = 0 := rfl
theorem ln_nil_le {α : Type} : ln ([] : List α) ≤ 0 := Int.le_refl _
theorem ln_zero {α : Type} {l : List α} (h : ln l ≤ 0) : l = [] := by
  cases l with
  | nil => rfl
  | cons a l => simp only [ln, List.length_cons] at h; omega
theorem short_app {α : Type} {l m : List α} (h : ln l + ln m ≤ 1000000000) : Short (l.length + m.length) := by simp only [ln, Short] at *; omega
theorem short_snoc {α : Type} {l : List α} {a : α} (h : ln l + 1 ≤ 1000000000) : Short (l.length + [a].length) := by simp only [ln, Short, List.length_cons, List.length_nil] at *; omega
theorem ln_snoc {α : Type} (l : List α) (a : α) : ln (l ++ [a]) = ln l + 1 := by simp [ln]
theorem sub_fr {α : Type} {l : List α} {i j : Int} (h0 : 0 ≤ i) (h1 : i ≤ j) : sub l i j = upto (fr l i) (j - i) := by
  simp only [sub, fr, upto]
  rw [List.take_drop]
  have : i.toNat + (j - i).toNat = j.toNat := by omega
  rw [this]
theorem fr_fr {α : Type} {l : List α} {i j : Int} (h0 : 0 ≤ i) (h1 : 0 ≤ j) : fr (fr l i) j = fr l (i + j) := by
  simp only [fr, List.drop_drop]
  have : i.toNat + j.toNat = (i + j).toNat := by omega
  rw [this]
theorem bx_fr {s : List UInt8} {i j : Int} (h0 : 0 ≤ i) (h1 : 0 ≤ j) : bx (fr s i) j = bx s (i + j) := by
  have : i.toNat + j.toNat = (i + j).toNat := by omega
  simp only [bx, fr, List.getD_eq_getElem?_getD, List.getElem?_drop, this]
theorem bx_sub {s : List UInt8} {i j k : Int} (h0 : 0 ≤ i) (hk : 0 ≤ k) (h1 : i + k < j) : bx (sub s i j) k = bx s (i + k) := by
  have : i.toNat + k.toNat = (i + k).toNat := by omega
  simp only [bx, sub, List.getD_eq_getElem?_getD, List.getElem?_drop, this]
  rw [List.getElem?_take_of_lt (by omega)]
theorem bx_ix (s : List UInt8) (i : Int) : bx s i = ((ix s i).toNat : Int) := rfl
theorem mem_ix {α : Type} [Inhabited α] {l : List α} {a : α} (h : a ∈ l) : ∃ i : Int, 0 ≤ i ∧ i < ln l ∧ ix l i = a := by
  obtain ⟨i, hi, rfl⟩ := List.mem_iff_getElem.1 h
  exact ⟨i, by omega, by simp only [ln]; omega, ix_get hi⟩
theorem ix_mem {α : Type} [Inhabited α] {l : List α} {i : Int} (h0 : 0 ≤ i) (h : i < ln l) : ix l i ∈ l := by
  have hi : i.toNat < l.length := by simp only [ln] at h; omega
  have : ix l i = l[i.toNat] := by simp [ix, List.getD_eq_getElem?_getD, hi]
  rw [this]; exact List.getElem_mem hi
def runTo (p : Int → Bool) (s : List UInt8) (i : Int) : Int := if h : 0 ≤ i ∧ i < ln s ∧ p (bx s i) = true then runTo p s (i + 1) else i
 termination_by (ln s - i).toNat
 decreasing_by omega
theorem runTo_ge {p : Int → Bool} {s : List UInt8} {i : Int} : i ≤ runTo p s i := by
  fun_induction runTo p s i with
  | case1 i h ih => omega
  | case2 i h => omega
theorem runTo_le {p : Int → Bool} {s : List UInt8} {i : Int} (hi : i ≤ ln s) : runTo p s i ≤ ln s := by
  fun_induction runTo p s i with
  | case1 i h ih => exact ih (by omega)
  | case2 i h => exact hi
theorem runTo_step {p : Int → Bool} {s : List UInt8} {i : Int} (h0 : 0 ≤ i) (h : i < ln s) (hp : p (bx s i) = true) : runTo p s i = runTo p s (i + 1) := by
  rw [runTo, dif_pos ⟨h0, h, hp⟩]
theorem runTo_stop {p : Int → Bool} {s : List UInt8} {i : Int} (h : ln s ≤ i ∨ p (bx s i) = false) : runTo p s i = i := by
  rw [runTo, dif_neg]
  rintro ⟨_, h1, h2⟩
  rcases h with h | h
  · omega
  · rw [h2] at h; cases h
theorem runTo_gt {p : Int → Bool} {s : List UInt8} {i : Int} (h0 : 0 ≤ i) (h : i < ln s) (hp : p (bx s i) = true) : i + 1 ≤ runTo p s i := by
  rw [runTo_step h0 h hp]; exact runTo_ge
theorem runTo_end {p : Int → Bool} {s : List UInt8} {i : Int} (h0 : 0 ≤ i) (h : runTo p s i < ln s) : p (bx s (runTo p s i)) = false := by
  fun_induction runTo p s i with
  | case1 i hi ih => exact ih (by omega) h
  | case2 i hi => 
    rw [← Bool.not_eq_true]
    exact fun hp => hi ⟨h0, h, hp⟩
theorem runTo_all {p : Int → Bool} {s : List UInt8} {i : Int} : ∀ j, i ≤ j → j < runTo p s i → p (bx s j) = true := by
  fun_induction runTo p s i with
  | case1 i hi ih =>
    intro j h1 h2
    by_cases h : j = i
    · rw [h]; exact hi.2.2
    · exact ih j (by omega) h2
  | case2 i hi => intro j h1 h2; omega
theorem runTo_eq {p : Int → Bool} {s : List UInt8} {i k : Int} (h0 : 0 ≤ i) (hk : i ≤ k) (hl : k ≤ ln s) (ha : ∀ j, i ≤ j → j < k → p (bx s j) = true) (he : k = ln s ∨ p (bx s k) = false) : runTo p s i = k := by
  fun_induction runTo p s i with
  | case1 i hi ih =>
    by_cases h : i = k
    · subst h
      rcases he with he | he
      · omega
      · rw [hi.2.2] at he; cases he
    · exact ih (by omega) (by omega) fun j h1 h2 => ha j (by omega) h2
  | case2 i hi =>
    by_cases h : i = k
    · exact h
    · exact absurd ⟨h0, by omega, ha i (by omega) (by omega)⟩ hi
theorem byte_is {b : UInt8} {c : Int} (h0 : 0 ≤ c) (h1 : c < 256) : (b == c.toNat.toUInt8) = decide ((b.toNat : Int) = c) := by
  rw [Bool.eq_iff_iff, beq_iff_eq, decide_eq_true_eq]
  have e : c.toNat.toUInt8.toNat = c.toNat := by
    simp [Nat.toUInt8, UInt8.toNat_ofNat']
    omega
  constructor
  · rintro rfl
    omega
  · intro h
    apply UInt8.toNat_inj.1
    omega
theorem idxB_none {s : List UInt8} {c : Int} (h0 : 0 ≤ c) (h1 : c < 256) (h : idxB s c < 0) : ∀ i, 0 ≤ i → i < ln s → bx s i ≠ c := by
  unfold idxB at h
  split at h
  · omega
  · rename_i hi
    rw [List.findIdx?_eq_none_iff] at hi
    intro i h2 h3 he
    have := hi (ix s i) (ix_mem h2 h3)
    rw [byte_is h0 h1, ← bx_ix, he] at this
    simp at this
theorem idxB_some {s : List UInt8} {c : Int} (h0 : 0 ≤ c) (h1 : c < 256) (h : 0 ≤ idxB s c) : idxB s c < ln s ∧ bx s (idxB s c) = c ∧ ∀ i, 0 ≤ i → i < idxB s c → bx s i ≠ c := by
  unfold idxB at h ⊢
  split at h
  · rename_i i hi
    rw [List.findIdx?_eq_some_iff_getElem] at hi
    obtain ⟨h2, h3, h4⟩ := hi
    rw [byte_is h0 h1] at h3
    refine ⟨by simp only [ln]; omega, ?_, fun j hj0 hj he => ?_⟩
    · rw [bx_ix, ix_get h2]; simpa using h3
    · have hj' : j.toNat < i := by omega
      have := h4 j.toNat hj'
      rw [byte_is h0 h1] at this
      have hx : bx s j = ((s[j.toNat]'(by omega)).toNat : Int) := by
        rw [bx_ix]
        have := ix_get (l := s) (i := j.toNat) (by omega)
        rw [show ((j.toNat : Nat) : Int) = j by omega] at this
        rw [this]
      rw [hx] at he
      simp [he] at this
  · omega
theorem idxB_ge (s : List UInt8) (c : Int) : -1 ≤ idxB s c := by
  unfold idxB
  split <;> omega
theorem idxB_lt (s : List UInt8) (c : Int) : idxB s c < ln s ∨ idxB s c = -1 := by
  unfold idxB
  split
  · rename_i i hi
    rw [List.findIdx?_eq_some_iff_getElem] at hi
    obtain ⟨h2, _⟩ := hi
    left; simp only [ln]; omega
  · right; rfl
def splitI (c : Int) : List UInt8 → List (List UInt8)
  | [] => [[]]
  | b :: l => if (b.toNat : Int) = c then [] :: splitI c l else match splitI c l with
    | [] => [[b]]
    | x :: xs => (b :: x) :: xs
theorem splitI_ne (c : Int) (s : List UInt8) : splitI c s ≠ [] := by
  cases s with
  | nil => simp [splitI]
  | cons b l =>
    unfold splitI
    split
    · simp
    · split <;> simp
theorem splitI_none {c : Int} : ∀ {s : List UInt8}, (∀ b ∈ s, (b.toNat : Int) ≠ c) → splitI c s = [s]
  | [], _ => rfl
  | b :: l, h => by
    rw [splitI, if_neg (h b List.mem_cons_self), splitI_none fun x hx => h x (List.mem_cons_of_mem _ hx)]
theorem splitI_cut {c : Int} {b : UInt8} (hb : (b.toNat : Int) = c) : ∀ {s t : List UInt8}, (∀ x ∈ s, (x.toNat : Int) ≠ c) → splitI c (s ++ b :: t) = s :: splitI c t
  | [], t, _ => by rw [List.nil_append, splitI, if_pos hb]
  | a :: l, t, h => by
    rw [List.cons_append, splitI, if_neg (h a List.mem_cons_self), splitI_cut hb fun x hx => h x (List.mem_cons_of_mem _ hx)]
theorem splitI_fr {c : Int} {s : List UInt8} {i k : Int} (h0 : 0 ≤ i) (hk : i ≤ k) (hl : k ≤ ln s) (ha : ∀ j, i ≤ j → j < k → bx s j ≠ c) (he : k = ln s ∨ bx s k = c) :
    splitI c (fr s i) = if k = ln s then [sub s i k] else sub s i k :: splitI c (fr s (k + 1)) := by
  have hmem : ∀ x ∈ sub s i k, (x.toNat : Int) ≠ c := by
    intro x hx
    obtain ⟨j, h1, h2, rfl⟩ := mem_ix hx
    rw [ln_sub h0 hk hl] at h2
    have := bx_sub (s := s) (i := i) (j := k) (k := j) h0 h1 (by omega)
    rw [← bx_ix, this]
    exact ha _ (by omega) (by omega)
  have hs : sub s i k ++ fr s k = fr s i := by
    rw [sub_fr h0 hk]
    have : fr s k = fr (fr s i) (k - i) := by rw [fr_fr h0 (by omega)]; congr 1; omega
    rw [this]
    exact List.take_append_drop _ _
  by_cases hkl : k = ln s
  · rw [if_pos hkl, ← hs, fr_all (l := s) (i := k) (by omega), List.append_nil, splitI_none hmem]
  · rw [if_neg hkl, ← hs, fr_cons (by omega : 0 ≤ k) (by omega), splitI_cut ?_ hmem]
    rcases he with he | he
    · exact absurd he hkl
    · rw [← bx_ix]; exact he
theorem splitI_len (c : Int) : ∀ s : List UInt8, ln (splitI c s) = (s.countP (fun b => decide ((b.toNat : Int) = c)) : Nat) + 1
  | [] => rfl
  | b :: l => by
    have ih := splitI_len c l
    unfold splitI
    split
    · rename_i h
      rw [ln_cons, ih, List.countP_cons_of_pos (by simpa using h)]
      omega
    · rename_i h
      rw [List.countP_cons_of_neg (by simpa using h)]
      split
      · rename_i hn; exact absurd hn (splitI_ne c l)
      · rename_i x xs hx
        rw [hx] at ih
        rw [ln_cons] at ih ⊢
        exact ih
theorem cntB_eq {s : List UInt8} {c : Int} (h0 : 0 ≤ c) (h1 : c < 256) : cntB s c = (s.countP (fun b => decide ((b.toNat : Int) = c)) : Nat) := by
  unfold cntB
  simp only [byte_is h0 h1]
theorem cntB_bd (s : List UInt8) (c : Int) : 0 ≤ cntB s c ∧ cntB s c ≤ ln s := by
  unfold cntB ln
  have := List.countP_le_length (p := fun b => b == c.toNat.toUInt8) (l := s)
  omega
theorem ln_splitI {s : List UInt8} {c : Int} (h0 : 0 ≤ c) (h1 : c < 256) : ln (splitI c s) = cntB s c + 1 := by
  rw [splitI_len, cntB_eq h0 h1]
theorem splitI_step {s : List UInt8} {c : Int} (h0 : 0 ≤ c) (h1 : c < 256) (h : 0 ≤ idxB s c) : splitI c s = upto s (idxB s c) :: splitI c (fr s (idxB s c + 1)) := by
  obtain ⟨a, b, d⟩ := idxB_some h0 h1 h
  have := splitI_fr (c := c) (s := s) (i := 0) (k := idxB s c) (Int.le_refl 0) h (by omega) (fun j h2 h3 => d j h2 h3) (.inr b)
  rw [fr_zero, if_neg (by omega), sub_fr (Int.le_refl 0) h, fr_zero, Int.sub_zero] at this
  exact this
theorem splitI_last {s : List UInt8} {c : Int} (h0 : 0 ≤ c) (h1 : c < 256) (h : idxB s c < 0) : splitI c s = [s] := by
  refine splitI_none fun b hb => ?_
  obtain ⟨i, h2, h3, rfl⟩ := mem_ix hb
  exact idxB_none h0 h1 h i h2 h3
theorem splitI_pos (c : Int) (s : List UInt8) : 1 ≤ ln (splitI c s) := by
  rw [splitI_len]; omega
theorem splitI_one {s : List UInt8} {c : Int} (h0 : 0 ≤ c) (h1 : c < 256) (h : ln (splitI c s) ≤ 1) : splitI c s = [s] := by
  by_cases hi : idxB s c < 0
  · exact splitI_last h0 h1 hi
  · rw [splitI_step h0 h1 (by omega), ln_cons] at h
    have := splitI_pos c (fr s (idxB s c + 1))
    omega
theorem upto_set {α : Type} {l : List α} {i : Int} {a : α} (h0 : 0 ≤ i) (h : i < ln l) : upto (l.set i.toNat a) (i + 1) = upto l i ++ [a] := by
  have hi : i.toNat < l.length := by simp only [ln] at h; omega
  have e : (i + 1).toNat = i.toNat + 1 := by omega
  unfold upto
  rw [e, List.take_add_one, List.take_set_of_le (Nat.le_refl _), List.getElem?_set_self hi]
  rfl
theorem ln_set {α : Type} {l : List α} {i : Nat} {a : α} : ln (l.set i a) = ln l := by simp [ln]
theorem ln_replicate {α : Type} {n : Int} {a : α} (h : 0 ≤ n) : ln (List.replicate n.toNat a) = n := by simp only [ln, List.length_replicate]; omega
theorem splitI_mem_len {c : Int} : ∀ {s x : List UInt8}, x ∈ splitI c s → ln x ≤ ln s
  | [], x, h => by simp [splitI] at h; subst h; exact Int.le_refl _
  | b :: l, x, h => by
    rw [ln_cons]
    unfold splitI at h
    split at h
    · rcases List.mem_cons.1 h with rfl | h
      · have := ln_nonneg l; rw [ln_nil]; omega
      · have := splitI_mem_len h; omega
    · split at h
      · rename_i hn; exact absurd hn (splitI_ne c l)
      · rename_i y ys hy
        rcases List.mem_cons.1 h with rfl | h
        · have : y ∈ splitI c l := by rw [hy]; exact List.mem_cons_self
          have := splitI_mem_len this
          rw [ln_cons]; omega
        · have : x ∈ splitI c l := by rw [hy]; exact List.mem_cons_of_mem _ h
          have := splitI_mem_len this
          omega
end Go.E3
